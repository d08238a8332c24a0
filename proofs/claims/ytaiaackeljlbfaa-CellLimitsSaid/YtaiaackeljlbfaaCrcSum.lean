/- crc's New and Sum. -/
import Derived.Test.YtaiaackeljlbfaaCrcTable
namespace Go.Proofs.Ytaiaackeljlbfaa.Crc
open Go.RowKit Go.Proofs.YtaiaackeljlbfaaW.PrintWords Go.Proofs.YtaiaackeljlbfaaW.PrintLast Go.Proofs.YtaiaackeljlbfaaW.PrintMore Go.Proofs.Ytaiaackeljlbfaa.Mth Go.Proofs.Ytaiaackeljlbfaa.QC
set_option linter.unusedVariables false
set_option linter.unusedSimpArgs false

def zc : Array Value := #[.int .u32 0, .int .i32 0, .int .u32 0, .bool false] ++ Array.replicate 256 (.int .u32 0)
theorem zc_low (j : Nat) (hj : j < 4) : zc[j]? = (#[.int .u32 0, .int .i32 0, .int .u32 0, .bool false] : Array Value)[j]? := by
  unfold zc
  rw [Array.getElem?_append_left (by simpa using hj)]
theorem zc_fresh : Fresh zc := ⟨by simp only [zc, Array.size_append, Array.size_replicate]; rfl, zc_low 0 (by omega), zc_low 1 (by omega), zc_low 3 (by omega)⟩

/-- The table's type's zero, where the load told none. -/
theorem zv (w : World) : Sem.run Try.prog (zeroValue 83) w = .ok (.agg zc) w := by kernel_rfl
attribute [local go_sem] zv

set_option maxRecDepth 100000 in
set_option maxHeartbeats 4000000 in
theorem new_calls (w : World) : Calls Try.prog 43 #[] w fun e w' => e = .returned (.pointer (some ⟨w.heap.size, 0, none⟩)) ∧ w' = w.alloc (.cells zc 83 (0, 0)) := by
  go_enter Try.func43, Try.ntmps43
  go_wp2
  go_ret

  exact ⟨rfl, by first | rfl | kernel_rfl⟩


theorem new_block (w : World) : (w.alloc (.cells zc 83 (0, 0))).heap[w.heap.size]? = some (.cells zc 83 (0, 0)) := by
  show (w.heap.push _)[w.heap.size]? = _
  exact Array.getElem?_push_size

set_option maxRecDepth 100000 in
set_option maxHeartbeats 4000000 in
theorem sum_done (b : Nat) (cs : Array Value) (A : Option Addr) (c : Nat) (xs : List Int) (w : World) (hd : Done cs) (hb : w.heap[b]? = some (.cells cs 83 (0, 0))) (hX : Kd.C (Kd.int .u8) w A xs.length xs) :
    Calls Try.prog 44 #[.pointer (some ⟨b, 0, none⟩), .slice A xs.length c] w fun e w' => e = .returned (.int .u32 (crcSum xs)) ∧ w' = w := by
  have AD := Aside0.mk (add_done b cs A c xs 4294967295 w hd hb hX (by omega) (by omega))
  clear hd hb hX
  go_enter Try.func44, Try.ntmps44
  go_wp2_with (go_at_call 45; refine AD.out.mono ?_; rintro e w' ⟨rfl, rfl⟩)
  go_ret
  exact ⟨rfl, rfl⟩

set_option maxRecDepth 100000 in
set_option maxHeartbeats 4000000 in
theorem sum_first (b : Nat) (cs : Array Value) (A : Option Addr) (c : Nat) (xs : List Int) (w : World) (hd : Fresh cs) (hb : w.heap[b]? = some (.cells cs 83 (0, 0))) (hX : Kd.C (Kd.int .u8) w A xs.length xs) (hf : ∀ ad, A = some ad → 0 < xs.length → ad.block ≠ b) (hz : 0 < xs.length) :
    Calls Try.prog 44 #[.pointer (some ⟨b, 0, none⟩), .slice A xs.length c] w fun e w' => e = .returned (.int .u32 (crcSum xs)) ∧ (w.grownBy w' (some b) ∧ w'.heap[b]? = some (.cells (made cs) 83 (0, 0))) := by
  have AD := Aside0.mk (add_first b cs A c xs 4294967295 w hd hb hX (by omega) (by omega) hf hz)
  clear hd hb hX hf hz
  go_enter Try.func44, Try.ntmps44
  go_wp2_with (go_at_call 45; refine AD.out.mono ?_; rintro e w' ⟨rfl, hg, hc⟩; have HG := Aside0.mk hg; have HC := Aside0.mk hc; clear hg hc)
  go_ret
  exact ⟨rfl, HG.out, HC.out⟩

set_option maxRecDepth 100000 in
set_option maxHeartbeats 4000000 in
theorem sum_nil (b : Nat) (A : Option Addr) (c : Nat) (w : World) :
    Calls Try.prog 44 #[.pointer (some ⟨b, 0, none⟩), .slice A 0 c] w fun e w' => e = .returned (.int .u32 (crcSum [])) ∧ w' = w := by
  go_enter Try.func44, Try.ntmps44
  go_wp2_with (go_at_call 45; refine (add_nil b A c 4294967295 w).mono ?_; rintro e w' ⟨rfl, rfl⟩)
  go_ret
  exact ⟨rfl, rfl⟩

/-- A new table's sum: whatever the bytes. -/
theorem new_sum (b : Nat) (A : Option Addr) (c : Nat) (xs : List Int) (w : World) (hb : w.heap[b]? = some (.cells zc 83 (0, 0))) (hX : Kd.C (Kd.int .u8) w A xs.length xs) (hf : ∀ ad, A = some ad → 0 < xs.length → ad.block ≠ b) :
    Calls Try.prog 44 #[.pointer (some ⟨b, 0, none⟩), .slice A xs.length c] w fun e w' => e = .returned (.int .u32 (crcSum xs)) ∧ w.grownBy w' (some b) := by
  by_cases hz : 0 < xs.length
  · exact (sum_first b zc A c xs w zc_fresh hb hX hf hz).mono fun e w' h => ⟨h.1, h.2.1⟩
  · obtain rfl : xs = [] := List.eq_nil_of_length_eq_zero (by omega)
    exact (sum_nil b A c w).mono fun e w' h => ⟨h.1, by rw [h.2]; exact World.grownBy.refl _ _⟩
theorem C_old {w : World} {A : Option Addr} {xs : List Int} (h : Kd.C (Kd.int .u8) w A xs.length xs) : ∀ ad, A = some ad → 0 < xs.length → ad.block ≠ w.heap.size := by
  intro ad e hn e2
  obtain ⟨ad', e', hc⟩ := h.2.2 hn
  rw [e] at e'
  obtain rfl := Option.some.inj e'
  obtain ⟨c, hl, hK, hcell⟩ := hc 0 _ (List.getElem?_eq_getElem hn)
  obtain rfl : c = [.int .u8 xs[0]] := hK
  have h1 := World.block_lt_of_cell? w _ (hcell 0 _ rfl)
  rw [add_block, e2] at h1
  omega
theorem below_of_new {w w1 : World} {o : Obj} (h : (w.alloc o).grownBy w1 (some w.heap.size)) : Below w.heap.size w w1 :=
  have s : (w.alloc o).heap.size = w.heap.size + 1 := by simp
  ⟨h.os, h.tape, h.output, by have := h.size; omega, fun i hi =>
    (h.block i (by omega) (by simp; omega)).trans ((below_alloc (Below.refl w.heap.size w) o).block i hi)⟩

end Go.Proofs.Ytaiaackeljlbfaa.Crc
