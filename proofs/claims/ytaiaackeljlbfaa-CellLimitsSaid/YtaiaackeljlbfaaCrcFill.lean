/- crc's table, filled: the method that Once.Do calls. -/
import Derived.Test.YtaiaackeljlbfaaCrcPure
import Derived.Test.YtaiaackeljlbfaaCrcOnce
import Derived.StillTailTactics
import Derived.RegionTactic
import Derived.RegionCalls
import Derived.Deep.RegionWith
namespace Go.Proofs.Ytaiaackeljlbfaa.Crc
open Go.RowKit Go.Proofs.YtaiaackeljlbfaaW.PrintWords Go.Proofs.YtaiaackeljlbfaaW.PrintLast Go.Proofs.YtaiaackeljlbfaaW.PrintMore Go.Proofs.Ytaiaackeljlbfaa.Mth Go.Proofs.Ytaiaackeljlbfaa.QC
set_option linter.unusedVariables false
set_option linter.unusedSimpArgs false

/-- A table's cells, of which the first n of the 256 are laid. -/
def laid (cs : Array Value) : Nat → Array Value
  | 0 => cs
  | n + 1 => (laid cs n).setIfInBounds (4 + n) (.int .u32 (crcTab (n : Int)))
theorem laid_size (cs : Array Value) : ∀ n, (laid cs n).size = cs.size
  | 0 => rfl
  | n + 1 => by simp [laid, laid_size cs n]

theorem drawn_block {w w' : World} {b : Nat} {o : Obj} (hd : Drawn0 w w') (h : w.heap[b]? = some o) : w'.heap[b]? = some o := by
  obtain ⟨n, rfl⟩ := hd.out; exact h
theorem drawn_grown {w0 w w' : World} {r : Option Nat} (hd : Drawn0 w w') (h : w0.grownBy w r) : w0.grownBy w' r := by
  obtain ⟨n, rfl⟩ := hd.out; exact ⟨h.os, h.tape, h.output, h.size, h.block⟩
theorem drew_grown {w0 w : World} {r : Option Nat} (h : w0.grownBy w r) : w0.grownBy w.drew r := ⟨h.os, h.tape, h.output, h.size, h.block⟩
theorem set_grown {w0 w : World} {b : Nat} (h : w0.grownBy w (some b)) (j : Nat) (v : Value) : w0.grownBy (w.setCell ⟨b, j, none⟩ v) (some b) :=
  ⟨h.os, h.tape, h.output, by rw [Go.Deep.nblk_setCell]; exact h.size, fun i hi hne => by
    rw [← h.block i hi hne]
    exact Below.heap_setCell w ⟨b, j, none⟩ v i (fun e => hne (by rw [e]))⟩

theorem htabk (k : Nat) (h : k < 256) : crcOnes 8 ((k : Int) % 4294967296 * 16777216 % 4294967296) = crcTab (k : Int) := by
  unfold crcTab
  rw [Int.emod_eq_of_lt (show (0 : Int) ≤ k by omega) (by omega)]

set_option maxRecDepth 100000 in
set_option maxHeartbeats 4000000 in
theorem fill_calls (b : Nat) (cs : Array Value) (w : World) (hn : cs.size = 260) (hb : w.heap[b]? = some (.cells cs 83 (0, 0))) :
    Calls Try.prog 47 #[.pointer (some ⟨b, 0, none⟩)] w fun e w' => e = .returned (.tuple #[]) ∧ (w.grownBy w' (some b) ∧ w'.heap[b]? = some (.cells ((laid cs 256).setIfInBounds 3 (.bool true)) 83 (0, 0))) := by
  have HB := Aside0.mk hb
  have HN := Aside0.mk hn
  have HC2 := @drawn_block
  have HG2 := @drawn_grown
  clear hb hn
  go_enter Try.func47, Try.ntmps47
  go_wp2
  go_loopw [2, 3] (fun t i wr => ∃ k : Nat, k ≤ 256 ∧ i = .int .i64 k ∧ Aside0 (w.grownBy wr (some b)) ∧ Aside0 (wr.heap[b]? = some (.cells (laid cs k) 83 (0, 0)))) (fun _ i _ => 256 - (intOf i).toNat)
  case atStart => exact ⟨0, Nat.zero_le _, rfl, ⟨World.grownBy.refl _ _⟩, HB⟩
  case round =>
    obtain ⟨k, hk, rfl, HG, HC⟩ := hrel
    by_cases hlt : k < 256
    · have hlt' : decide ((k : Int) < 256) = true := decide_eq_true (by omega)
      go_wp2
      have h0 : (0 : Int) ≤ (k : Int) := by omega
      have h1 : (k : Int) < 256 := by omega
      obtain ⟨vo, hv⟩ : ∃ vo, (laid cs k)[4 + k]? = some vo := ⟨_, Array.getElem?_eq_getElem (by rw [laid_size, HN.out]; omega)⟩
      have HV := Aside0.mk hv
      clear hv
      refine start_ (n := 10) (S := fun w' => w'.heap[b]? = some (.cells (laid cs k) 83 (0, 0)) ∧ w.grownBy w' (some b)) (ds := [9]) #[false, false, false, false, false, false, false, false, false, false] (by kernel_rfl) rfl rfl ⟨(show wr.drew.heap[b]? = _ from HC.out), (drew_grown HG.out)⟩ (fun hHeld => ?_)
      refine pure_ (i := 0) (N := some 6) (v := ?_) (a' := ?_) #[true, false, false, false, false, false, false, false, false, false] rfl rfl (by kernel_rfl) (fun _ _ _ h => h) (Or.inl ⟨by rfl, ?_⟩) ?_ ?_
      rotate_left
      · intro w'
        go_simp
        with_reducible rfl
      rotate_left
      · simp only [Act.put, List.setIfInBounds_toArray, List.set_cons_zero, List.set_cons_succ, i64_w, i32_w]
        rfl
      refine pure_ (i := 1) (N := some 7) (v := ?_) (a' := ?_) #[true, true, false, false, false, false, false, false, false, false] rfl rfl (by kernel_rfl) (fun _ _ _ h => h) (Or.inl ⟨by rfl, ?_⟩) ?_ ?_
      rotate_left
      · intro w'
        go_simp
        with_reducible rfl
      rotate_left
      · simp only [Act.put, List.setIfInBounds_toArray, List.set_cons_zero, List.set_cons_succ, i64_w, i32_w]
        rfl
      refine pure_ (i := 2) (N := some 8) (v := ?_) (a' := ?_) #[true, true, true, false, false, false, false, false, false, false] rfl rfl (by kernel_rfl) (fun _ _ _ h => h) (Or.inl ⟨by rfl, ?_⟩) ?_ ?_
      rotate_left
      · intro w'
        go_simp
        with_reducible rfl
      rotate_left
      · simp only [Act.put, List.setIfInBounds_toArray, List.set_cons_zero, List.set_cons_succ, i64_w, i32_w]
        rfl
      refine pure_ (i := 3) (N := some 9) (v := ?_) (a' := ?_) #[true, true, true, true, false, false, false, false, false, false] rfl rfl (by kernel_rfl) (fun _ _ _ h => h) (Or.inl ⟨by rfl, ?_⟩) ?_ ?_
      rotate_left
      · intro w'
        go_simp
        with_reducible rfl
      rotate_left
      · simp only [Act.put, List.setIfInBounds_toArray, List.set_cons_zero, List.set_cons_succ, i64_w, i32_w]
        rfl
      refine pure_ (i := 4) (N := some 10) (v := ?_) (a' := ?_) #[true, true, true, true, true, false, false, false, false, false] rfl rfl (by kernel_rfl) (fun _ _ _ h => h) (Or.inl ⟨by rfl, ?_⟩) ?_ ?_
      rotate_left
      · intro w'
        go_simp
        with_reducible rfl
      rotate_left
      · simp only [Act.put, List.setIfInBounds_toArray, List.set_cons_zero, List.set_cons_succ, i64_w, i32_w]
        rfl
      refine pure_ (i := 6) (N := some 12) (v := ?_) (a' := ?_) #[true, true, true, true, true, false, true, false, false, false] rfl rfl (by kernel_rfl) (fun _ _ _ h => h) (Or.inl ⟨by rfl, ?_⟩) ?_ ?_
      rotate_left
      · intro w'
        go_simp
        with_reducible rfl
      rotate_left
      · simp only [Act.put, List.setIfInBounds_toArray, List.set_cons_zero, List.set_cons_succ, i64_w, i32_w]
        rfl
      refine pure_ (i := 7) (N := some 13) (v := ?_) (a' := ?_) #[true, true, true, true, true, false, true, true, false, false] rfl rfl (by kernel_rfl) (fun _ _ _ h => h) (Or.inl ⟨by rfl, ?_⟩) ?_ ?_
      rotate_left
      · intro w'
        go_simp
        with_reducible rfl
      rotate_left
      · simp only [Act.put, List.setIfInBounds_toArray, List.set_cons_zero, List.set_cons_succ, i64_w, i32_w]
        rfl
      refine one_ (i := 5) (N := some 11) #[true, true, true, true, true, true, true, true, false, false] rfl rfl (by kernel_rfl) (by decide) (fun K hK => ?_)
      refine goes_ Try.func50 (by kernel_rfl) rfl #[.int .u32 ((k : Int) % 4294967296 * 16777216 % 4294967296)] (by rfl) rfl rfl (by simp only [List.map_toArray, List.map_cons, List.map_nil]; rfl) ?_
      with_reducible refine (step_calls _ _).mono ?_
      rintro e w3 ⟨rfl, hd3⟩
      refine ⟨_, rfl, ?_⟩
      have hc3 := HC2 hd3 hHeld.1
      have hg3 := HG2 hd3 hHeld.2
      refine hK.out _ _ ⟨hc3, hg3⟩ (fun hHeld => ?_)
      clear hK K
      refine norm_ (a' := ?_) ?_ ?_
      rotate_left
      · show Act.put _ (some 11) _ = _
        simp only [Act.put, List.setIfInBounds_toArray, List.set_cons_zero, List.set_cons_succ, i64_w, i32_w]
        rfl
      refine pure_ (i := 8) (N := some 14) (v := ?_) (a' := ?_) #[true, true, true, true, true, true, true, true, true, false] rfl rfl (by kernel_rfl) (fun _ _ _ h => h) (Or.inl ⟨by rfl, ?_⟩) ?_ ?_
      rotate_left
      · intro w'
        go_simp
        with_reducible rfl
      rotate_left
      · simp only [Act.put, List.setIfInBounds_toArray, List.set_cons_zero, List.set_cons_succ, i64_w, i32_w]
        rfl
      refine last_ (i := 9) (N := none) #[true, true, true, true, true, true, true, true, true, true] rfl rfl (by kernel_rfl) (by decide) (fun K hK => ?_)
      have hq := (blk_cell hHeld.1 (4 + k)).trans HV.out
      have hz := blk_frozen hHeld.1 (4 + k)
      refine skip_ (w1 := ?_) (by rfl) rfl ?_ ?_
      rotate_left
      · go_simp
        rfl
      refine hK.out _ _ ?_
      clear hK K
      refine done_ (by kernel_rfl) ?_
      clear hHeld hq hz HV
      have HG9 := Aside0.mk hg3
      have HC9 := Aside0.mk hc3
      clear hc3 hg3
      go_wp2
      go_roundw
      case rel =>
        refine ⟨k + 1, by omega, by go_num, ⟨set_grown HG9.out (4 + k) _⟩, ⟨?_⟩⟩
        simp only [laid]
        rw [← htabk k (by omega)]
        exact blk_set HC9.out (4 + k) _
      case measure => simp [intOf]; omega
    · have hge : decide ((k : Int) < 256) = false := decide_eq_false (by omega)
      obtain rfl : k = 256 := by omega
      have hq : wr.cell? ⟨b, 3, none⟩ = some ((laid cs 256)[3]'(by rw [laid_size, HN.out]; omega)) := (blk_cell HC.out 3).trans (Array.getElem?_eq_getElem (by rw [laid_size, HN.out]; omega))
      have hz : wr.frozen? ⟨b, 3, none⟩ = false := blk_frozen HC.out 3
      go_wp2

      go_end0
      exact ⟨rfl, set_grown HG.out 3 _, blk_set HC.out 3 _⟩

end Go.Proofs.Ytaiaackeljlbfaa.Crc
