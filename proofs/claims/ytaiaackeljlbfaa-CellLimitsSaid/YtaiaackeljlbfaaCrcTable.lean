/- crc's table as a whole: made once, and what Add and Sum come to. -/
import Derived.Test.YtaiaackeljlbfaaCrcFill
import Derived.Laws.NewBlocks
namespace Go.Proofs.Ytaiaackeljlbfaa.Crc
open Go.RowKit Go.Proofs.YtaiaackeljlbfaaW.PrintWords Go.Proofs.YtaiaackeljlbfaaW.PrintLast Go.Proofs.YtaiaackeljlbfaaW.PrintMore Go.Proofs.Ytaiaackeljlbfaa.Mth Go.Proofs.Ytaiaackeljlbfaa.QC
set_option linter.unusedVariables false
set_option linter.unusedSimpArgs false

/-- The cells behind the table's first use. -/
def made (cs : Array Value) : Array Value := (((laid (cs.setIfInBounds 1 (.int .i32 1)) 256).setIfInBounds 3 (.bool true)).setIfInBounds 0 (.int .u32 1)).setIfInBounds 1 (.int .i32 0)
theorem laid_low (cs : Array Value) (j : Nat) (hj : j < 4) : ∀ n, (laid cs n)[j]? = cs[j]?
  | 0 => rfl
  | n + 1 => by
    simp only [laid]
    rw [Array.getElem?_setIfInBounds_ne (by omega)]
    exact laid_low cs j hj n
theorem laid_at (cs : Array Value) (hn : cs.size = 260) (j : Nat) (hj : j < 256) : ∀ n, j < n → n ≤ 256 → (laid cs n)[4 + j]? = some (.int .u32 (crcTab (j : Int)))
  | 0, h, _ => by omega
  | n + 1, h, hn' => by
    simp only [laid]
    by_cases e : j = n
    · subst e
      rw [Array.getElem?_setIfInBounds_self_of_lt (by rw [laid_size]; omega)]
    · rw [Array.getElem?_setIfInBounds_ne (by omega)]
      exact laid_at cs hn j hj n (by omega) (by omega)
theorem made_size (cs : Array Value) : (made cs).size = cs.size := by simp [made, laid_size]
theorem made_at (cs : Array Value) (hn : cs.size = 260) (j : Nat) (hj : j < 256) : (made cs)[4 + j]? = some (.int .u32 (crcTab (j : Int))) := by
  unfold made
  rw [Array.getElem?_setIfInBounds_ne (by omega), Array.getElem?_setIfInBounds_ne (by omega), Array.getElem?_setIfInBounds_ne (by omega)]
  exact laid_at _ (by simpa using hn) j hj 256 hj (Nat.le_refl _)
theorem made_zero (cs : Array Value) (hn : cs.size = 260) : (made cs)[0]? = some (.int .u32 1) := by
  unfold made
  rw [Array.getElem?_setIfInBounds_ne (by omega), Array.getElem?_setIfInBounds_self_of_lt (by simp [laid_size]; omega)]
theorem made_three (cs : Array Value) (hn : cs.size = 260) : (made cs)[3]? = some (.bool true) := by
  unfold made
  rw [Array.getElem?_setIfInBounds_ne (by omega), Array.getElem?_setIfInBounds_ne (by omega), Array.getElem?_setIfInBounds_self_of_lt (by simp [laid_size]; omega)]

theorem grown_trans {w w1 w2 : World} {b : Nat} (h : w.grownBy w1 (some b)) (k : w1.grownBy w2 (some b)) : w.grownBy w2 (some b) :=
  ⟨k.os.trans h.os, k.tape.trans h.tape, k.output.trans h.output, Nat.le_trans h.size k.size, fun i hi hne => (k.block i (Nat.lt_of_lt_of_le hi h.size) hne).trans (h.block i hi hne)⟩

set_option maxRecDepth 100000 in
set_option maxHeartbeats 4000000 in
theorem slow_calls (b : Nat) (cs : Array Value) (w : World) (hn : cs.size = 260) (hb : w.heap[b]? = some (.cells cs 83 (0, 0))) (h0 : cs[0]? = some (.int .u32 0)) (h1 : cs[1]? = some (.int .i32 0)) :
    Calls Try.prog 49 #[.pointer (some ⟨b, 0, none⟩), .func (.func 47) #[.pointer (some ⟨b, 0, none⟩)] #[]] w fun e w' => e = .returned (.tuple #[]) ∧ (w.grownBy w' (some b) ∧ w'.heap[b]? = some (.cells (made cs) 83 (0, 0))) := by
  have HB := Aside0.mk hb
  have HN := Aside0.mk hn
  have H0 := Aside0.mk h0
  have H1 := Aside0.mk h1
  have b1 := Aside0.mk (blk_set hb 1 (.int .i32 1))
  have g1 := Aside0.mk (set_grown (World.grownBy.refl w (some b)) 1 (.int .i32 1))
  have c1 : w.cell? ⟨b, 1, none⟩ = some (.int .i32 0) := (blk_cell hb 1).trans h1
  have z1 : w.frozen? ⟨b, 1, none⟩ = false := blk_frozen hb 1
  have hl := run_call_load (P := Try.prog) Try.func51 (by kernel_rfl) (by kernel_rfl) (by kernel_rfl) .u32 (by kernel_rfl) (w := w.setCell ⟨b, 1, none⟩ (.int .i32 1)) (a := ⟨b, 0, none⟩) (x := 0) ((World.cell?_setCell_other _ ⟨b, 1, none⟩ ⟨b, 0, none⟩ _ (by simp)).trans ((blk_cell hb 0).trans h0))
  have hnot : ∀ (x : Bool) (w : World), (Op.unary .not (.bool x)).run Try.prog w = .ok (.bool (!x)) w := fun _ _ => rfl
  clear hb hn h0 h1
  go_enter_defers Try.func49, Try.ntmps49
  go_wp2_with (first | (go_at_call 52; refine (lock_free ⟨b, 1, none⟩ _ (by go_simp) (by go_simp)).mono ?_; rintro e w' ⟨rfl, rfl⟩) | (go_at_call 48; go_in) | (go_at_call 47; refine (fill_calls b (cs.setIfInBounds 1 (.int .i32 1)) _ (by rw [Array.size_setIfInBounds]; exact HN.out) b1.out).mono ?_; rintro e w2 ⟨rfl, hg, hc⟩; have HG := Aside0.mk hg; have HC := Aside0.mk hc; clear hg hc))
  have e0 : ((laid (cs.setIfInBounds 1 (.int .i32 1)) 256).setIfInBounds 3 (.bool true))[0]? = some (.int .u32 0) := by
    rw [Array.getElem?_setIfInBounds_ne (by omega), laid_low _ 0 (by omega), Array.getElem?_setIfInBounds_ne (by omega)]; exact H0.out
  have e1 : (((laid (cs.setIfInBounds 1 (.int .i32 1)) 256).setIfInBounds 3 (.bool true)).setIfInBounds 0 (.int .u32 1))[1]? = some (.int .i32 1) := by
    rw [Array.getElem?_setIfInBounds_ne (by omega), Array.getElem?_setIfInBounds_ne (by omega), laid_low _ 1 (by omega), Array.getElem?_setIfInBounds_self_of_lt (by have := HN.out; omega)]
  have k1 := blk_set (show w2.drew.heap[b]? = _ from HC.out) 0 (.int .u32 1)
  have k2 := blk_set k1 1 (.int .i32 0)
  have G2 := set_grown (set_grown (drew_grown (grown_trans g1.out HG.out)) 0 (.int .u32 1)) 1 (.int .i32 0)
  refine leaves_cons (f := 54) (args := #[.pointer (some ⟨b, 0, none⟩), .bool true]) (by simp) (by simp [go_sem]) ?_
  refine (store_deferred ⟨b, 0, none⟩ (.int .u32 0) .returning _ ((blk_cell HC.out 0).trans e0) (blk_frozen HC.out 0)).mono ?_
  rintro e u' w'' ⟨rfl, rfl, rfl⟩
  refine leaves_cons (f := 53) (args := #[.pointer (some ⟨b, 1, none⟩)]) (by simp [settle]) (by simp [go_sem]) ?_
  refine (unlock_deferred ⟨b, 1, none⟩ _ _ ((blk_cell k1 1).trans e1) (blk_frozen k1 1)).mono ?_
  rintro e u' w'' ⟨rfl, rfl, rfl⟩
  simp [Leaves, settle, results, Try.results49]
  exact ⟨G2, k2⟩

theorem byt_rd {xs : List Int} (h : Byt xs) {k : Nat} (hk : k < xs.length) : 0 ≤ rd xs (k : Int) ∧ rd xs (k : Int) < 256 := by
  unfold rd
  rw [Int.toNat_natCast, List.getD_eq_getElem?_getD, List.getElem?_eq_getElem hk]
  exact h _ (List.getElem_mem hk)
theorem drop_cons_rd {xs : List Int} {k : Nat} (hk : k < xs.length) : xs.drop k = rd xs (k : Int) :: xs.drop (k + 1) := by
  unfold rd
  rw [Int.toNat_natCast, List.getD_eq_getElem?_getD, List.getElem?_eq_getElem hk]
  exact List.drop_eq_getElem_cons hk
theorem C_far {w w1 : World} {b : Nat} {A : Option Addr} {xs : List Int} (h : Kd.C (Kd.int .u8) w A xs.length xs) (hf : ∀ ad, A = some ad → 0 < xs.length → ad.block ≠ b) (hg : w.grownBy w1 (some b)) : Kd.C (Kd.int .u8) w1 A xs.length xs := by
  refine ⟨h.1, h.2.1, fun hn => ?_⟩
  obtain ⟨ad, e, hc⟩ := h.2.2 hn
  refine ⟨ad, e, fun j p hj => ?_⟩
  obtain ⟨c, hl, hK, hcell⟩ := hc j p hj
  refine ⟨c, hl, hK, fun i u hu => ?_⟩
  have hcc := hcell i u hu
  have hb : (ad.add (j * (Kd.int .u8).sz + i)).block = ad.block := add_block _ _
  have hlt := World.block_lt_of_cell? w _ hcc
  rw [World.cell?_of_block (w := w) (w' := w1) (by
    refine hg.block _ hlt (fun e2 => ?_)
    rw [hb] at e2
    exact hf ad e hn (Option.some.inj e2))]
  exact hcc

set_option maxRecDepth 100000 in
set_option maxHeartbeats 4000000 in
theorem do_first (b : Nat) (cs : Array Value) (w : World) (hn : cs.size = 260) (hb : w.heap[b]? = some (.cells cs 83 (0, 0))) (h0 : cs[0]? = some (.int .u32 0)) (h1 : cs[1]? = some (.int .i32 0)) :
    Calls Try.prog 46 #[.pointer (some ⟨b, 0, none⟩), .func (.func 47) #[.pointer (some ⟨b, 0, none⟩)] #[]] w fun e w' => e = .returned (.tuple #[]) ∧ (w.grownBy w' (some b) ∧ w'.heap[b]? = some (.cells (made cs) 83 (0, 0))) := by
  have hl := run_call_load (P := Try.prog) Try.func51 (by kernel_rfl) (by kernel_rfl) (by kernel_rfl) .u32 (by kernel_rfl) ((blk_cell hb 0).trans h0)
  have hnot : ∀ (x : Bool) (w : World), (Op.unary .not (.bool x)).run Try.prog w = .ok (.bool (!x)) w := fun _ _ => rfl
  have SL := Aside0.mk (slow_calls b cs w hn hb h0 h1)
  clear hn hb h0 h1
  go_enter Try.func46, Try.ntmps46
  go_wp2_with (first | (go_at_call 49; refine SL.out.mono ?_; rintro e w' ⟨rfl, hg, hc⟩; have HG := Aside0.mk hg; have HC := Aside0.mk hc; clear hg hc) | (go_at_call 48; go_in))
  go_end0
  exact ⟨rfl, HG.out, HC.out⟩

set_option maxRecDepth 100000 in
set_option maxHeartbeats 4000000 in
theorem do_done (b : Nat) (cs : Array Value) (fv : Value) (w : World) (hb : w.heap[b]? = some (.cells cs 83 (0, 0))) (h0 : cs[0]? = some (.int .u32 1)) :
    Calls Try.prog 46 #[.pointer (some ⟨b, 0, none⟩), fv] w fun e w' => e = .returned (.tuple #[]) ∧ w' = w := by
  have hl := run_call_load (P := Try.prog) Try.func51 (by kernel_rfl) (by kernel_rfl) (by kernel_rfl) .u32 (by kernel_rfl) ((blk_cell hb 0).trans h0)
  have hnot : ∀ (x : Bool) (w : World), (Op.unary .not (.bool x)).run Try.prog w = .ok (.bool (!x)) w := fun _ _ => rfl
  clear hb h0
  go_enter Try.func46, Try.ntmps46
  go_wp2
  go_end0
  exact ⟨rfl, rfl⟩

/-- A table whose digits are laid. -/
structure Done (cs : Array Value) : Prop where
  size : cs.size = 260
  zero : cs[0]? = some (.int .u32 1)
  three : cs[3]? = some (.bool true)
  at_ : ∀ j, j < 256 → cs[4 + j]? = some (.int .u32 (crcTab (j : Int)))
/-- A table as New makes it. -/
structure Fresh (cs : Array Value) : Prop where
  size : cs.size = 260
  zero : cs[0]? = some (.int .u32 0)
  one : cs[1]? = some (.int .i32 0)
  three : cs[3]? = some (.bool false)
theorem made_done {cs : Array Value} (h : Fresh cs) : Done (made cs) := ⟨by rw [made_size]; exact h.size, made_zero cs h.size, made_three cs h.size, fun j hj => made_at cs h.size j hj⟩
theorem done_at {cs : Array Value} (h : Done cs) {w : World} {b : Nat} (hb : w.heap[b]? = some (.cells cs 83 (0, 0))) {j : Nat} (hj : j < 256) : w.cell? ⟨b, 4 + j, none⟩ = some (.int .u32 (crcTab (j : Int))) := (blk_cell hb _).trans (h.at_ j hj)

set_option maxRecDepth 100000 in
set_option maxHeartbeats 8000000 in
theorem add_done (b : Nat) (cs : Array Value) (A : Option Addr) (c : Nat) (xs : List Int) (s : Int) (w : World) (hd : Done cs) (hb : w.heap[b]? = some (.cells cs 83 (0, 0))) (hX : Kd.C (Kd.int .u8) w A xs.length xs) (hs0 : 0 ≤ s) (hs1 : s < 4294967296) :
    Calls Try.prog 45 #[.pointer (some ⟨b, 0, none⟩), .int .u32 s, .slice A xs.length c] w fun e w' => e = .returned (.int .u32 (crcAdd s xs)) ∧ w' = w := by
  have HX := Aside0.mk hX
  have HD := Aside0.mk hd
  have HB := Aside0.mk hb
  have hmf : ∀ (fn : Fn) (first cap : Array Value) (w : World), (Instr.makeFunc fn first cap).run Try.prog w = .ok (.func fn first cap) w := fun _ _ _ _ => rfl
  clear hX hd hb
  have htop : ∀ z : Bool, decide (0 < xs.length) = z → True := fun _ _ => trivial
  by_cases hz : 0 < xs.length
  all_goals have hz' := hz
  · have hz2 : decide (0 < xs.length) = true := decide_eq_true hz
    have hz3 : decide ((0 : Int) < (xs.length : Int)) = true := decide_eq_true (by omega)
    clear htop hz hz'
    go_enter Try.func45, Try.ntmps45
    go_wp2_with (go_at_call 46; refine (do_done b cs _ _ HB.out HD.out.zero).mono ?_; rintro e w' ⟨rfl, rfl⟩)
    go_loop [1, 8, 20] (fun t _ i => ∃ (k : Nat) (cur : Int), k ≤ xs.length ∧ 0 ≤ cur ∧ cur < 4294967296 ∧ i = .int .i64 k ∧ t = .int .u32 cur ∧ Aside0 (crcAdd cur (xs.drop k) = crcAdd s xs)) (fun _ _ i => xs.length - (intOf i).toNat)
    case atStart => exact ⟨0, s, Nat.zero_le _, hs0, hs1, rfl, rfl, ⟨by rw [List.drop_zero]⟩⟩
    case round =>
      obtain ⟨k, cur, hk, hc0, hc1, rfl, rfl, HR⟩ := hrel
      have hlen : xs.length ≤ 9223372036854775807 := HX.out.2.1
      by_cases hlt : k < xs.length
      · have p0 : 0 ≤ (k : Int) := by omega
        have q0 : (k : Int) < (xs.length : Int) := by omega
        have hlt' : decide ((k : Int) < (xs.length : Int)) = true := decide_eq_true q0
        have hlt2 : decide (k < xs.length) = true := decide_eq_true hlt
        obtain ⟨ad, e1, hx⟩ := Kd.at_int HX.out (k : Int) p0 q0
        cases e1
        obtain ⟨x, hxq⟩ : ∃ x : Int, rd xs (k : Int) = x := ⟨_, rfl⟩
        rw [hxq] at hx
        simp only [Int.toNat_natCast] at hx
        have HXQ := Aside0.mk hxq
        clear hxq
        obtain ⟨j, hj⟩ : ∃ j : Nat, Go.bits .xor .u8 (cur / 16777216) x = (j : Int) := ⟨(Go.bits .xor .u8 (cur / 16777216) x).toNat, by have := (xor8_rng (cur / 16777216) x).1; omega⟩
        have hj1 : (j : Int) < 256 := by have := (xor8_rng (cur / 16777216) x).2; omega
        have hj0 : (0 : Int) ≤ (j : Int) := by omega
        have hjn : j < 256 := by omega
        have ht := done_at HD.out HB.out hjn
        go_wp2
        go_round
        case rel =>
          refine ⟨k + 1, Go.bits .xor .u32 (cur * 256 % 4294967296) (crcTab (j : Int)), by omega, (xor32_rng _ _).1, (xor32_rng _ _).2, by go_num, rfl, ⟨?_⟩⟩
          rw [← HR.out, drop_cons_rd hlt, HXQ.out]
          simp only [crcAdd]
          rw [show cur / 16777216 % 256 = cur / 16777216 from by omega]
          rw [hj]
        case measure => simp [intOf]; omega
      · have hlt' : decide ((k : Int) < (xs.length : Int)) = false := decide_eq_false (by omega)
        have hlt2 : decide (k < xs.length) = false := decide_eq_false hlt
        have hkk : k = xs.length := by omega
        have HRR := Aside0.mk (show cur = crcAdd s xs by rw [← HR.out, hkk, List.drop_length]; rfl)
        clear hkk
        go_wp2
        go_ret
        exact ⟨by rw [HRR.out]; rfl, rfl⟩
  · have hz2 : decide (0 < xs.length) = false := decide_eq_false hz
    have hz3 : decide ((0 : Int) < (xs.length : Int)) = false := decide_eq_false (by omega)
    clear htop hz hz'
    go_enter Try.func45, Try.ntmps45
    go_wp2
    go_loop [1, 8, 20] (fun t _ i => ∃ (k : Nat) (cur : Int), k ≤ xs.length ∧ 0 ≤ cur ∧ cur < 4294967296 ∧ i = .int .i64 k ∧ t = .int .u32 cur ∧ Aside0 (crcAdd cur (xs.drop k) = crcAdd s xs)) (fun _ _ i => xs.length - (intOf i).toNat)
    case atStart => exact ⟨0, s, Nat.zero_le _, hs0, hs1, rfl, rfl, ⟨by rw [List.drop_zero]⟩⟩
    case round =>
      obtain ⟨k, cur, hk, hc0, hc1, rfl, rfl, HR⟩ := hrel
      have hlen : xs.length ≤ 9223372036854775807 := HX.out.2.1
      by_cases hlt : k < xs.length
      · have p0 : 0 ≤ (k : Int) := by omega
        have q0 : (k : Int) < (xs.length : Int) := by omega
        have hlt' : decide ((k : Int) < (xs.length : Int)) = true := decide_eq_true q0
        have hlt2 : decide (k < xs.length) = true := decide_eq_true hlt
        obtain ⟨ad, e1, hx⟩ := Kd.at_int HX.out (k : Int) p0 q0
        cases e1
        obtain ⟨x, hxq⟩ : ∃ x : Int, rd xs (k : Int) = x := ⟨_, rfl⟩
        rw [hxq] at hx
        simp only [Int.toNat_natCast] at hx
        have HXQ := Aside0.mk hxq
        clear hxq
        obtain ⟨j, hj⟩ : ∃ j : Nat, Go.bits .xor .u8 (cur / 16777216) x = (j : Int) := ⟨(Go.bits .xor .u8 (cur / 16777216) x).toNat, by have := (xor8_rng (cur / 16777216) x).1; omega⟩
        have hj1 : (j : Int) < 256 := by have := (xor8_rng (cur / 16777216) x).2; omega
        have hj0 : (0 : Int) ≤ (j : Int) := by omega
        have hjn : j < 256 := by omega
        have ht := done_at HD.out HB.out hjn
        go_wp2
        go_round
        case rel =>
          refine ⟨k + 1, Go.bits .xor .u32 (cur * 256 % 4294967296) (crcTab (j : Int)), by omega, (xor32_rng _ _).1, (xor32_rng _ _).2, by go_num, rfl, ⟨?_⟩⟩
          rw [← HR.out, drop_cons_rd hlt, HXQ.out]
          simp only [crcAdd]
          rw [show cur / 16777216 % 256 = cur / 16777216 from by omega]
          rw [hj]
        case measure => simp [intOf]; omega
      · have hlt' : decide ((k : Int) < (xs.length : Int)) = false := decide_eq_false (by omega)
        have hlt2 : decide (k < xs.length) = false := decide_eq_false hlt
        have hkk : k = xs.length := by omega
        have HRR := Aside0.mk (show cur = crcAdd s xs by rw [← HR.out, hkk, List.drop_length]; rfl)
        clear hkk
        go_wp2
        go_ret
        exact ⟨by rw [HRR.out]; rfl, rfl⟩

set_option maxRecDepth 100000 in
set_option maxHeartbeats 8000000 in
theorem add_first (b : Nat) (cs : Array Value) (A : Option Addr) (c : Nat) (xs : List Int) (s : Int) (w : World) (hd : Fresh cs) (hb : w.heap[b]? = some (.cells cs 83 (0, 0))) (hX : Kd.C (Kd.int .u8) w A xs.length xs) (hs0 : 0 ≤ s) (hs1 : s < 4294967296) (hf : ∀ ad, A = some ad → 0 < xs.length → ad.block ≠ b) (hz : 0 < xs.length) :
    Calls Try.prog 45 #[.pointer (some ⟨b, 0, none⟩), .int .u32 s, .slice A xs.length c] w fun e w' => e = .returned (.int .u32 (crcAdd s xs)) ∧ (w.grownBy w' (some b) ∧ w'.heap[b]? = some (.cells (made cs) 83 (0, 0))) := by
  have HX0 := Aside0.mk hX
  have HF := Aside0.mk hf
  have HD := Aside0.mk (made_done hd)
  have FR := Aside0.mk hd
  have HB := Aside0.mk hb
  have hmf : ∀ (fn : Fn) (first cap : Array Value) (w : World), (Instr.makeFunc fn first cap).run Try.prog w = .ok (.func fn first cap) w := fun _ _ _ _ => rfl
  have hz2 : decide (0 < xs.length) = true := decide_eq_true hz
  have hz3 : decide ((0 : Int) < (xs.length : Int)) = true := decide_eq_true (by omega)
  clear hX hd hb hz hf
  go_enter Try.func45, Try.ntmps45
  go_wp2_with (go_at_call 46; refine (do_first b cs _ FR.out.size HB.out FR.out.zero FR.out.one).mono ?_; rintro e w1 ⟨rfl, hg, hc⟩; have HG := Aside0.mk hg; have HC := Aside0.mk hc; have HX := Aside0.mk (C_far HX0.out HF.out hg); clear hg hc)
  go_loop [1, 8, 20] (fun t _ i => ∃ (k : Nat) (cur : Int), k ≤ xs.length ∧ 0 ≤ cur ∧ cur < 4294967296 ∧ i = .int .i64 k ∧ t = .int .u32 cur ∧ Aside0 (crcAdd cur (xs.drop k) = crcAdd s xs)) (fun _ _ i => xs.length - (intOf i).toNat)
  case atStart => exact ⟨0, s, Nat.zero_le _, hs0, hs1, rfl, rfl, ⟨by rw [List.drop_zero]⟩⟩
  case round =>
    obtain ⟨k, cur, hk, hc0, hc1, rfl, rfl, HR⟩ := hrel
    have hlen : xs.length ≤ 9223372036854775807 := HX.out.2.1
    by_cases hlt : k < xs.length
    · have p0 : 0 ≤ (k : Int) := by omega
      have q0 : (k : Int) < (xs.length : Int) := by omega
      have hlt' : decide ((k : Int) < (xs.length : Int)) = true := decide_eq_true q0
      have hlt2 : decide (k < xs.length) = true := decide_eq_true hlt
      obtain ⟨ad, e1, hx⟩ := Kd.at_int HX.out (k : Int) p0 q0
      cases e1
      obtain ⟨x, hxq⟩ : ∃ x : Int, rd xs (k : Int) = x := ⟨_, rfl⟩
      rw [hxq] at hx
      simp only [Int.toNat_natCast] at hx
      have HXQ := Aside0.mk hxq
      clear hxq
      obtain ⟨j, hj⟩ : ∃ j : Nat, Go.bits .xor .u8 (cur / 16777216) x = (j : Int) := ⟨(Go.bits .xor .u8 (cur / 16777216) x).toNat, by have := (xor8_rng (cur / 16777216) x).1; omega⟩
      have hj1 : (j : Int) < 256 := by have := (xor8_rng (cur / 16777216) x).2; omega
      have hj0 : (0 : Int) ≤ (j : Int) := by omega
      have hjn : j < 256 := by omega
      have ht := done_at HD.out HC.out hjn
      go_wp2
      go_round
      case rel =>
        refine ⟨k + 1, Go.bits .xor .u32 (cur * 256 % 4294967296) (crcTab (j : Int)), by omega, (xor32_rng _ _).1, (xor32_rng _ _).2, by go_num, rfl, ⟨?_⟩⟩
        rw [← HR.out, drop_cons_rd hlt, HXQ.out]
        simp only [crcAdd]
        rw [show cur / 16777216 % 256 = cur / 16777216 from by omega]
        rw [hj]
      case measure => simp [intOf]; omega
    · have hlt' : decide ((k : Int) < (xs.length : Int)) = false := decide_eq_false (by omega)
      have hlt2 : decide (k < xs.length) = false := decide_eq_false hlt
      have hkk : k = xs.length := by omega
      have HRR := Aside0.mk (show cur = crcAdd s xs by rw [← HR.out, hkk, List.drop_length]; rfl)
      clear hkk
      go_wp2
      go_ret
      exact ⟨by rw [HRR.out]; rfl, HG.out, HC.out⟩

theorem add_nil (b : Nat) (A : Option Addr) (c : Nat) (s : Int) (w : World) :
    Calls Try.prog 45 #[.pointer (some ⟨b, 0, none⟩), .int .u32 s, .slice A 0 c] w fun e w' => e = .returned (.int .u32 s) ∧ w' = w := by
  go_enter Try.func45, Try.ntmps45
  go_wp2
  refine wp_loop_rounds 1 ?_
  rw [rounds_succ]
  go_wp2
  go_ret
  exact ⟨rfl, rfl⟩

end Go.Proofs.Ytaiaackeljlbfaa.Crc
