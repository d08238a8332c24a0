import Derived.Test.YtfoalonjlhemmaaZCL
set_option linter.unusedVariables false
set_option linter.unusedSimpArgs false
set_option linter.unnecessarySimpa false
set_option maxRecDepth 10000
namespace Go.Proofs.Ytfoalonjlhemmaa.Am
open Go Go.RowKit Go.Proofs
def tp : BitVec 32 := 0x80000000#32
theorem one_tp : ∀ j : Fin 8, ones 8 (BitVec.zeroExtend 32 (b8 ((128 : Int).fdiv (2 ^ j.val))) <<< 24) = ones (8 - j.val) tp := by decide +kernel
theorem tp_up : ∀ i : Fin 32, ones i.val (tp >>> i.val) = tp := by decide +kernel
theorem cA_add : ∀ (c : List Int) (x y : BitVec 32), cA (x ^^^ y) c = cA x c ^^^ ones (8 * c.length) y
  | [], x, y => rfl
  | b :: c, x, y => by
    have h : cB (x ^^^ y) (b8 b) = cB x (b8 b) ^^^ ones 8 y := by
      have := cB_xor x y (b8 b) 0#8
      rw [BitVec.xor_zero] at this
      rw [this, cB_zero]
    rw [cA, h, cA_add c, cA, ← ones_add, List.length_cons, show 8 * (c.length + 1) = 8 + 8 * c.length by omega]
theorem cA_flip {l : List Int} {q : Nat} (hq : q < l.length) (j : Nat) (hj : j < 8) (x : BitVec 32) :
    cA x (l.set q (x8 (l.getD q 0) ((128 : Int).fdiv (2 ^ j)))) = cA x l ^^^ ones (8 * (l.length - q) - j) tp := by
  have hg : l.getD q 0 = l[q] := by rw [List.getD_eq_getElem?_getD, List.getElem?_eq_getElem hq, Option.getD_some]
  have hl : l = l.take q ++ l[q] :: l.drop (q + 1) := by simp
  have hd : (l.drop (q + 1)).length = l.length - q - 1 := by rw [List.length_drop]; omega
  rw [List.set_eq_take_append_cons_drop, if_pos hq, hg, cA_append, cA, b8_x8]
  have h1 := cB_xor (cA x (l.take q)) 0#32 (b8 l[q]) (b8 ((128 : Int).fdiv (2 ^ j)))
  rw [BitVec.xor_zero] at h1
  have h2 : cB 0#32 (b8 ((128 : Int).fdiv (2 ^ j))) = ones (8 - j) tp := by
    unfold cB
    rw [BitVec.zero_xor]
    exact one_tp ⟨j, hj⟩
  rw [h1, h2, cA_add, ← ones_add, hd, show 8 - j + 8 * (l.length - q - 1) = 8 * (l.length - q) - j by omega]
  congr 1
  have h3 : cA x l = cA x (l.take q ++ l[q] :: l.drop (q + 1)) := congrArg (cA x) hl
  rw [h3, cA_append, cA]
def bst (x : List Int) (k : Nat) (u : Int) : Nat → List Int
  | 0 => x
  | i + 1 => if u / 2 ^ i % 2 = 1 then (bst x k u i).set ((k + i) / 8) (x8 ((bst x k u i).getD ((k + i) / 8) 0) ((128 : Int).fdiv (2 ^ ((k + i) % 8)))) else bst x k u i
theorem bst_len (x : List Int) (k : Nat) (u : Int) : ∀ i, (bst x k u i).length = x.length
  | 0 => rfl
  | i + 1 => by
    simp only [bst]
    split
    · rw [List.length_set, bst_len x k u i]
    · exact bst_len x k u i
theorem bst_byt {x : List Int} (h : ∀ y ∈ x, 0 ≤ y ∧ y < 256) (k : Nat) (u : Int) : ∀ i, ∀ y ∈ bst x k u i, 0 ≤ y ∧ y < 256
  | 0 => h
  | i + 1 => by
    intro y hy
    simp only [bst] at hy
    split at hy
    · rcases List.mem_or_eq_of_mem_set hy with h1 | rfl
      · exact bst_byt h k u i y h1
      · exact x8_rng _ _
    · exact bst_byt h k u i y hy
def wv (u : Int) : Nat → BitVec 32
  | 0 => 0#32
  | i + 1 => if u / 2 ^ i % 2 = 1 then wv u i ^^^ (tp >>> i) else wv u i
theorem cA_bst {x : List Int} {k : Nat} (u : Int) (hk : k + 32 ≤ 8 * x.length) (s : BitVec 32) : ∀ i, i ≤ 32 → cA s (bst x k u i) = cA s x ^^^ ones (8 * x.length - k) (wv u i)
  | 0, _ => by simp only [bst, wv]; rw [ones_zero, BitVec.xor_zero]
  | i + 1, hi => by
    have ih := cA_bst u hk s i (by omega)
    simp only [bst, wv]
    split
    · have hq : (k + i) / 8 < (bst x k u i).length := by rw [bst_len]; omega
      rw [cA_flip hq _ (by omega), ih, ones_xor, BitVec.xor_assoc, bst_len]
      congr 2
      have e : 8 * x.length - k = i + (8 * (x.length - (k + i) / 8) - (k + i) % 8) := by omega
      rw [e, ones_add, tp_up ⟨i, by omega⟩]
    · exact ih
theorem tp_bit : ∀ i p : Fin 32, (tp >>> i.val).getLsbD p.val = decide (p.val + i.val = 31) := by decide +kernel
theorem wv_bit (u : Int) (p : Nat) (hp : p < 32) : ∀ i, i ≤ 32 → (wv u i).getLsbD p = decide (31 - p < i ∧ u / 2 ^ (31 - p) % 2 = 1)
  | 0, _ => by simp [wv]
  | i + 1, hi => by
    have ih := wv_bit u p hp i (by omega)
    have ht := tp_bit ⟨i, by omega⟩ ⟨p, hp⟩
    simp only at ht
    simp only [wv]
    split
    · rename_i hu
      rw [BitVec.getLsbD_xor, ih, ht]
      by_cases e : p + i = 31
      · have e2 : 31 - p = i := by omega
        rw [e2]
        simp [e, hu]
      · rw [show decide (p + i = 31) = false from decide_eq_false e, Bool.xor_false]
        exact decide_eq_decide.2 ⟨fun h => ⟨by omega, h.2⟩, fun h => ⟨by omega, h.2⟩⟩
    · rename_i hu
      rw [ih]
      refine decide_eq_decide.2 ⟨fun h => ⟨by omega, h.2⟩, fun h => ⟨?_, h.2⟩⟩
      rcases Nat.lt_or_ge (31 - p) i with h1 | h1
      · exact h1
      · have e2 : 31 - p = i := by omega
        rw [e2] at h
        exact absurd h.2 hu
theorem digit_of : ∀ (n : Nat) {u : Int}, 0 < u → u < 2 ^ n → ∃ i, i < n ∧ u / 2 ^ i % 2 = 1
  | 0, u, h0, h1 => by simp at h1; omega
  | n + 1, u, h0, h1 => by
    by_cases h : u % 2 = 1
    · exact ⟨0, by omega, by simpa using h⟩
    · have h2 : u / 2 < 2 ^ n := by
        rw [Int.pow_succ] at h1
        omega
      obtain ⟨i, hi, hd⟩ := digit_of n (u := u / 2) (by omega) h2
      refine ⟨i + 1, by omega, ?_⟩
      rw [Int.pow_succ, Int.mul_comm, ← Int.ediv_ediv_of_nonneg (by omega)]
      exact hd
theorem wv_ne {u : Int} (h0 : 0 < u) (h1 : u < 4294967296) : wv u 32 ≠ 0#32 := by
  obtain ⟨i, hi, hd⟩ := digit_of 32 h0 (by simpa using h1)
  intro h
  have := wv_bit u (31 - i) (by omega) 32 (Nat.le_refl _)
  rw [h, show 31 - (31 - i) = i by omega] at this
  simp [hi, hd] at this
theorem burst_told {l : List Int} (h : ∀ y ∈ l, 0 ≤ y ∧ y < 256) {k : Nat} {u : Int} (hk : k + 32 ≤ 8 * (l.length + 4)) (h0 : 0 < u) (h1 : u < 4294967296) :
    (bst (l ++ by4 (QC.crcSum l)) k u 32).drop l.length ≠ by4 (QC.crcSum ((bst (l ++ by4 (QC.crcSum l)) k u 32).take l.length)) := by
  intro he
  have hx : ∀ y ∈ l ++ by4 (QC.crcSum l), 0 ≤ y ∧ y < 256 := fun y hy => by
    rcases List.mem_append.1 hy with hy | hy
    · exact h y hy
    · exact by4_byt _ y hy
  have hlen : (l ++ by4 (QC.crcSum l)).length = l.length + 4 := by simp [by4]
  have hX := bst_byt hx k u 32
  have hc := cA_bst (x := l ++ by4 (QC.crcSum l)) u (by rw [hlen]; exact hk) (bv 4294967295) 32 (Nat.le_refl _)
  have hs0 := sum_own h
  unfold QC.crcSum at hs0
  have hs1 : cA (bv 4294967295) (l ++ by4 (QC.crcSum l)) = 0#32 := by
    have e := crcAdd_bv (l ++ by4 (QC.crcSum l)) (s := 4294967295) hx (by omega) (by omega)
    have e2 : iv (cA (bv 4294967295) (l ++ by4 (QC.crcSum l))) = 0 := by rw [← e]; exact hs0
    have e3 := congrArg bv e2
    rw [bv_iv] at e3
    exact e3
  rw [hs1, BitVec.zero_xor] at hc
  generalize hXX : bst (l ++ by4 (QC.crcSum l)) k u 32 = X at *
  have ht : ∀ y ∈ X.take l.length, 0 ≤ y ∧ y < 256 := fun y hy => hX y (List.mem_of_mem_take hy)
  have h2 := sum_own ht
  rw [← he, List.take_append_drop] at h2
  unfold QC.crcSum at h2
  have e := crcAdd_bv X (s := 4294967295) hX (by omega) (by omega)
  rw [h2] at e
  have e3 := congrArg bv e.symm
  rw [bv_iv, hc] at e3
  have e4 : ones (8 * (l ++ by4 (QC.crcSum l)).length - k) (wv u 32) = ones (8 * (l ++ by4 (QC.crcSum l)).length - k) 0#32 := by rw [ones_zero]; exact e3
  exact wv_ne h0 h1 (ones_inj _ e4)
end Go.Proofs.Ytfoalonjlhemmaa.Am
