import Derived.Test.YtfoalonjlhemmaaZCA
set_option linter.unusedVariables false
set_option linter.unusedSimpArgs false
set_option linter.unnecessarySimpa false
set_option maxRecDepth 10000
namespace Go.Proofs.Ytfoalonjlhemmaa.Am
open Go Go.RowKit Go.Proofs
theorem b8_zero : b8 0 = 0#8 := rfl
theorem ze_xor (b c : BitVec 8) : BitVec.zeroExtend 32 (b ^^^ c) <<< 24 = (BitVec.zeroExtend 32 b <<< 24) ^^^ (BitVec.zeroExtend 32 c <<< 24) := by
  rw [← BitVec.shiftLeft_xor_distrib]
  refine congrArg (fun v : BitVec 32 => v <<< 24) ?_
  simp [BitVec.setWidth_xor]
def x8 (b c : Int) : Int := Go.bits .xor .u8 b c
theorem x8_rng (b c : Int) : 0 ≤ x8 b c ∧ x8 b c < 256 := QC.xor8_rng _ _
theorem b8_x8 (b c : Int) : b8 (x8 b c) = b8 b ^^^ b8 c := by
  unfold x8
  rw [bits8]
  apply BitVec.eq_of_toNat_eq
  have := (b8 b ^^^ b8 c).isLt
  simp only [b8, BitVec.toNat_ofInt] at *
  omega
theorem x8_self {b c : Int} (hb : 0 ≤ b ∧ b < 256) : x8 (x8 b c) c = b := by
  refine b8_inj (x8_rng _ _) hb ?_
  rw [b8_x8, b8_x8, BitVec.xor_assoc, BitVec.xor_self, BitVec.xor_zero]
theorem x8_ne {b c : Int} (hb : 0 ≤ b ∧ b < 256) (hc : 0 < c ∧ c < 256) : x8 b c ≠ b := by
  intro h
  have h2 : b8 c = 0#8 := by
    have := congrArg b8 h
    rw [b8_x8] at this
    have h3 := congrArg (fun v => b8 b ^^^ v) this
    simpa [← BitVec.xor_assoc] using h3
  have := b8_inj (by omega) (by omega) (h2.trans b8_zero.symm)
  omega
theorem small_fix : ∀ e : Fin 256, ones 8 (BitVec.zeroExtend 32 (BitVec.ofNat 8 e.val) <<< 24) = BitVec.zeroExtend 32 (BitVec.ofNat 8 e.val) <<< 24 → e.val = 0 := by decide +kernel
theorem cB_swap {x : BitVec 32} {b c : BitVec 8} (h : cB (cB x b) c = cB (cB x c) b) : b = c := by
  have h1 := ones_inj 8 h
  unfold cB at h1
  rw [ones_xor, ones_xor] at h1
  have h2 : ones 8 (BitVec.zeroExtend 32 (b ^^^ c) <<< 24) = BitVec.zeroExtend 32 (b ^^^ c) <<< 24 := by
    rw [ze_xor, ones_xor]
    generalize ones 8 x = X at h1
    generalize ones 8 (BitVec.zeroExtend 32 b <<< 24) = B at h1 ⊢
    generalize ones 8 (BitVec.zeroExtend 32 c <<< 24) = C at h1 ⊢
    generalize BitVec.zeroExtend 32 b <<< 24 = p at h1 ⊢
    generalize BitVec.zeroExtend 32 c <<< 24 = q at h1 ⊢
    have h3 : X ^^^ (X ^^^ B ^^^ q) ^^^ C ^^^ q = X ^^^ (X ^^^ C ^^^ p) ^^^ C ^^^ q := by rw [h1]
    rw [show X ^^^ (X ^^^ B ^^^ q) ^^^ C ^^^ q = (X ^^^ X) ^^^ (q ^^^ q) ^^^ (B ^^^ C) by ac_rfl, show X ^^^ (X ^^^ C ^^^ p) ^^^ C ^^^ q = (X ^^^ X) ^^^ (C ^^^ C) ^^^ (p ^^^ q) by ac_rfl] at h3
    simpa using h3
  have h3 := small_fix ⟨(b ^^^ c).toNat, (b ^^^ c).isLt⟩ (by simpa using h2)
  have h4 : b ^^^ c = 0#8 := BitVec.eq_of_toNat_eq (by simpa using h3)
  have h5 := congrArg (fun v => v ^^^ c) h4
  simpa [BitVec.xor_assoc] using h5
theorem crcSum_set {l : List Int} (h : ∀ x ∈ l, 0 ≤ x ∧ x < 256) {i : Nat} (hi : i < l.length) {c : Int} (hc : 0 ≤ c ∧ c < 256) (hn : c ≠ l[i]) : QC.crcSum (l.set i c) ≠ QC.crcSum l := by
  intro he
  have hl : l = l.take i ++ l[i] :: l.drop (i + 1) := by simp
  have hm : ∀ x ∈ l.take i ++ c :: l.drop (i + 1), 0 ≤ x ∧ x < 256 := by
    intro x hx
    rcases List.mem_append.1 hx with hx | hx
    · exact h x (List.mem_of_mem_take hx)
    · rcases List.mem_cons.1 hx with rfl | hx
      · exact hc
      · exact h x (List.mem_of_mem_drop hx)
  rw [List.set_eq_take_append_cons_drop, if_pos hi] at he
  unfold QC.crcSum at he
  rw [crcAdd_bv _ hm (by omega) (by omega), crcAdd_bv l h (by omega) (by omega)] at he
  have h2 := congrArg bv he
  rw [bv_iv, bv_iv] at h2
  rw [hl] at h2
  have h3 : cA (bv 4294967295) (l.take i ++ c :: l.drop (i + 1)) = cA (bv 4294967295) (l.take i ++ l[i] :: l.drop (i + 1)) := by simpa using h2
  exact hn (b8_inj hc (h _ (List.getElem_mem _)) (cA_turn _ _ _ _ _ h3))
theorem crcSum_swap {l : List Int} (h : ∀ x ∈ l, 0 ≤ x ∧ x < 256) {i : Nat} (hi : i + 1 < l.length) : QC.crcSum ((l.set i l[i + 1]).set (i + 1) l[i]) = QC.crcSum l ↔ l[i] = l[i + 1] := by
  constructor
  · intro he
    have hl : l = l.take i ++ l[i] :: l[i + 1] :: l.drop (i + 2) := by
      rw [List.getElem_cons_drop, List.getElem_cons_drop, List.take_append_drop]
    have h1 : (l.set i l[i + 1]).set (i + 1) l[i] = l.take i ++ l[i + 1] :: l[i] :: l.drop (i + 2) := by
      have ht : (l.take i).length = i := by rw [List.length_take]; omega
      generalize l[i] = p at hl ⊢
      generalize l[i + 1] = q at hl ⊢
      generalize l.drop (i + 2) = d at hl ⊢
      generalize l.take i = t at hl ht ⊢
      subst ht
      subst hl
      rw [List.set_append_right _ _ (Nat.le_refl _), Nat.sub_self, List.set_cons_zero, List.set_append_right _ _ (by omega), show t.length + 1 - t.length = 1 by omega]
      rfl
    have hm : ∀ x ∈ l.take i ++ l[i + 1] :: l[i] :: l.drop (i + 2), 0 ≤ x ∧ x < 256 := by
      intro x hx
      rcases List.mem_append.1 hx with hx | hx
      · exact h x (List.mem_of_mem_take hx)
      · rcases List.mem_cons.1 hx with rfl | hx
        · exact h _ (List.getElem_mem _)
        · rcases List.mem_cons.1 hx with rfl | hx
          · exact h _ (List.getElem_mem _)
          · exact h x (List.mem_of_mem_drop hx)
    rw [h1] at he
    unfold QC.crcSum at he
    rw [crcAdd_bv _ hm (by omega) (by omega), crcAdd_bv l h (by omega) (by omega)] at he
    have h2 := congrArg bv he
    rw [bv_iv, bv_iv] at h2
    have h3 : cA (bv 4294967295) (l.take i ++ l[i + 1] :: l[i] :: l.drop (i + 2)) = cA (bv 4294967295) (l.take i ++ l[i] :: l[i + 1] :: l.drop (i + 2)) := by rw [h2, ← hl]
    rw [cA_append, cA_append] at h3
    simp only [cA] at h3
    exact (b8_inj (h _ (List.getElem_mem _)) (h _ (List.getElem_mem _)) (cB_swap (cA_inj _ h3))).symm
  · intro he
    congr 1
    apply List.ext_getElem
    · simp
    · intro j h1 h2
      simp only [List.getElem_set]
      split
      · subst_vars; exact he
      · split
        · subst_vars; exact he.symm
        · rfl
end Go.Proofs.Ytfoalonjlhemmaa.Am
