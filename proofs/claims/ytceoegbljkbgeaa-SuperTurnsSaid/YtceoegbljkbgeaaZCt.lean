import Derived.Test.YtceoegbljkbgeaaZS1
import Derived.Test.YtceoegbljkbgeaaZR1
import Derived.Test.YtceoegbljkbgeaaZCm
set_option linter.unusedVariables false
set_option linter.unusedSimpArgs false
namespace Go.Proofs.Ytceoegbljkbgeaa.Am
open Go Go.RowKit Go.Proofs
theorem sumL_inj {l m : List Int} (h : sumL l = sumL m) : QC.crcSum l = QC.crcSum m := by
  have r1 := QC.crcSum_rng l
  have r2 := QC.crcSum_rng m
  have h' : QC.sumB l = QC.sumB m := h
  unfold QC.sumB at h'
  simp only [List.cons.injEq, and_true] at h'
  omega
theorem crcSum_turn {a l : List Int} {b c : Int} (ha : Byt a) (hl : Byt l) (hb : 0 ≤ b ∧ b < 256) (hc : 0 ≤ c ∧ c < 256) (h : QC.crcSum (a ++ b :: l) = QC.crcSum (a ++ c :: l)) : b = c := by
  have e : ∀ x : Int, 0 ≤ x ∧ x < 256 → QC.crcSum (a ++ x :: l) = iv (cA (bv 4294967295) (a ++ x :: l)) := fun x hx => by
    unfold QC.crcSum
    exact crcAdd_bv _ (byt_append ha (byt_cons hx hl)) (by omega) (by omega)
  rw [e b hb, e c hc] at h
  have h2 := congrArg bv h
  rw [bv_iv, bv_iv] at h2
  exact b8_inj hb hc (cA_turn a l b c _ h2)
theorem set_split {l : List Int} {i : Nat} (y : Int) (h : i < l.length) : l.set i y = l.take i ++ y :: l.drop (i + 1) := by
  rw [List.set_eq_take_append_cons_drop, if_pos h]
theorem get_split {l : List Int} {i : Nat} (h : i < l.length) : l = l.take i ++ l.getD i 0 :: l.drop (i + 1) := by
  rw [List.getD_eq_getElem?_getD, List.getElem?_eq_getElem h, Option.getD_some, ← List.drop_eq_getElem_cons h, List.take_append_drop]
theorem open_turn {A : List Int} (ho : isOpen A) (hb : Byt A) {i : Nat} (hi : i < 128) {y : Int} (hy : 0 ≤ y ∧ y < 256) (hn : y ≠ A.getD i 0) : ¬ isOpen (A.set i y) := by
  rintro ⟨h8, hs⟩
  obtain ⟨hl, hA⟩ := ho
  by_cases h4 : i < 124
  · have hlt : (A.take 124).length = 124 := by rw [List.length_take]; omega
    have e1 : (A.set i y).take 124 = (A.take 124).set i y := by rw [List.take_set]
    have e2 : (A.set i y).drop 124 = A.drop 124 := by rw [List.drop_set, if_pos h4]
    have e3 : (A.take 124).getD i 0 = A.getD i 0 := by
      rw [List.getD_eq_getElem?_getD, List.getD_eq_getElem?_getD, List.getElem?_take, if_pos h4]
    rw [e1, e2, ← hA] at hs
    have h2 := sumL_inj hs
    rw [set_split y (by omega)] at h2
    have h3 : QC.crcSum (A.take 124) = QC.crcSum ((A.take 124).take i ++ (A.take 124).getD i 0 :: (A.take 124).drop (i + 1)) := congrArg QC.crcSum (get_split (by omega))
    rw [h3] at h2
    have := crcSum_turn (byt_take (byt_take hb _) _) (byt_drop (byt_take hb _) _) hy (e3 ▸ getD_byt hb i) h2
    rw [e3] at this
    exact hn this
  · have e1 : (A.set i y).take 124 = A.take 124 := by rw [List.take_set, List.set_eq_of_length_le (by rw [List.length_take]; omega)]
    rw [e1, hA] at hs
    have h2 := congrArg (fun l => l[i - 124]?) hs
    simp only [List.getElem?_drop, show 124 + (i - 124) = i by omega] at h2
    rw [List.getElem?_set_self (by omega)] at h2
    apply hn
    rw [List.getD_eq_getElem?_getD, h2]; rfl
theorem xor8_ne {x m : Int} (hx : 0 ≤ x ∧ x < 256) (hm : 0 < m ∧ m < 256) : Go.bits .xor .u8 x m ≠ x := by
  rw [bits8]
  intro h
  have e1 : ((b8 x).toNat : Int) = x := by simp only [b8, BitVec.toNat_ofInt]; omega
  have e2 : b8 x ^^^ b8 m = b8 x := BitVec.eq_of_toNat_eq (by omega)
  have e3 := congrArg (fun v => b8 x ^^^ v) e2
  simp only [← BitVec.xor_assoc, BitVec.xor_self, BitVec.zero_xor] at e3
  have e4 := congrArg BitVec.toNat e3
  simp only [b8, BitVec.toNat_ofInt] at e4
  simp at e4
  omega
end Go.Proofs.Ytceoegbljkbgeaa.Am
