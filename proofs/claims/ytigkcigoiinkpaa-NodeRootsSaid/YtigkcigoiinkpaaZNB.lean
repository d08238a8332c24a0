import Derived.Test.YtigkcigoiinkpaaZNK
import Derived.Test.YtigkcigoiinkpaaZCt
set_option linter.unusedVariables false
set_option linter.unusedSimpArgs false
set_option maxRecDepth 10000
namespace Go.Proofs.Ytigkcigoiinkpaa.Am
open Go Go.RowKit Go.Proofs
theorem takeI_back : ∀ (l : List Int) (R : List Int), (∀ p ∈ l, 0 ≤ p ∧ p < 65536) → takeI (numsB l ++ R) l.length = l
  | [], _, _ => rfl
  | p :: r, R, h => by
    obtain ⟨a0, a1⟩ := h p (List.mem_cons_self ..)
    have e : numsB (p :: r) ++ R = putB (max 0 p) 2 ++ (numsB r ++ R) := by
      have : numsB (p :: r) = putB (max 0 p) 2 ++ numsB r := rfl
      rw [this]; simp only [List.append_assoc]
    have l2 : (putB (max 0 p) 2).length = 2 := putB_len _ 2
    rw [List.length_cons, takeI, e, List.drop_left' l2, List.take_left' l2, putB2n a0 a1, takeI_back r R fun q hq => h q (List.mem_cons_of_mem _ hq)]
theorem allS_rng {l : List Int} (h : allS l) : ∀ p ∈ l, 0 ≤ p ∧ p < 65536 := fun p hp => by
  obtain ⟨i, hi, rfl⟩ := List.mem_iff_getElem.1 hp
  have h1 := h i hi
  rw [List.getD_eq_getElem?_getD, List.getElem?_eq_getElem hi] at h1
  dsimp only [Option.getD_some] at h1
  unfold secN at h1
  omega
theorem tk_row {l : List Int} (h : rowOk l) (R : List Int) : tkL (rowB l ++ R) = l ∧ tkR (rowB l ++ R) = R := by
  obtain ⟨h1, h4⟩ := h
  have l1 : (putB (max 0 (l.length : Int)) 1).length = 1 := putB_len _ 1
  have e : rowB l ++ R = putB (max 0 (l.length : Int)) 1 ++ (numsB l ++ R) := by unfold rowB; rw [List.append_assoc]
  have hd : (rowB l ++ R).drop 1 = numsB l ++ R := by rw [e, List.drop_left' l1]
  have h0 : (rowB l ++ R).getD 0 0 = l.length := by
    have h2 := putB1n (n := (l.length : Int)) (by omega) (by omega)
    rw [e]
    match hp : putB (max 0 (l.length : Int)) 1, l1 with
    | [x], _ =>
      rw [hp] at h2
      simp only [leV] at h2
      simp only [List.cons_append, List.getD_cons_zero]
      omega
  have hn : tkN (rowB l ++ R) = l.length := by unfold tkN; rw [h0]; omega
  constructor
  · unfold tkL; rw [hn, hd]; exact takeI_back l R (allS_rng h1)
  · unfold tkR; rw [hn, hd]; exact List.drop_left' (numsB_len l)
theorem rootL_len {now : Int} {u r : List Int} (h : mayR now u r) : (rootL now u r).length ≤ 121 := by
  unfold rootL; rw [List.length_append, List.length_append, putB_len, rowB_len, rowB_len]; have := h.2.1.2; have := h.2.2.2; omega
theorem root_back {now : Int} {u r : List Int} (h : mayR now u r) : rootOk (rootP now u r) ∧ rN (rootP now u r) = now ∧ rU (rootP now u r) = u ∧ rR (rootP now u r) = r := by
  have hl := rootL_len h
  obtain ⟨h1, h2, h3⟩ := h
  unfold secN at h1
  have l2 : (putB (max 0 now) 2).length = 2 := putB_len _ 2
  have eI : nI (rootP now u r) = putB (max 0 now) 2 ++ (rowB u ++ (rowB r ++ List.replicate (121 - (rootL now u r).length) 0)) := by
    unfold rootP; rw [nodP_nI hl]; unfold rootL; simp only [List.append_assoc]
  have e1 : rN (rootP now u r) = now := by unfold rN; rw [eI, List.take_left' l2]; exact putB2n (by omega) (by omega)
  have eM : rM (rootP now u r) = rowB u ++ (rowB r ++ List.replicate (121 - (rootL now u r).length) 0) := by unfold rM; rw [eI, List.drop_left' l2]
  obtain ⟨a1, a2⟩ := tk_row h2 (rowB r ++ List.replicate (121 - (rootL now u r).length) 0)
  obtain ⟨b1, b2⟩ := tk_row h3 (List.replicate (121 - (rootL now u r).length) 0)
  have e2 : rU (rootP now u r) = u := by unfold rU; rw [eM, a1]
  have e3 : rR (rootP now u r) = r := by unfold rR; rw [eM, a2, b1]
  refine ⟨⟨(nodP_oH hl 4).2 rfl, nodP_nN hl, ?_, ?_⟩, e1, e2, e3⟩
  · rw [e1, e2, e3]; exact ⟨h1, h2, h3⟩
  · rw [e1, e2, e3]
theorem kind_root {now : Int} {u r : List Int} (h : mayR now u r) : kindN (rootP now u r) = 4 :=
  kindN_4 (fun k => by have := (nodP_oH (rootL_len h) 1).1 k.1; omega) (fun k => by have := (nodP_oH (rootL_len h) 2).1 k.1; omega) (fun k => by have := (nodP_oH (rootL_len h) 3).1 k.1; omega) (root_back h).1
end Go.Proofs.Ytigkcigoiinkpaa.Am
