import Derived.Test.YtigkcigoiinkpaaZNH
import Derived.Test.YtigkcigoiinkpaaZNB
import Derived.Test.YtigkcigoiinkpaaZF6
set_option linter.unusedVariables false
set_option linter.unusedSimpArgs false
set_option maxRecDepth 10000
namespace Go.Proofs.Ytigkcigoiinkpaa.Am
open Go Go.RowKit Go.Proofs
def upL : Int → List Ln → Prop
  | _, [] => True
  | i, x :: t => i < x.a ∧ x.a ≤ 99 ∧ 0 ≤ x.b ∧ x.b ≤ 1000 ∧ (x.c ≠ 0 → secN x.c) ∧ (x.c = 0 ↔ x.b = 0) ∧ upL x.a t
theorem upL_lnG : ∀ (n : Nat) (i : Int) (l : List Ln), i + 10 * n ≤ 99 → upL i (lnG true n i l)
  | 0, i, l, _ => by rw [lnG_zero]; trivial
  | n + 1, i, [], _ => trivial
  | n + 1, i, x :: r, h => by
    have w1 := within_rngh (v := x.a) (n := 10) (by omega)
    have w2 := within_rngh (v := x.b) (n := 1001) (by omega)
    have w3 := within_rngh (v := x.c) (n := 4000) (by omega)
    unfold lnG
    rw [if_pos rfl]
    unfold lineR upL
    dsimp only
    refine ⟨by omega, by omega, by omega, by omega, ?_, ?_, upL_lnG n _ r (by omega)⟩
    · intro hc
      split at hc
      · exact absurd rfl hc
      · rename_i h; rw [if_neg h]; unfold secN; omega
    · split <;> omega
theorem upL_take : ∀ (m : Nat) (i : Int) (l : List Ln), upL i l → upL i (l.take m)
  | 0, i, l, _ => by rw [List.take_zero]; trivial
  | m + 1, i, [], _ => trivial
  | m + 1, i, x :: t, h => by
    rw [List.take_succ_cons]
    unfold upL at h ⊢
    exact ⟨h.1, h.2.1, h.2.2.1, h.2.2.2.1, h.2.2.2.2.1, h.2.2.2.2.2.1, upL_take m _ t h.2.2.2.2.2.2⟩
theorem upL_ok : ∀ (l : List Ln) (i : Int), -1 ≤ i → upL i l → ∀ j, j < l.length → okL l j
  | [], _, _, _, j, hj => by simp at hj
  | x :: t, i, hi, h, j, hj => by
    unfold upL at h
    obtain ⟨h1, h2, h3, h4, h5, h6, h7⟩ := h
    cases j with
    | zero =>
      refine ⟨?_, ?_, fun h => by omega, ?_, ?_, ?_, ?_⟩ <;> simp only [List.getD_cons_zero]
      · omega
      · exact h2
      · exact h3
      · exact h4
      · exact h5
      · exact h6
    | succ j =>
      have hj' : j < t.length := by simpa using hj
      obtain ⟨g1, g2, g3, g4, g5, g6, g7⟩ := upL_ok t x.a (by omega) h7 j hj'
      refine ⟨?_, ?_, fun _ => ?_, ?_, ?_, ?_, ?_⟩ <;> simp only [List.getD_cons_succ]
      · exact g1
      · exact g2
      · cases j with
        | zero =>
          cases t with
          | nil => simp at hj'
          | cons y s => unfold upL at h7; simpa using h7.1
        | succ j => simpa using g3 (by omega)
      · exact g4
      · exact g5
      · exact g6
      · exact g7
theorem may_lines (l : List Ln) {m : Nat} (hm : m ≤ 6) : mayD ((lnG true 8 (-1) l).take m) :=
  ⟨by rw [List.length_take]; omega, upL_ok _ (-1) (by omega) (upL_take m _ _ (upL_lnG 8 (-1) l (by omega)))⟩
theorem may_sectors (l : List Int) {m : Nat} (hm : m ≤ 4) : rowOk ((seG true l).take m) := by
  refine ⟨fun i hi => ?_, by rw [List.length_take]; omega⟩
  have : ((seG true l).take m).getD i 0 ∈ (seG true l).take m := by rw [List.getD_eq_getElem?_getD, List.getElem?_eq_getElem hi]; exact List.getElem_mem hi
  obtain ⟨x, _, hx⟩ := List.mem_map.1 (List.mem_of_mem_take this)
  rw [← hx, if_pos rfl]
  have w3 := within_rngh (v := x) (n := 4000) (by omega)
  unfold secN; omega
end Go.Proofs.Ytigkcigoiinkpaa.Am
