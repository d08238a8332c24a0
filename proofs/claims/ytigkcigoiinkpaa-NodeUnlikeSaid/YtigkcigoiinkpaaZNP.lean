import Derived.Test.YtigkcigoiinkpaaZNH
import Derived.Test.YtigkcigoiinkpaaZNB
import Derived.Test.YtigkcigoiinkpaaZGA
set_option linter.unusedVariables false
set_option linter.unusedSimpArgs false
set_option maxRecDepth 10000
namespace Go.Proofs.Ytigkcigoiinkpaa.Am
open Go Go.RowKit Go.Proofs
def upL : Int → List Ln → Prop
  | _, [] => True
  | i, x :: t => i < x.a ∧ x.a ≤ 99 ∧ 0 ≤ x.b ∧ x.b ≤ 1000 ∧ (x.c ≠ 0 → secN x.c) ∧ (x.c = 0 ↔ x.b = 0) ∧ upL x.a t
theorem upL_lnG : ∀ (n : Nat) (i : Int) (l : List Ln), i + 10 * n ≤ 99 → upL i (lnG true n i l)
  | 0, i, l, _ => by rw [lnG_zero]; trivial
  | n + 1, i, [], _ => trivial
  | n + 1, i, x :: r, h => by
    have w1 := within_rngh (v := x.a) (n := 10) (by omega)
    have w2 := within_rngh (v := x.b) (n := 1001) (by omega)
    have w3 := within_rngh (v := x.c) (n := 4000) (by omega)
    unfold lnG
    rw [if_pos rfl]
    unfold lineR upL
    dsimp only
    refine ⟨by omega, by omega, by omega, by omega, ?_, ?_, upL_lnG n _ r (by omega)⟩
    · intro hc
      split at hc
      · exact absurd rfl hc
      · rename_i h; rw [if_neg h]; unfold secN; omega
    · split <;> omega
theorem upL_ok : ∀ (l : List Ln) (i : Int), -1 ≤ i → upL i l → ∀ j, j < l.length → okL l j
  | [], _, _, _, j, hj => by simp at hj
  | x :: t, i, hi, h, j, hj => by
    unfold upL at h
    obtain ⟨h1, h2, h3, h4, h5, h6, h7⟩ := h
    cases j with
    | zero =>
      refine ⟨?_, ?_, fun h => by omega, ?_, ?_, ?_, ?_⟩ <;> simp only [List.getD_cons_zero]
      · omega
      · exact h2
      · exact h3
      · exact h4
      · exact h5
      · exact h6
    | succ j =>
      have hj' : j < t.length := by simpa using hj
      obtain ⟨g1, g2, g3, g4, g5, g6, g7⟩ := upL_ok t x.a (by omega) h7 j hj'
      refine ⟨?_, ?_, fun _ => ?_, ?_, ?_, ?_, ?_⟩ <;> simp only [List.getD_cons_succ]
      · exact g1
      · exact g2
      · cases j with
        | zero =>
          cases t with
          | nil => simp at hj'
          | cons y s => unfold upL at h7; simpa using h7.1
        | succ j => simpa using g3 (by omega)
      · exact g4
      · exact g5
      · exact g6
      · exact g7
theorem may_lines6 (l : List Ln) : mayD (lnG true 8 (-1) (l.take 6)) :=
  ⟨by rw [lnG_len, List.length_take]; omega, upL_ok _ (-1) (by omega) (upL_lnG 8 (-1) _ (by omega))⟩
theorem vRow_okF : ∀ (l : List Xt) (n : Int), 0 ≤ n → n ≤ 1000 → vRow n l = true → ∀ i, i < l.length → okF l i
  | [], n, _, _, _, i, hi => by simp at hi
  | e :: t, n, h0, h1, hv, i, hi => by
    simp only [vRow, Bool.and_eq_true, decide_eq_true_eq] at hv
    obtain ⟨ho, hf, h4, hv⟩ := hv
    all_goals
      have ho' : 1 ≤ e.f1 ∧ e.f1 < 4096 ∧ e.f2 ≤ 64 ∧ 0 ≤ e.f3 ∧ e.f3 < e.f2 ∧ 1 ≤ e.f4 ∧ e.f4 ≤ e.f2 - e.f3 := of_decide_eq_true ho
      cases i with
      | zero =>
        refine ⟨?_, fun h => by omega⟩
        simp only [List.getD_cons_zero]
        unfold inF
        omega
      | succ j =>
        have hj' : j < t.length := by simpa using hi
        obtain ⟨g1, g2⟩ := vRow_okF t (n + e.f4) (by omega) (by omega) hv j hj'
        refine ⟨by simpa only [List.getD_cons_succ] using g1, fun _ => ?_⟩
        cases j with
        | zero =>
          cases t with
          | nil => simp at hj'
          | cons y s =>
            have hy : y.f0 = n + e.f4 := by
              simp only [vRow, Bool.and_eq_true, decide_eq_true_eq] at hv
              exact hv.2.1
            simp only [List.getD_cons_succ, List.getD_cons_zero, Nat.add_sub_cancel]
            rw [hy, hf]
        | succ j => simpa using g2 (by omega)
theorem may_row (l : List Xt) {n : Nat} (hn : n ≤ 8) (h1 : 1 ≤ (rowG n 0 l).length) : mayF (rowG n 0 l) := by
  have h := rowG_ok n 0 l (by omega) (by omega)
  exact ⟨h1, by omega, vRow_okF _ 0 (by omega) (by omega) h.1⟩
end Go.Proofs.Ytigkcigoiinkpaa.Am
