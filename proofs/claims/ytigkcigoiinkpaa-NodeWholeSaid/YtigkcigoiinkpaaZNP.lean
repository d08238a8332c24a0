import Derived.Test.YtigkcigoiinkpaaZNH
import Derived.Test.YtigkcigoiinkpaaZNB
import Derived.Test.YtigkcigoiinkpaaZF6
set_option linter.unusedVariables false
set_option linter.unusedSimpArgs false
set_option maxRecDepth 10000
namespace Go.Proofs.Ytigkcigoiinkpaa.Am
open Go Go.RowKit Go.Proofs
theorem vRow_okF : ∀ (l : List Xt) (n : Int), 0 ≤ n → n ≤ 1000 → vRow n l = true → ∀ i, i < l.length → okF l i
  | [], n, _, _, _, i, hi => by simp at hi
  | e :: t, n, h0, h1, hv, i, hi => by
    simp only [vRow, Bool.and_eq_true, decide_eq_true_eq] at hv
    obtain ⟨ho, hf, h4, hv⟩ := hv
    all_goals
      have ho' : 1 ≤ e.f1 ∧ e.f1 < 4096 ∧ e.f2 ≤ 64 ∧ 0 ≤ e.f3 ∧ e.f3 < e.f2 ∧ 1 ≤ e.f4 ∧ e.f4 ≤ e.f2 - e.f3 := of_decide_eq_true ho
      cases i with
      | zero =>
        refine ⟨?_, fun h => by omega⟩
        simp only [List.getD_cons_zero]
        unfold inF
        omega
      | succ j =>
        have hj' : j < t.length := by simpa using hi
        obtain ⟨g1, g2⟩ := vRow_okF t (n + e.f4) (by omega) (by omega) hv j hj'
        refine ⟨by simpa only [List.getD_cons_succ] using g1, fun _ => ?_⟩
        cases j with
        | zero =>
          cases t with
          | nil => simp at hj'
          | cons y s =>
            have hy : y.f0 = n + e.f4 := by
              simp only [vRow, Bool.and_eq_true, decide_eq_true_eq] at hv
              exact hv.2.1
            simp only [List.getD_cons_succ, List.getD_cons_zero, Nat.add_sub_cancel]
            rw [hy, hf]
        | succ j => simpa using g2 (by omega)
theorem may_row (l : List Xt) {n : Nat} (hn : n ≤ 8) (h1 : 1 ≤ (rowG n 0 l).length) : mayF (rowG n 0 l) := by
  have h := rowG_ok n 0 l (by omega) (by omega)
  exact ⟨h1, by omega, vRow_okF _ 0 (by omega) (by omega) h.1⟩
end Go.Proofs.Ytigkcigoiinkpaa.Am
