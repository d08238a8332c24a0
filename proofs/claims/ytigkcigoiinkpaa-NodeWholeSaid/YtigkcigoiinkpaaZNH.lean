import Derived.Test.YtigkcigoiinkpaaZN3
import Derived.Test.YtigkcigoiinkpaaZH2
set_option linter.unusedVariables false
set_option linter.unusedSimpArgs false
set_option maxRecDepth 10000
set_option maxHeartbeats 0
namespace Go.Proofs.Ytigkcigoiinkpaa.Am
open Go Go.RowKit Go.Proofs
theorem within_rngh {v n : Int} (hn : 1 ≤ n) : 0 ≤ within v n ∧ within v n < n := by
  unfold within
  rw [if_neg (by omega)]
  have h1 := Int.tmod_lt_of_pos v (show 0 < n by omega)
  have h2 := Int.lt_tmod_of_pos v (show 0 < n by omega)
  split <;> omega
instance : DecidableEq Pa := fun a b => decidable_of_iff (a.a = b.a ∧ a.b = b.b) (by cases a; cases b; simp)
instance : DecidableEq Ln := fun a b => decidable_of_iff (a.a = b.a ∧ a.b = b.b ∧ a.c = b.c) (by cases a; cases b; simp)
end Go.Proofs.Ytigkcigoiinkpaa.Am
