import Derived.Test.YtigkcigoiinkpaaZNG
set_option linter.unusedVariables false
set_option linter.unusedSimpArgs false
set_option maxRecDepth 10000
set_option maxHeartbeats 0
namespace Go.Proofs.Ytigkcigoiinkpaa.Am
open Go Go.RowKit Go.Proofs
theorem nil_BV (l : List Int) : (([] : List D) = l.map mB) = (l = []):=by cases l <;> simp
end Go.Proofs.Ytigkcigoiinkpaa.Am
