/- Contracts: records with a number past its bound. -/
import Derived.Test.YtalhmpmdfjofbaaF8
import Derived.Test.YtalhmpmdfjofbaaF9
set_option linter.unusedVariables false
set_option linter.unusedSimpArgs false
set_option maxRecDepth 10000
set_option maxHeartbeats 0
namespace Go.Proofs.Ytalhmpmdfjofbaa.Am
open Go Go.RowKit Go.Proofs


def Sp_overdublaw16_RecordLimits (ds : List D) (out : Out) : Prop := ∃ (k t a b : Int) (l : List Xt) (w y : Int), ds = [.agg [.v (.int .i64 k), .v (.int .i64 t), .v (.int .i64 a), .v (.int .i64 b), .list (l.map eD)], .v (.int .i64 w), .v (.int .i64 y)] ∧ l.length ≤ 9223372036854775807 ∧ (∀ e ∈ l, numE e) ∧ out = ⟨.d (.v (.bool true)), []⟩
theorem good_overdublaw16_RecordLimits : Good Try.prog 4 Sp_overdublaw16_RecordLimits := by
  rintro ds out ⟨k, t, a, b, l, w, y, h1, h2, h3, h4⟩
  by_cases hk : 1 + within k 5 = 3
  · exact Lb.good_overdublaw16_RecordLimits _ _ ⟨k, t, a, b, l, w, y, h1, h2, h3, hk, h4⟩
  · exact La.good_overdublaw16_RecordLimits _ _ ⟨k, t, a, b, l, w, y, h1, h2, h3, hk, h4⟩
end Go.Proofs.Ytalhmpmdfjofbaa.Am
