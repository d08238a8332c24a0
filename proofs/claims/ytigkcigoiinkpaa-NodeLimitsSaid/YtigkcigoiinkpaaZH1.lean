import Derived.Test.YtigkcigoiinkpaaZF1
set_option linter.unusedVariables false
set_option linter.unusedSimpArgs false
set_option maxRecDepth 10000
set_option maxHeartbeats 0
namespace Go.Proofs.Ytigkcigoiinkpaa.Am
open Go Go.RowKit Go.Proofs
instance : DecidableEq Xt := fun a b => decidable_of_iff (a.f0 = b.f0 ∧ a.f1 = b.f1 ∧ a.f2 = b.f2 ∧ a.f3 = b.f3 ∧ a.f4 = b.f4) (by cases a; cases b; simp)
def Sp_overdubkeep_Same_api_Extent (ds : List D) (out : Out) : Prop := ∃ l m : List Xt, ds = [.list (l.map eD), .list (m.map eD)] ∧ l.length ≤ 9223372036854775807 ∧ m.length ≤ 9223372036854775807 ∧ out = ⟨.d (.v (.bool (decide (l = m)))), []⟩
end Go.Proofs.Ytigkcigoiinkpaa.Am
