/- Contracts: extents of bytes. -/
import Derived.Test.YtgobcnepjofddaaG2
set_option linter.unusedVariables false
set_option linter.unusedSimpArgs false
set_option maxRecDepth 10000
set_option maxHeartbeats 0
namespace Go.Proofs.Ytgobcnepjofddaa.Am
open Go Go.RowKit Go.Proofs

theorem W5 (a b c d e : Int) (ws : List Int) : ([D.v (.int .i64 a), D.v (.int .i64 b), D.v (.int .i64 c), D.v (.int .i64 d), D.v (.int .i64 e)] = ws.map mI) = (ws = [a, b, c, d, e]) := by
  rw [show [D.v (.int .i64 a), D.v (.int .i64 b), D.v (.int .i64 c), D.v (.int .i64 d), D.v (.int .i64 e)] = [a, b, c, d, e].map mI from rfl, mI_inj]
  exact propext eq_comm
theorem snocE (l : List Xt) (a b c d e : Int) : l.map eD ++ [D.agg [.v (.int .i64 a), .v (.int .i64 b), .v (.int .i64 c), .v (.int .i64 d), .v (.int .i64 e)]] = (l ++ [Xt.mk a b c d e]).map eD := by simp [eD, mI]
noncomputable def G2 : Env := ⟨Try.prog, fun f ds out => False, Es⟩
theorem G2_sp : ∀ f ds out, G2.Sp f ds out → Ent G2.P f ∧ Good G2.P f (fun a b => a = ds ∧ b = out) := fun _ _ _ h => h.elim
theorem G2_ok : G2.Ok := ⟨G2_sp, Es_ok⟩
def texOut (l : List Int) (n : Int) : Out := if n < 0 ∨ (l.length : Int) % 7 ≠ 0 ∨ (l.length : Int) / 7 ≠ n then ⟨.tup [.nil, .d (.v (.bool false))], []⟩
  else ⟨.tup [.sl 0 5 0 (takeE l n.toNat).length true, .d (.v (.bool true))], [(0, .row 27 5 ((takeE l n.toNat).map eD))]⟩
end Go.Proofs.Ytgobcnepjofddaa.Am
