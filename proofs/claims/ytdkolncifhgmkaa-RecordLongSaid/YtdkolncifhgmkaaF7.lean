/- Contracts: the laws' own functions. -/
import Derived.Test.YtdkolncifhgmkaaF6
set_option linter.unusedVariables false
set_option linter.unusedSimpArgs false
set_option maxRecDepth 10000
set_option maxHeartbeats 0
namespace Go.Proofs.Ytdkolncifhgmkaa.Am
open Go Go.RowKit Go.Proofs


noncomputable def E6 : Env := ⟨Try.prog, fun f ds out => (f = 4 ∧ Sp_overdubkeep_Within ds out), Es⟩
theorem E6_sp : ∀ f ds out, E6.Sp f ds out → Ent E6.P f ∧ Good E6.P f (fun a b => a = ds ∧ b = out) := by
  rintro f ds out ⟨rfl, h⟩
  exact ⟨ent_overdubkeep_Within, good_overdubkeep_Within.one h⟩
theorem E6_ok : E6.Ok := ⟨E6_sp, Es_ok⟩
def rightOut (k t a b : Int) (l : List Xt) : Out :=
  if 1 + within k 5 = 1 ∨ 1 + within k 5 = 2 then ⟨.agg [.d (.v (.int .i64 (1 + within k 5))), .d (.v (.int .i64 (within t 100))), .d (.v (.int .i64 0)), .d (.v (.int .i64 0)), .nil], []⟩
  else if 1 + within k 5 = 3 then ⟨.agg [.d (.v (.int .i64 (1 + within k 5))), .d (.v (.int .i64 (within t 100))), .d (.v (.int .i64 (within a (within b 1001 + 1)))), .d (.v (.int .i64 (within b 1001))), .sl 0 5 0 (rowG 20 0 l).length true], [(0, .row 25 5 ((rowG 20 0 l).map eD))]⟩
  else ⟨.agg [.d (.v (.int .i64 (1 + within k 5))), .d (.v (.int .i64 0)), .d (.v (.int .i64 0)), .d (.v (.int .i64 0)), .nil], []⟩
theorem toNat20 : (20 : Int).toNat = 20 := rfl
end Go.Proofs.Ytdkolncifhgmkaa.Am
