/- Contracts: numbers of bytes. -/
import Derived.Test.YtgobcnepjofddaaG1
set_option linter.unusedVariables false
set_option linter.unusedSimpArgs false
set_option maxRecDepth 10000
set_option maxHeartbeats 0
namespace Go.Proofs.Ytgobcnepjofddaa.Am
open Go Go.RowKit Go.Proofs

noncomputable def G1 : Env := ⟨Try.prog, fun f ds out => False, Es⟩
theorem G1_sp : ∀ f ds out, G1.Sp f ds out → Ent G1.P f ∧ Good G1.P f (fun a b => a = ds ∧ b = out) := fun _ _ _ h => h.elim
theorem G1_ok : G1.Ok := ⟨G1_sp, Es_ok⟩
theorem take_mB (l : List Int) (n : Nat) : (l.map mB).take n = (l.take n).map mB := List.map_take.symm
theorem drop_mB (l : List Int) (n : Nat) : (l.map mB).drop n = (l.drop n).map mB := List.map_drop.symm
theorem snoc_I (l : List Int) (x : Int) : l.map mI ++ [D.v (.int .i64 x)] = (l ++ [x]).map mI := by simp [mI]
def takeOut (l ws : List Int) : Out := match takeL l ws with
  | none => ⟨.tup [.nil, .d (.v (.bool false))], []⟩
  | some r => ⟨.tup [.sl 0 1 0 r.length true, .d (.v (.bool true))], [(0, .row 3 1 (r.map mI))]⟩
end Go.Proofs.Ytgobcnepjofddaa.Am
