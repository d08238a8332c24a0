import Derived.Test.YtigkcigoiinkpaaZF1
set_option linter.unusedVariables false
set_option linter.unusedSimpArgs false
set_option maxRecDepth 10000
set_option maxHeartbeats 0
namespace Go.Proofs.Ytigkcigoiinkpaa.Am
open Go Go.RowKit Go.Proofs
noncomputable def E1 : Env := ⟨Try.prog, fun f ds out => (f = 20 ∧ Sp_overdubkeep_Within ds out) ∨ (f = 49 ∧ Sp_field_Put ds out) ∨ (f = 48 ∧ Sp_field_Join ds out), Es, fun _ => false⟩
theorem E1_sp : ∀ f ds out, E1.Sp f ds out → Ent E1.P f ∧ Good E1.P f (fun a b => a = ds ∧ b = out) := by
  rintro f ds out (⟨rfl, h⟩ | ⟨rfl, h⟩ | ⟨rfl, h⟩)
  · exact ⟨ent_overdubkeep_Within, good_overdubkeep_Within.one h⟩
  · exact ⟨ent_field_Put, good_field_Put.one h⟩
  · exact ⟨ent_field_Join, good_field_Join.one h⟩
theorem E1_ok : E1.Ok := ⟨E1_sp, Es_ok⟩
theorem vRow_drop (l : List Xt) (k : Nat) (n : Int) (h : k < l.length) : vRow n (l.drop k) = (oneE (l.getD k x0) && (decide ((l.getD k x0).f0 = n) && (decide ((l.getD k x0).f4 ≤ 1000 - n) && vRow (n + (l.getD k x0).f4) (l.drop (k + 1))))) := by
  rw [List.drop_eq_getElem_cons h]
  simp [vRow, List.getD_eq_getElem?_getD, h]
end Go.Proofs.Ytigkcigoiinkpaa.Am
