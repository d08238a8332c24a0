import Derived.Test.YtigkcigoiinkpaaZF2
set_option linter.unusedVariables false
set_option linter.unusedSimpArgs false
set_option maxRecDepth 10000
set_option maxHeartbeats 0
namespace Go.Proofs.Ytigkcigoiinkpaa.Am
open Go Go.RowKit Go.Proofs
theorem vb_c {a b : Bool} (h : a = b) : V.d (D.v (.bool a)) = V.d (D.v (.bool b)) := by rw [h]
section
variable {k t a b : Int} {l : List Xt}
theorem noneR_eq : noneR a b l = decide (a = 0 ∧ b = 0 ∧ (l.length : Int) = 0) := by
  unfold noneR
  rw [Bool.eq_iff_iff]
  simp only [Bool.and_eq_true, decide_eq_true_eq]
  omega
theorem validR12 (h : k = 1 ∨ k = 2) : validR k t a b l = (noneR a b l && decide (0 ≤ t ∧ t ≤ 99)) := by unfold validR; rw [if_pos h]
theorem validR45 (h : k = 4 ∨ k = 5) : validR k t a b l = (noneR a b l && decide (t = 0)) := by unfold validR; rw [if_neg (by omega), if_pos h]
theorem validR3 (h : k = 3) : validR k t a b l = (decide (0 ≤ t ∧ t ≤ 99) && (decide (0 ≤ a ∧ a ≤ b ∧ b ≤ 1000) && vRow 0 l)) := by unfold validR; rw [if_neg (by omega), if_neg (by omega), if_pos h]
theorem validR0 (h : ¬ (k = 1 ∨ k = 2)) (h1 : ¬ (k = 4 ∨ k = 5)) (h2 : ¬ k = 3) : validR k t a b l = false := by unfold validR; rw [if_neg h, if_neg h1, if_neg h2]
end
noncomputable def E2 : Env := ⟨Try.prog, fun f ds out => (f = 20 ∧ Sp_overdubkeep_Within ds out) ∨ (f = 49 ∧ Sp_field_Put ds out) ∨ (f = 48 ∧ Sp_field_Join ds out), Es, fun _ => false⟩
theorem E2_sp : ∀ f ds out, E2.Sp f ds out → Ent E2.P f ∧ Good E2.P f (fun a b => a = ds ∧ b = out) := by
  rintro f ds out (⟨rfl, h⟩ | ⟨rfl, h⟩ | ⟨rfl, h⟩)
  · exact ⟨ent_overdubkeep_Within, good_overdubkeep_Within.one h⟩
  · exact ⟨ent_field_Put, good_field_Put.one h⟩
  · exact ⟨ent_field_Join, good_field_Join.one h⟩
theorem E2_ok : E2.Ok := ⟨E2_sp, Es_ok⟩
end Go.Proofs.Ytigkcigoiinkpaa.Am
