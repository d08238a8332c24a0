/- Contracts: records with a number past its bound. -/
import Derived.Test.YtalhmpmdfjofbaaF7
set_option linter.unusedVariables false
set_option linter.unusedSimpArgs false
set_option maxRecDepth 10000
set_option maxHeartbeats 0
namespace Go.Proofs.Ytalhmpmdfjofbaa.Am
open Go Go.RowKit Go.Proofs


section
variable {k t a b : Int} {l : List Xt}
theorem validR_big (h : 6 ≤ k) : validR k t a b l = false := validR0 (by omega) (by omega) (by omega)
theorem validR_small (h : k < 1) : validR k t a b l = false := validR0 (by omega) (by omega) (by omega)
theorem validR_t (h : 99 < t) : validR k t a b l = false := by
  cases hv : validR k t a b l with
  | false => rfl
  | true => have := validR_facts hv; omega
theorem validR_ab (hk : k = 3) (h : b < a) : validR k t a b l = false := by
  rw [validR3 hk, decide_eq_false (p := 0 ≤ a ∧ a ≤ b ∧ b ≤ 1000) (by omega)]; simp
theorem validR_b (h : 1000 < b) : validR k t a b l = false := by
  cases hv : validR k t a b l with
  | false => rfl
  | true => have := validR_facts hv; omega
theorem validR_4t (hk : k = 4) (h : t ≠ 0) : validR k t a b l = false := by
  rw [validR45 (by omega), decide_eq_false h]; simp
end
theorem numE_row (l : List Xt) (n : Nat) : ∀ e ∈ rowG n 0 l, numE e := fun e he => okE_num ((vRow_facts _ 0 (by omega) (by omega) (rowG_ok n 0 l (by omega) (by omega)).1).1 e he)
noncomputable def E7 : Env := ⟨Try.prog, fun f ds out => (f = 10 ∧ Sp_overdublaw16_Right ds out) ∨ (f = 15 ∧ Sp_overdubkeep_Within ds out) ∨ (f = 11 ∧ Sp_record_Pack ds out) ∨ (f = 16 ∧ Sp_record_Valid ds out) ∨ (f = 14 ∧ Sp_overdublaw16_wakes ds out), Es⟩
theorem E7_sp : ∀ f ds out, E7.Sp f ds out → Ent E7.P f ∧ Good E7.P f (fun a b => a = ds ∧ b = out) := by
  rintro f ds out (⟨rfl, h⟩ | ⟨rfl, h⟩ | ⟨rfl, h⟩ | ⟨rfl, h⟩ | ⟨rfl, h⟩)
  · exact ⟨ent_overdublaw16_Right, good_overdublaw16_Right.one h⟩
  · exact ⟨ent_overdubkeep_Within, good_overdubkeep_Within.one h⟩
  · exact ⟨ent_record_Pack, good_record_Pack.one h⟩
  · exact ⟨ent_record_Valid, good_record_Valid.one h⟩
  · exact ⟨ent_overdublaw16_wakes, good_overdublaw16_wakes.one h⟩
theorem E7_ok : E7.Ok := ⟨E7_sp, Es_ok⟩
end Go.Proofs.Ytalhmpmdfjofbaa.Am
