/- The law RecordExtents: what it comes to. -/
import Derived.Test.YtljohhinokaklaaF6
import Derived.Test.YtljohhinokaklaaH2
import Derived.Test.YtljohhinokaklaaG3
set_option linter.unusedVariables false
set_option linter.unusedSimpArgs false
set_option maxRecDepth 10000
set_option maxHeartbeats 0
namespace Go.Proofs.Ytljohhinokaklaa.Am
open Go Go.RowKit Go.Proofs

theorem toNat12 : (12 : Int).toNat = 12 := rfl
theorem rowG_okE (l : List Xt) (n : Nat) : ∀ e ∈ rowG n 0 l, okE e := (vRow_facts _ 0 (by omega) (by omega) (rowG_ok n 0 l (by omega) (by omega)).1).1
theorem tex_none {l : List Int} {n : Int} (h : n < 0 ∨ (l.length : Int) ≠ 7 * n) : texOut l n = ⟨.tup [.nil, .d (.v (.bool false))], []⟩ := by rw [texOut, if_pos]; omega
theorem tex_some {l : List Xt} (h : ∀ e ∈ l, okE e) : texOut (exsB l) (l.length : Int) = ⟨.tup [.sl 0 5 0 l.length true, .d (.v (.bool true))], [(0, .row 35 5 (l.map eD))]⟩ := by
  have hl := exsB_length l
  rw [texOut, if_neg (by omega), Int.toNat_natCast, takeE_exsB l h]
noncomputable def EX : Env := ⟨Try.prog, fun f ds out => (f = 22 ∧ Sp_overdublaw16_Row ds out) ∨ (f = 15 ∧ Sp_record_Extents ds out) ∨ (f = 11 ∧ Sp_record_TakeExtents ds out) ∨ (f = 17 ∧ Sp_overdubkeep_Same_api_Extent ds out) ∨ (f = 18 ∧ Sp_overdublaw16_wakes ds out) ∨ (f = 7 ∧ Sp_overdubkeep_Within ds out), Es⟩
theorem EX_sp : ∀ f ds out, EX.Sp f ds out → Ent EX.P f ∧ Good EX.P f (fun a b => a = ds ∧ b = out) := by
  rintro f ds out (⟨rfl, h⟩ | ⟨rfl, h⟩ | ⟨rfl, h⟩ | ⟨rfl, h⟩ | ⟨rfl, h⟩ | ⟨rfl, h⟩)
  · exact ⟨ent_overdublaw16_Row, good_overdublaw16_Row.one h⟩
  · exact ⟨ent_record_Extents, good_record_Extents.one h⟩
  · exact ⟨ent_record_TakeExtents, good_record_TakeExtents.one h⟩
  · exact ⟨ent_overdubkeep_Same_api_Extent, good_overdubkeep_Same_api_Extent.one h⟩
  · exact ⟨ent_overdublaw16_wakes, good_overdublaw16_wakes.one h⟩
  · exact ⟨ent_overdubkeep_Within, good_overdubkeep_Within.one h⟩
theorem EX_ok : EX.Ok := ⟨EX_sp, Es_ok⟩
end Go.Proofs.Ytljohhinokaklaa.Am
