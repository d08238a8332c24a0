/- What may be is packed, and read as it was; a byte fewer or more is none: the row. -/
import Derived.Test.YteegiejdoffgfaaRows
import Derived.Test.YteegiejdoffgfaaX2
import Derived.Test.YteegiejdoffgfaaFl
set_option linter.unusedVariables false
set_option linter.unusedSimpArgs false
namespace Go.Proofs.Yteegiejdoffgfaa.Am
open Go Go.RowKit Go.Proofs
theorem sp_RecordBack (x0 : D) (wf0 : wfR x0) : Sp_overdublaw16_RecordBack [x0] ⟨.d (.v (.bool true)), []⟩ := by
  obtain ⟨k, t, a, b, l, rfl, h1, h2, _⟩ := wf_R wf0
  exact ⟨k, t, a, b, l, rfl, h1, h2, rfl⟩
end Go.Proofs.Yteegiejdoffgfaa.Am
namespace Go.Proofs.Yteegiejdoffgfaa.recordBack
open Go Go.ChangeShapes Go.WideShapes Go.ChangeAt Go.RowKit Go.Proofs Go.Proofs.Yteegiejdoffgfaa.Am
set_option linter.unusedVariables false
theorem own : ownKnob Try.prog.godebug = none := by kernel_rfl
theorem laidOut : laidOutB Try.prog = true := by kernel_rfl
set_option maxRecDepth 100000 in
theorem lifted (os : Os) (started : os.Started) (H : Type) (enc : TypeId × Value → H) :
    ReturnsInHanded {} Try.checked os 3 .any (Rows.recordBackSpec.pre6 enc Try.prog Try.f3 Rows.recordBackRow.domain false) (Rows.recordBackSpec.post enc Try.prog Try.f3 false true false false) := by
  refine returnsInHanded_of_change_sized (C := Try.checked) own started (by kernel_rfl) Try.func3
    (ChangeSpec.witness6 (enc := enc) (C := Try.checked) false ⟨#[], #[.agg #[.int .i64 0, .int .i64 0, .int .i64 0, .int .i64 0, .slice none 0 0]], []⟩ 8 (by kernel_rfl) (by kernel_rfl) (by kernel_rfl) (by kernel_rfl)) ?_
  intro W base args ds gs before hval0 hW hcnd hsz0 _
  have hval : ∀ (j : Nat) t v, Try.f3.params[j]? = some t → args[j]? = some v → Value.okWide Try.prog W .any base t v := hval0
  have hW' := hW
  obtain ⟨p, q, hA0, hV, rfl, hfz, hnd⟩ := hW
  have hA : DataW.TrodAll enc Try.prog W 0 (fun _ => true) true Try.f3.params.toList args.toList ds p := hA0
  rw [Try.params3] at hA hval
  obtain ⟨v0, vs0, d0, ds0, p0, q0, hargs, rfl, rfl, h0, r0⟩ := trodAll_cons hA
  obtain ⟨rfl, rfl, rfl⟩ := trodAll_nil r0
  obtain rfl : args = #[v0] := by cases args; simp_all
  obtain ⟨rfl, rfl⟩ := trodVars_none hV
  have lt0 : ∀ x ∈ p0, x.block < W.heap.size := by obtain ⟨m, hm⟩ := h0; exact DataW.trod_lt m _ _ _ hm
  obtain ⟨x0, rd0, wf0⟩ := opv24 H enc W _ _ v0 d0 p0 (hval 0 24 v0 rfl rfl) h0
  have hP := sp_RecordBack x0 wf0
  refine (law_calls good_overdublaw16_RecordBack hP (args := #[v0]) (w := W) rfl ?_).mono fun e W' hpost => ?_
  · intro i d y h1 h2
    match i, h1, h2 with
    | 0, h1, h2 => cases h1; cases h2; exact rd0
    | k + 1, h1, h2 => simp at h1
  · obtain ⟨rfl, bel⟩ := hpost
    exact ⟨_, rfl, _, _, _, [], _, [], hW', trodAll_mk1 (shut_bool Try.underlying4 _), (trodAll_cons_mk (Below.trod laidOut (by kernel_rfl) (of_decide_eq_true (by kernel_rfl)) h0 bel lt0) trodAll_mk0), rfl, bel.frame _, fun h => by cases h⟩
theorem over : Rows.recordBackRow.holds Try.pinned (OpenSpec.ofChange Rows.recordBackSpec) :=
  OpenClaim.holds_of_wide 3 Try.f3 rfl rfl rfl rfl rfl rfl rfl ⟨rfl, rfl, rfl, rfl, rfl⟩ rfl rfl rfl rfl rfl (by kernel_rfl) Try.func3 (by kernel_rfl)
    (of_decide_eq_true (by kernel_rfl)) (by unfold Func.isWrapper; first | (rw [if_pos (by decide +kernel)]; kernel_rfl) | (rw [if_neg (by decide +kernel)]; exact ⟨rfl, rfl⟩))
    (fun os started H enc _ => lifted os started H enc)
end Go.Proofs.Yteegiejdoffgfaa.recordBack
namespace Go.Proofs.Yteegiejdoffgfaa
/-- The row, under a short name, for the claim. -/
theorem recordBack_holds : Rows.RecordBackSaid := recordBack.over
#print axioms recordBack_holds
end Go.Proofs.Yteegiejdoffgfaa
