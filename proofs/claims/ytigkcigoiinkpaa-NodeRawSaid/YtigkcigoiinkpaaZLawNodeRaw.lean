import Derived.Test.YtigkcigoiinkpaaRows
import Derived.Test.YtigkcigoiinkpaaZQZ
import Derived.Test.YtigkcigoiinkpaaZFlN
set_option linter.unusedVariables false
set_option linter.unusedSimpArgs false
namespace Go.Proofs.Ytigkcigoiinkpaa.Am
open Go Go.RowKit Go.Proofs
theorem sp_NodeRaw (x0 x1 : D) (wf0 : wfS wfB x0) (wf1 : wfL x1) : Sp_overdublaw20_NodeRaw [x0, x1] ⟨.d (.v (.bool true)), []⟩ := by
  obtain ⟨v0, rfl, k0, h0⟩ := wf_Bs wf0
  obtain ⟨v1, rfl⟩ := wf1
  exact ⟨v0, v1, rfl, k0, h0, rfl⟩
end Go.Proofs.Ytigkcigoiinkpaa.Am
namespace Go.Proofs.Ytigkcigoiinkpaa.nodeRaw
open Go Go.ChangeShapes Go.WideShapes Go.ChangeAt Go.RowKit Go.Proofs Go.Proofs.Ytigkcigoiinkpaa.Am
set_option linter.unusedVariables false
theorem own : ownKnob Try.prog.godebug = none := by kernel_rfl
theorem laidOut : laidOutB Try.prog = true := by kernel_rfl
set_option maxRecDepth 100000 in
theorem lifted (os : Os) (started : os.Started) (H : Type) (enc : TypeId × Value → H) :
    ReturnsInHanded {} Try.checked os 7 .any (Rows.nodeRawSpec.pre6 enc Try.prog Try.f7 Rows.nodeRawRow.domain false) (Rows.nodeRawSpec.post enc Try.prog Try.f7 false true false false) := by
  refine returnsInHanded_of_change_sized (C := Try.checked) own started (by kernel_rfl) Try.func7
    (ChangeSpec.witness6 (enc := enc) (C := Try.checked) false ⟨#[], #[.slice none 0 0, .bool false], []⟩ 8 (by kernel_rfl) (by kernel_rfl) (by kernel_rfl) (by kernel_rfl)) ?_
  intro W base args ds gs before hval0 hW hcnd hsz0 _
  have hval : ∀ (j : Nat) t v, Try.f7.params[j]? = some t → args[j]? = some v → Value.okWide Try.prog W .any base t v := hval0
  have hW' := hW
  obtain ⟨p, q, hA0, hV, rfl, hfz, hnd⟩ := hW
  have hA : DataW.TrodAll enc Try.prog W 0 (fun _ => true) true Try.f7.params.toList args.toList ds p := hA0
  rw [Try.params7] at hA hval
  obtain ⟨v0, vs0, d0, ds0, p0, q0, hargs, rfl, rfl, h0, r0⟩ := trodAll_cons hA
  obtain ⟨v1, vs1, d1, ds1, p1, q1, rfl, rfl, rfl, h1, r1⟩ := trodAll_cons r0
  obtain ⟨rfl, rfl, rfl⟩ := trodAll_nil r1
  obtain rfl : args = #[v0, v1] := by cases args; simp_all
  obtain ⟨rfl, rfl⟩ := trodVars_none hV
  have lt0 : ∀ x ∈ p0, x.block < W.heap.size := by obtain ⟨m, hm⟩ := h0; exact DataW.trod_lt m _ _ _ hm
  obtain ⟨x0, rd0, wf0⟩ := opvBs H enc W _ _ v0 d0 p0 (hval 0 31 v0 rfl rfl) h0
  have lt1 : ∀ x ∈ p1, x.block < W.heap.size := by obtain ⟨m, hm⟩ := h1; exact DataW.trod_lt m _ _ _ hm
  obtain ⟨x1, rd1, wf1⟩ := opvL H enc W _ _ v1 d1 p1 (hval 1 4 v1 rfl rfl) h1
  have hP := sp_NodeRaw x0 x1 wf0 wf1
  refine (law_calls good_overdublaw20_NodeRaw hP (args := #[v0, v1]) (w := W) rfl ?_).mono fun e W' hpost => ?_
  · intro i d y h1 h2
    match i, h1, h2 with
    | 0, h1, h2 => cases h1; cases h2; exact rd0
    | 1, h1, h2 => cases h1; cases h2; exact rd1
    | k + 2, h1, h2 => simp at h1
  · obtain ⟨rfl, bel⟩ := hpost
    exact ⟨_, rfl, _, _, _, [], _, [], hW', trodAll_mk1 (shut_bool Try.underlying4 _), (trodAll_cons_mk (Below.trod laidOut (by kernel_rfl) (of_decide_eq_true (by kernel_rfl)) h0 bel lt0) (trodAll_cons_mk (Below.trod laidOut (by kernel_rfl) (of_decide_eq_true (by kernel_rfl)) h1 bel lt1) trodAll_mk0)), rfl, bel.frame _, fun h => by cases h⟩
theorem over : Rows.nodeRawRow.holds Try.pinned (OpenSpec.ofChange Rows.nodeRawSpec) :=
  OpenClaim.holds_of_wide 7 Try.f7 rfl rfl rfl rfl rfl rfl rfl ⟨rfl, rfl, rfl, rfl, rfl⟩ rfl rfl rfl rfl rfl (by kernel_rfl) Try.func7 (by kernel_rfl)
    (of_decide_eq_true (by kernel_rfl)) (by unfold Func.isWrapper; first | (rw [if_pos (by decide +kernel)]; kernel_rfl) | (rw [if_neg (by decide +kernel)]; exact ⟨rfl, rfl⟩))
    (fun os started H enc _ => lifted os started H enc)
end Go.Proofs.Ytigkcigoiinkpaa.nodeRaw
namespace Go.Proofs.Ytigkcigoiinkpaa
theorem nodeRaw_holds : Rows.NodeRawSaid := nodeRaw.over
#print axioms nodeRaw_holds
end Go.Proofs.Ytigkcigoiinkpaa
