import Derived.Test.YtfoalonjlhemmaaRows
import Derived.Test.YtfoalonjlhemmaaZQS
import Derived.Test.YtfoalonjlhemmaaZFlS0
set_option linter.unusedVariables false
set_option linter.unusedSimpArgs false
namespace Go.Proofs.Ytfoalonjlhemmaa.Am
open Go Go.RowKit Go.Proofs
theorem opv32 : OpV Try.prog 26 wf32 := opv_u32 Try.underlying26 (by kernel_rfl)
theorem sp_CrcSums (x0 x1 : D) (wf0 : wfS wfB x0) (wf2 : wf32 x1) : Sp_overdublaw03_CrcSums [x0, x1] ⟨.d (.v (.bool true)), []⟩ := by
  obtain ⟨l, rfl, hb, hl⟩ := wf_Bs wf0
  obtain ⟨m, rfl, h0, h1⟩ := wf2
  exact ⟨l, m, rfl, hb, hl, h0, h1, rfl⟩
end Go.Proofs.Ytfoalonjlhemmaa.Am
namespace Go.Proofs.Ytfoalonjlhemmaa.crcSums
open Go Go.ChangeShapes Go.WideShapes Go.ChangeAt Go.RowKit Go.Proofs Go.Proofs.Ytfoalonjlhemmaa.Am
set_option linter.unusedVariables false
theorem own : ownKnob Try.prog.godebug = none := by kernel_rfl
theorem laidOut : laidOutB Try.prog = true := by kernel_rfl
set_option maxRecDepth 100000 in
theorem lifted (os : Os) (started : os.Started) (H : Type) (enc : TypeId × Value → H) :
    ReturnsInHanded {} Try.checked os 8 .any (Rows.crcSumsSpec.pre6 enc Try.prog Try.f8 Rows.crcSumsRow.domain false) (Rows.crcSumsSpec.post enc Try.prog Try.f8 false true false false) := by
  refine returnsInHanded_of_change_sized (C := Try.checked) own started (by kernel_rfl) Try.func8
    (ChangeSpec.witness6 (enc := enc) (C := Try.checked) false ⟨#[], #[.slice none 0 0, .int .u32 0], []⟩ 8 (by kernel_rfl) (by kernel_rfl) (by kernel_rfl) (by kernel_rfl)) ?_
  intro W base args ds gs before hval0 hW hcnd hsz0 _
  have hval : ∀ (j : Nat) t v, Try.f8.params[j]? = some t → args[j]? = some v → Value.okWide Try.prog W .any base t v := hval0
  have hW' := hW
  obtain ⟨p, q, hA0, hV, rfl, hfz, hnd⟩ := hW
  have hA : DataW.TrodAll enc Try.prog W 0 (fun _ => true) true Try.f8.params.toList args.toList ds p := hA0
  rw [Try.params8] at hA hval
  obtain ⟨v0, vs0, d0, ds0, p0, q0, hargs, rfl, rfl, h0, r0⟩ := trodAll_cons hA
  obtain ⟨v1, vs1, d1, ds1, p1, q1, rfl, rfl, rfl, h1, r1⟩ := trodAll_cons r0
  obtain ⟨rfl, rfl, rfl⟩ := trodAll_nil r1
  obtain rfl : args = #[v0, v1] := by cases args; simp_all
  obtain ⟨rfl, rfl⟩ := trodVars_none hV
  have lt0 : ∀ x ∈ p0, x.block < W.heap.size := by obtain ⟨m, hm⟩ := h0; exact DataW.trod_lt m _ _ _ hm
  obtain ⟨x0, rd0, wf0⟩ := opvBs H enc W _ _ v0 d0 p0 (hval 0 22 v0 rfl rfl) h0
  have lt1 : ∀ x ∈ p1, x.block < W.heap.size := by obtain ⟨m, hm⟩ := h1; exact DataW.trod_lt m _ _ _ hm
  obtain ⟨x1, rd1, wf1⟩ := opv32 H enc W _ _ v1 d1 p1 (hval 1 26 v1 rfl rfl) h1
  have hP := sp_CrcSums x0 x1 wf0 wf1
  refine (law_calls good_overdublaw03_CrcSums hP (args := #[v0, v1]) (w := W) rfl ?_).mono fun e W' hpost => ?_
  · intro i d y h1 h2
    match i, h1, h2 with
    | 0, h1, h2 => cases h1; cases h2; exact rd0
    | 1, h1, h2 => cases h1; cases h2; exact rd1
    | k + 2, h1, h2 => simp at h1
  · obtain ⟨rfl, bel⟩ := hpost
    exact ⟨_, rfl, _, _, _, [], _, [], hW', trodAll_mk1 (shut_bool Try.underlying4 _), (trodAll_cons_mk (Below.trod laidOut (by kernel_rfl) (of_decide_eq_true (by kernel_rfl)) h0 bel lt0) (trodAll_cons_mk (Below.trod laidOut (by kernel_rfl) (of_decide_eq_true (by kernel_rfl)) h1 bel lt1) trodAll_mk0)), rfl, bel.frame _, fun h => by cases h⟩
theorem over : Rows.crcSumsRow.holds Try.pinned (OpenSpec.ofChange Rows.crcSumsSpec) :=
  OpenClaim.holds_of_wide 8 Try.f8 rfl rfl rfl rfl rfl rfl rfl ⟨rfl, rfl, rfl, rfl, rfl⟩ rfl rfl rfl rfl rfl (by kernel_rfl) Try.func8 (by kernel_rfl)
    (of_decide_eq_true (by kernel_rfl)) (by unfold Func.isWrapper; first | (rw [if_pos (by decide +kernel)]; kernel_rfl) | (rw [if_neg (by decide +kernel)]; exact ⟨rfl, rfl⟩))
    (fun os started H enc _ => lifted os started H enc)
end Go.Proofs.Ytfoalonjlhemmaa.crcSums
namespace Go.Proofs.Ytfoalonjlhemmaa
theorem crcSums_holds : Rows.CrcSumsSaid := crcSums.over
#print axioms crcSums_holds
end Go.Proofs.Ytfoalonjlhemmaa
