import Derived.Test.YtfoalonjlhemmaaRows
import Derived.Test.YtfoalonjlhemmaaZQB
import Derived.Test.YtfoalonjlhemmaaZFlS0
set_option linter.unusedVariables false
set_option linter.unusedSimpArgs false
namespace Go.Proofs.Ytfoalonjlhemmaa.Am
open Go Go.RowKit Go.Proofs
theorem opv32 : OpV Try.prog 26 wf32 := opv_u32 Try.underlying26 (by kernel_rfl)
theorem sp_CrcBursts (x0 x1 x2 : D) (wf0 : wfS wfB x0) (wf1 : wfI x1) (wf2 : wf32 x2) : Sp_overdublaw03_CrcBursts [x0, x1, x2] ⟨.d (.v (.bool true)), []⟩ := by
  obtain ⟨l, rfl, hb, hl⟩ := wf_Bs wf0
  obtain ⟨n, rfl, _⟩ := wf1
  obtain ⟨m, rfl, h0, h1⟩ := wf2
  exact ⟨l, n, m, rfl, hb, hl, h0, h1, rfl⟩
end Go.Proofs.Ytfoalonjlhemmaa.Am
namespace Go.Proofs.Ytfoalonjlhemmaa.crcBursts
open Go Go.ChangeShapes Go.WideShapes Go.ChangeAt Go.RowKit Go.Proofs Go.Proofs.Ytfoalonjlhemmaa.Am
set_option linter.unusedVariables false
theorem own : ownKnob Try.prog.godebug = none := by kernel_rfl
theorem laidOut : laidOutB Try.prog = true := by kernel_rfl
set_option maxRecDepth 100000 in
theorem lifted (os : Os) (started : os.Started) (H : Type) (enc : TypeId × Value → H) :
    ReturnsInHanded {} Try.checked os 6 .any (Rows.crcBurstsSpec.pre6 enc Try.prog Try.f6 Rows.crcBurstsRow.domain false) (Rows.crcBurstsSpec.post enc Try.prog Try.f6 false true false false) := by
  refine returnsInHanded_of_change_sized (C := Try.checked) own started (by kernel_rfl) Try.func6
    (ChangeSpec.witness6 (enc := enc) (C := Try.checked) false ⟨#[], #[.slice none 0 0, .int .i64 0, .int .u32 0], []⟩ 8 (by kernel_rfl) (by kernel_rfl) (by kernel_rfl) (by kernel_rfl)) ?_
  intro W base args ds gs before hval0 hW hcnd hsz0 _
  have hval : ∀ (j : Nat) t v, Try.f6.params[j]? = some t → args[j]? = some v → Value.okWide Try.prog W .any base t v := hval0
  have hW' := hW
  obtain ⟨p, q, hA0, hV, rfl, hfz, hnd⟩ := hW
  have hA : DataW.TrodAll enc Try.prog W 0 (fun _ => true) true Try.f6.params.toList args.toList ds p := hA0
  rw [Try.params6] at hA hval
  obtain ⟨v0, vs0, d0, ds0, p0, q0, hargs, rfl, rfl, h0, r0⟩ := trodAll_cons hA
  obtain ⟨v1, vs1, d1, ds1, p1, q1, rfl, rfl, rfl, h1, r1⟩ := trodAll_cons r0
  obtain ⟨v2, vs2, d2, ds2, p2, q2, rfl, rfl, rfl, h2, r2⟩ := trodAll_cons r1
  obtain ⟨rfl, rfl, rfl⟩ := trodAll_nil r2
  obtain rfl : args = #[v0, v1, v2] := by cases args; simp_all
  obtain ⟨rfl, rfl⟩ := trodVars_none hV
  have lt0 : ∀ x ∈ p0, x.block < W.heap.size := by obtain ⟨m, hm⟩ := h0; exact DataW.trod_lt m _ _ _ hm
  obtain ⟨x0, rd0, wf0⟩ := opvBs H enc W _ _ v0 d0 p0 (hval 0 22 v0 rfl rfl) h0
  have lt1 : ∀ x ∈ p1, x.block < W.heap.size := by obtain ⟨m, hm⟩ := h1; exact DataW.trod_lt m _ _ _ hm
  obtain ⟨x1, rd1, wf1⟩ := opvi H enc W _ _ v1 d1 p1 (hval 1 3 v1 rfl rfl) h1
  have lt2 : ∀ x ∈ p2, x.block < W.heap.size := by obtain ⟨m, hm⟩ := h2; exact DataW.trod_lt m _ _ _ hm
  obtain ⟨x2, rd2, wf2⟩ := opv32 H enc W _ _ v2 d2 p2 (hval 2 26 v2 rfl rfl) h2
  have hP := sp_CrcBursts x0 x1 x2 wf0 wf1 wf2
  refine (law_calls good_overdublaw03_CrcBursts hP (args := #[v0, v1, v2]) (w := W) rfl ?_).mono fun e W' hpost => ?_
  · intro i d y h1 h2
    match i, h1, h2 with
    | 0, h1, h2 => cases h1; cases h2; exact rd0
    | 1, h1, h2 => cases h1; cases h2; exact rd1
    | 2, h1, h2 => cases h1; cases h2; exact rd2
    | k + 3, h1, h2 => simp at h1
  · obtain ⟨rfl, bel⟩ := hpost
    exact ⟨_, rfl, _, _, _, [], _, [], hW', trodAll_mk1 (shut_bool Try.underlying4 _), (trodAll_cons_mk (Below.trod laidOut (by kernel_rfl) (of_decide_eq_true (by kernel_rfl)) h0 bel lt0) (trodAll_cons_mk (Below.trod laidOut (by kernel_rfl) (of_decide_eq_true (by kernel_rfl)) h1 bel lt1) (trodAll_cons_mk (Below.trod laidOut (by kernel_rfl) (of_decide_eq_true (by kernel_rfl)) h2 bel lt2) trodAll_mk0))), rfl, bel.frame _, fun h => by cases h⟩
theorem over : Rows.crcBurstsRow.holds Try.pinned (OpenSpec.ofChange Rows.crcBurstsSpec) :=
  OpenClaim.holds_of_wide 6 Try.f6 rfl rfl rfl rfl rfl rfl rfl ⟨rfl, rfl, rfl, rfl, rfl⟩ rfl rfl rfl rfl rfl (by kernel_rfl) Try.func6 (by kernel_rfl)
    (of_decide_eq_true (by kernel_rfl)) (by unfold Func.isWrapper; first | (rw [if_pos (by decide +kernel)]; kernel_rfl) | (rw [if_neg (by decide +kernel)]; exact ⟨rfl, rfl⟩))
    (fun os started H enc _ => lifted os started H enc)
end Go.Proofs.Ytfoalonjlhemmaa.crcBursts
namespace Go.Proofs.Ytfoalonjlhemmaa
theorem crcBursts_holds : Rows.CrcBurstsSaid := crcBursts.over
#print axioms crcBursts_holds
end Go.Proofs.Ytfoalonjlhemmaa
