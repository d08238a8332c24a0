-- written by the session's turned print (NOTES.md, 'The tool')
import Derived.Test.YtaiaackeljlbfaaRows
import Derived.Test.YtaiaackeljlbfaaQBx5
import Derived.Test.YtaiaackeljlbfaaQBxWf
import Derived.Test.YtaiaackeljlbfaaPureCellLimits
import Derived.WalkKit
import Derived.ProofKit
import Derived.OpenShut
import Derived.ShutString
import Derived.ChangeOld
import Derived.Below
import Derived.SizedLaws
import Derived.Test.YtaiaackeljlbfaaWSized
namespace Go.Proofs.Ytaiaackeljlbfaa.cellLimits
open Go.ChangeShapes Go.WideShapes Go.ChangeAt Go.RowKit Go.Proofs.YtaiaackeljlbfaaW.PrintWords Go.Proofs.Ytaiaackeljlbfaa.Op Go.Proofs.Ytaiaackeljlbfaa.QB
open Go.ChangeMaps (open_string shut_string)
set_option linter.unusedVariables false
theorem own : ownKnob Try.prog.godebug = none := by kernel_rfl
theorem laidOut : laidOutB Try.prog = true := by kernel_rfl
set_option maxRecDepth 100000 in
theorem lifted (os : Os) (started : os.Started) (H : Type) (enc : TypeId × Value → H) :
    ReturnsInHanded {} Try.checked os 8 .any (Rows.cellLimitsSpec.pre6 enc Try.prog Try.f8 Rows.cellLimitsRow.domain false) (Rows.cellLimitsSpec.post enc Try.prog Try.f8 false true false false) := by
  refine returnsInHanded_of_change_sized (C := Try.checked) own started (by kernel_rfl) Try.func8
    (ChangeSpec.witness6 (enc := enc) (C := Try.checked) false ⟨#[], #[.agg #[.int .i64 0, .int .i64 0, .int .i64 0, .int .i64 0, .slice none 0 0], .int .i64 0, .int .i64 0], []⟩ 8 (by kernel_rfl) (by kernel_rfl) (by kernel_rfl) (by kernel_rfl)) ?_
  intro W base args ds gs before hval0 hW hcnd hsz0 _
  have hsz : (DataW.weightsEach Try.prog (Try.f8.params.toList ++ Rows.cellLimitsSpec.plain.varTypes Try.prog) (ds ++ gs)).all (· ≤ reachBytes) = true := hsz0
  have hval : ∀ (j : Nat) t v, Try.f8.params[j]? = some t → args[j]? = some v → Value.okWide Try.prog W .any base t v := hval0
  have hW' := hW
  obtain ⟨p, q, hA0, hV, rfl, hfz, hnd⟩ := hW
  have hA : DataW.TrodAll enc Try.prog W 0 (fun _ => true) true Try.f8.params.toList args.toList ds p := hA0
  rw [Try.params8] at hA hval hsz
  obtain ⟨v0, vs0, d0, ds0, p0, q0, hargs, rfl, rfl, h0, r0⟩ := trodAll_cons hA
  obtain ⟨v1, vs1, d1, ds1, p1, q1, rfl, rfl, rfl, h1, r1⟩ := trodAll_cons r0
  obtain ⟨v2, vs2, d2, ds2, p2, q2, rfl, rfl, rfl, h2, r2⟩ := trodAll_cons r1
  obtain ⟨rfl, rfl, rfl⟩ := trodAll_nil r2
  obtain rfl : args = #[v0, v1, v2] := by cases args; simp_all
  obtain ⟨rfl, rfl⟩ := trodVars_none hV
  obtain ⟨cs0, rfl, hz0⟩ := okWide_struct Try.underlying29 (hval 0 29 v0 rfl rfl)
  have k0 := h0
  have lt0 : ∀ x ∈ p0, x.block < W.heap.size := by obtain ⟨m, hm⟩ := k0; exact DataW.trod_lt m _ _ _ hm
  obtain ⟨fu0, hf0⟩ := h0
  obtain ⟨csl0⟩ := cs0
  replace hf0 : DataW.trod enc Try.prog W 0 (fun _ => true) true fu0 29 csl0 = some (d0, p0) := hf0
  obtain ⟨hl0, hg0⟩ := struct_cells Try.underlying29 (by kernel_rfl) (by kernel_rfl) hf0
  replace hl0 : csl0.length = 5 := hl0
  obtain ⟨u0_0, u0_1, u0_2, u0_3, u0_4, rfl⟩ := list_5 hl0
  obtain ⟨g0_0, n0_0, y0_0, e0_0, gg0_0⟩ := hg0 0 _ rfl
  obtain rfl : u0_0 = g0_0 := by simpa using e0_0
  obtain ⟨a0_0, K0_0, w0_0⟩ := ((opens_int Try.underlying3 (by kernel_rfl))).2 H enc W n0_0 [u0_0] y0_0 gg0_0
  obtain rfl : u0_0 = .int .i64 a0_0 := by simpa using (show [u0_0] = [.int .i64 a0_0] from K0_0)
  obtain ⟨g0_1, n0_1, y0_1, e0_1, gg0_1⟩ := hg0 1 _ rfl
  obtain rfl : u0_1 = g0_1 := by simpa using e0_1
  obtain ⟨a0_1, K0_1, w0_1⟩ := ((opens_int Try.underlying3 (by kernel_rfl))).2 H enc W n0_1 [u0_1] y0_1 gg0_1
  obtain rfl : u0_1 = .int .i64 a0_1 := by simpa using (show [u0_1] = [.int .i64 a0_1] from K0_1)
  obtain ⟨g0_2, n0_2, y0_2, e0_2, gg0_2⟩ := hg0 2 _ rfl
  obtain rfl : u0_2 = g0_2 := by simpa using e0_2
  obtain ⟨a0_2, K0_2, w0_2⟩ := ((opens_int Try.underlying3 (by kernel_rfl))).2 H enc W n0_2 [u0_2] y0_2 gg0_2
  obtain rfl : u0_2 = .int .i64 a0_2 := by simpa using (show [u0_2] = [.int .i64 a0_2] from K0_2)
  obtain ⟨g0_3, n0_3, y0_3, e0_3, gg0_3⟩ := hg0 3 _ rfl
  obtain rfl : u0_3 = g0_3 := by simpa using e0_3
  obtain ⟨a0_3, K0_3, w0_3⟩ := ((opens_int Try.underlying3 (by kernel_rfl))).2 H enc W n0_3 [u0_3] y0_3 gg0_3
  obtain rfl : u0_3 = .int .i64 a0_3 := by simpa using (show [u0_3] = [.int .i64 a0_3] from K0_3)
  obtain ⟨g0_4, n0_4, y0_4, e0_4, gg0_4⟩ := hg0 4 _ rfl
  obtain rfl : u0_4 = g0_4 := by simpa using e0_4
  obtain ⟨l0_4, K0_4, w0_4⟩ := ((opens_slice Try.underlying27 (by kernel_rfl) (opens_int Try.underlying5 (by kernel_rfl)))).2 H enc W n0_4 [u0_4] y0_4 gg0_4
  obtain ⟨A0_4, c0_4, ec0_4, hc0_4, hr0_4⟩ := K0_4
  obtain rfl : u0_4 = .slice A0_4 l0_4.length c0_4 := by simpa using ec0_4
  obtain ⟨a1, rfl, rfl, rfl, w1⟩ := open_int Try.underlying3 (hval 1 3 v1 rfl rfl) h1
  obtain ⟨a2, rfl, rfl, rfl, w2⟩ := open_int Try.underlying3 (hval 2 3 v2 rfl rfl) h2
  have hP := Pure.CellLimits a0_0 a0_1 a0_2 a0_3 l0_4 a1 a2 w0_0 w0_1 w0_2 w0_3 w0_4.1 w0_4.2 w1 w2
  obtain ⟨kk, hP⟩ := hP
  clear hA0 hval0 hsz0 hsz
  refine (overdublaw15_CellLimits.calls (k := kk) (a0_0 := a0_0) (a0_1 := a0_1) (a0_2 := a0_2) (a0_3 := a0_3) (A0_4 := A0_4) (c0_4 := c0_4) (l0_4 := l0_4) (a1 := a1) (a2 := a2) (hr0_4 := hr0_4) (hc0_4 := hc0_4) (r := true) (w := W) (h := hP) (hr_ := ⟨rfl⟩)).mono fun e W' hpost => ?_
  obtain ⟨he, bel0⟩ := hpost
  have bel : Below W.heap.size W W' := bel0
  subst he
  exact ⟨_, rfl, _, _, _, [], _, [], hW', trodAll_mk1 (shut_bool Try.underlying4 _), (trodAll_cons_mk (Below.trod laidOut (by kernel_rfl) (of_decide_eq_true (by kernel_rfl)) k0 bel lt0) (trodAll_cons_mk (shut_int Try.underlying3 w1) (trodAll_cons_mk (shut_int Try.underlying3 w2) trodAll_mk0))), rfl, bel.frame _, fun h => by cases h⟩
theorem over : Rows.cellLimitsRow.holds Try.pinned (OpenSpec.ofChange Rows.cellLimitsSpec) :=
  OpenClaim.holds_of_wide 8 Try.f8 rfl rfl rfl rfl rfl rfl rfl ⟨rfl, rfl, rfl, rfl, rfl⟩ rfl rfl rfl rfl rfl (by kernel_rfl) Try.func8 (by kernel_rfl)
    (of_decide_eq_true (by kernel_rfl)) (by unfold Func.isWrapper; first | (rw [if_pos (by decide +kernel)]; kernel_rfl) | (rw [if_neg (by decide +kernel)]; exact ⟨rfl, rfl⟩))
    (fun os started H enc _ => lifted os started H enc)
theorem proved : Rows.CellLimitsSaid := over
#print axioms proved
end Go.Proofs.Ytaiaackeljlbfaa.cellLimits
namespace Go.Proofs.Ytaiaackeljlbfaa
/-- The row, under a short name, for the claim. -/
theorem cellLimits_holds : Rows.CellLimitsSaid := cellLimits.proved
end Go.Proofs.Ytaiaackeljlbfaa
