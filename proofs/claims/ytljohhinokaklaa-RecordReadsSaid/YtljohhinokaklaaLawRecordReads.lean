/- Any bytes as a record, or that they are none; extents' bytes, and bytes as extents: the row. -/
import Derived.Test.YtljohhinokaklaaRows
import Derived.Test.YtljohhinokaklaaX3
import Derived.Test.YtljohhinokaklaaFl
set_option linter.unusedVariables false
set_option linter.unusedSimpArgs false
namespace Go.Proofs.Ytljohhinokaklaa.Am
open Go Go.RowKit Go.Proofs
theorem wf_Bs {d : D} (h : wfS wfB d) : ∃ l : List Int, d = .list (l.map mB) ∧ Byt l ∧ l.length ≤ 9223372036854775807 := by
  obtain ⟨ds, rfl, hl, hf⟩ := h
  have key : ∀ ds : List D, (∀ x ∈ ds, wfB x) → ∃ l : List Int, ds = l.map mB ∧ Byt l := by
    intro ds
    induction ds with
    | nil => exact fun _ => ⟨[], rfl, byt_nil⟩
    | cons a r ih =>
      intro h
      obtain ⟨n, rfl, h0, h1⟩ := h a (List.mem_cons_self ..)
      obtain ⟨l, rfl, hb⟩ := ih fun x hx => h x (List.mem_cons_of_mem _ hx)
      exact ⟨n :: l, rfl, byt_cons ⟨h0, h1⟩ hb⟩
  obtain ⟨l, rfl, hb⟩ := key ds hf
  exact ⟨l, rfl, hb, by simpa using hl⟩
theorem op5 : Op Try.prog 5 1 (fun d => wfB d ∧ d.cells = [d]) := (op_u8 Try.underlying5 (by kernel_rfl)).imp fun d h => ⟨h, by obtain ⟨n, rfl, _⟩ := h; rfl⟩
theorem opBs : Op Try.prog 22 1 (wfS wfB) := op_slice Try.underlying22 (by kernel_rfl) (op_u8 Try.underlying5 (by kernel_rfl))
theorem opvBs : OpV Try.prog 22 (wfS wfB) := opv_slice Try.underlying22 opBs
theorem opv5 : OpV Try.prog 5 wfB := opv_u8 Try.underlying5 (by kernel_rfl)
theorem opvL : OpV Try.prog 4 wfL := opv_bool Try.underlying4 (by kernel_rfl)
theorem opvEs : OpV Try.prog 23 (wfS wfX) := opv_slice Try.underlying23 op22'
theorem sp_RecordReads (x0 x1 x2 x3 x4 x5 x6 : D) (wf0 : wfS wfB x0) (wf1 : wfR x1) (wf2 : wfL x2) (wf3 : wfI x3) (wf4 : wfB x4) (wf5 : wfS wfX x5) (wf6 : wfI x6) : Sp_overdublaw16_RecordReads [x0, x1, x2, x3, x4, x5, x6] ⟨.d (.v (.bool true)), []⟩ := by
  obtain ⟨bl, rfl, hb, hbl⟩ := wf_Bs wf0
  obtain ⟨k, t, a, b, l, rfl, h1, h2, _⟩ := wf_R wf1
  obtain ⟨wh, rfl⟩ := wf2
  obtain ⟨at', rfl, _⟩ := wf3
  obtain ⟨c, rfl, _⟩ := wf4
  obtain ⟨es, rfl, h3, h4⟩ := wf_Xs wf5
  obtain ⟨n, rfl, _⟩ := wf6
  exact ⟨bl, k, t, a, b, l, wh, at', c, es, n, rfl, hb, hbl, h1, h2, h3, h4, rfl⟩
end Go.Proofs.Ytljohhinokaklaa.Am
namespace Go.Proofs.Ytljohhinokaklaa.recordReads
open Go Go.ChangeShapes Go.WideShapes Go.ChangeAt Go.RowKit Go.Proofs Go.Proofs.Ytljohhinokaklaa.Am
set_option linter.unusedVariables false
theorem own : ownKnob Try.prog.godebug = none := by kernel_rfl
theorem laidOut : laidOutB Try.prog = true := by kernel_rfl
set_option maxRecDepth 100000 in
theorem lifted (os : Os) (started : os.Started) (H : Type) (enc : TypeId × Value → H) :
    ReturnsInHanded {} Try.checked os 3 .any (Rows.recordReadsSpec.pre6 enc Try.prog Try.f3 Rows.recordReadsRow.domain false) (Rows.recordReadsSpec.post enc Try.prog Try.f3 false true false false) := by
  refine returnsInHanded_of_change_sized (C := Try.checked) own started (by kernel_rfl) Try.func3
    (ChangeSpec.witness6 (enc := enc) (C := Try.checked) false ⟨#[], #[.slice none 0 0, .agg #[.int .i64 0, .int .i64 0, .int .i64 0, .int .i64 0, .slice none 0 0], .bool false, .int .i64 0, .int .u8 0, .slice none 0 0, .int .i64 0], []⟩ 8 (by kernel_rfl) (by kernel_rfl) (by kernel_rfl) (by kernel_rfl)) ?_
  intro W base args ds gs before hval0 hW hcnd hsz0 _
  have hval : ∀ (j : Nat) t v, Try.f3.params[j]? = some t → args[j]? = some v → Value.okWide Try.prog W .any base t v := hval0
  have hW' := hW
  obtain ⟨p, q, hA0, hV, rfl, hfz, hnd⟩ := hW
  have hA : DataW.TrodAll enc Try.prog W 0 (fun _ => true) true Try.f3.params.toList args.toList ds p := hA0
  rw [Try.params3] at hA hval
  obtain ⟨v0, vs0, d0, ds0, p0, q0, hargs, rfl, rfl, h0, r0⟩ := trodAll_cons hA
  obtain ⟨v1, vs1, d1, ds1, p1, q1, rfl, rfl, rfl, h1, r1⟩ := trodAll_cons r0
  obtain ⟨v2, vs2, d2, ds2, p2, q2, rfl, rfl, rfl, h2, r2⟩ := trodAll_cons r1
  obtain ⟨v3, vs3, d3, ds3, p3, q3, rfl, rfl, rfl, h3, r3⟩ := trodAll_cons r2
  obtain ⟨v4, vs4, d4, ds4, p4, q4, rfl, rfl, rfl, h4, r4⟩ := trodAll_cons r3
  obtain ⟨v5, vs5, d5, ds5, p5, q5, rfl, rfl, rfl, h5, r5⟩ := trodAll_cons r4
  obtain ⟨v6, vs6, d6, ds6, p6, q6, rfl, rfl, rfl, h6, r6⟩ := trodAll_cons r5
  obtain ⟨rfl, rfl, rfl⟩ := trodAll_nil r6
  obtain rfl : args = #[v0, v1, v2, v3, v4, v5, v6] := by cases args; simp_all
  obtain ⟨rfl, rfl⟩ := trodVars_none hV
  have lt0 : ∀ x ∈ p0, x.block < W.heap.size := by obtain ⟨m, hm⟩ := h0; exact DataW.trod_lt m _ _ _ hm
  obtain ⟨x0, rd0, wf0⟩ := opvBs H enc W _ _ v0 d0 p0 (hval 0 22 v0 rfl rfl) h0
  have lt1 : ∀ x ∈ p1, x.block < W.heap.size := by obtain ⟨m, hm⟩ := h1; exact DataW.trod_lt m _ _ _ hm
  obtain ⟨x1, rd1, wf1⟩ := opv24 H enc W _ _ v1 d1 p1 (hval 1 25 v1 rfl rfl) h1
  have lt2 : ∀ x ∈ p2, x.block < W.heap.size := by obtain ⟨m, hm⟩ := h2; exact DataW.trod_lt m _ _ _ hm
  obtain ⟨x2, rd2, wf2⟩ := opvL H enc W _ _ v2 d2 p2 (hval 2 4 v2 rfl rfl) h2
  have lt3 : ∀ x ∈ p3, x.block < W.heap.size := by obtain ⟨m, hm⟩ := h3; exact DataW.trod_lt m _ _ _ hm
  obtain ⟨x3, rd3, wf3⟩ := opv3 H enc W _ _ v3 d3 p3 (hval 3 3 v3 rfl rfl) h3
  have lt4 : ∀ x ∈ p4, x.block < W.heap.size := by obtain ⟨m, hm⟩ := h4; exact DataW.trod_lt m _ _ _ hm
  obtain ⟨x4, rd4, wf4⟩ := opv5 H enc W _ _ v4 d4 p4 (hval 4 5 v4 rfl rfl) h4
  have lt5 : ∀ x ∈ p5, x.block < W.heap.size := by obtain ⟨m, hm⟩ := h5; exact DataW.trod_lt m _ _ _ hm
  obtain ⟨x5, rd5, wf5⟩ := opvEs H enc W _ _ v5 d5 p5 (hval 5 23 v5 rfl rfl) h5
  have lt6 : ∀ x ∈ p6, x.block < W.heap.size := by obtain ⟨m, hm⟩ := h6; exact DataW.trod_lt m _ _ _ hm
  obtain ⟨x6, rd6, wf6⟩ := opv3 H enc W _ _ v6 d6 p6 (hval 6 3 v6 rfl rfl) h6
  have hP := sp_RecordReads x0 x1 x2 x3 x4 x5 x6 wf0 wf1 wf2 wf3 wf4 wf5 wf6
  refine (law_calls good_overdublaw16_RecordReads hP (args := #[v0, v1, v2, v3, v4, v5, v6]) (w := W) rfl ?_).mono fun e W' hpost => ?_
  · intro i d y h1 h2
    match i, h1, h2 with
    | 0, h1, h2 => cases h1; cases h2; exact rd0
    | 1, h1, h2 => cases h1; cases h2; exact rd1
    | 2, h1, h2 => cases h1; cases h2; exact rd2
    | 3, h1, h2 => cases h1; cases h2; exact rd3
    | 4, h1, h2 => cases h1; cases h2; exact rd4
    | 5, h1, h2 => cases h1; cases h2; exact rd5
    | 6, h1, h2 => cases h1; cases h2; exact rd6
    | k + 7, h1, h2 => simp at h1
  · obtain ⟨rfl, bel⟩ := hpost
    exact ⟨_, rfl, _, _, _, [], _, [], hW', trodAll_mk1 (shut_bool Try.underlying4 _), (trodAll_cons_mk (Below.trod laidOut (by kernel_rfl) (of_decide_eq_true (by kernel_rfl)) h0 bel lt0) (trodAll_cons_mk (Below.trod laidOut (by kernel_rfl) (of_decide_eq_true (by kernel_rfl)) h1 bel lt1) (trodAll_cons_mk (Below.trod laidOut (by kernel_rfl) (of_decide_eq_true (by kernel_rfl)) h2 bel lt2) (trodAll_cons_mk (Below.trod laidOut (by kernel_rfl) (of_decide_eq_true (by kernel_rfl)) h3 bel lt3) (trodAll_cons_mk (Below.trod laidOut (by kernel_rfl) (of_decide_eq_true (by kernel_rfl)) h4 bel lt4) (trodAll_cons_mk (Below.trod laidOut (by kernel_rfl) (of_decide_eq_true (by kernel_rfl)) h5 bel lt5) (trodAll_cons_mk (Below.trod laidOut (by kernel_rfl) (of_decide_eq_true (by kernel_rfl)) h6 bel lt6) trodAll_mk0))))))), rfl, bel.frame _, fun h => by cases h⟩
theorem over : Rows.recordReadsRow.holds Try.pinned (OpenSpec.ofChange Rows.recordReadsSpec) :=
  OpenClaim.holds_of_wide 3 Try.f3 rfl rfl rfl rfl rfl rfl rfl ⟨rfl, rfl, rfl, rfl, rfl⟩ rfl rfl rfl rfl rfl (by kernel_rfl) Try.func3 (by kernel_rfl)
    (of_decide_eq_true (by kernel_rfl)) (by unfold Func.isWrapper; first | (rw [if_pos (by decide +kernel)]; kernel_rfl) | (rw [if_neg (by decide +kernel)]; exact ⟨rfl, rfl⟩))
    (fun os started H enc _ => lifted os started H enc)
end Go.Proofs.Ytljohhinokaklaa.recordReads
namespace Go.Proofs.Ytljohhinokaklaa
/-- The row, under a short name, for the claim. -/
theorem recordReads_holds : Rows.RecordReadsSaid := recordReads.over
#print axioms recordReads_holds
end Go.Proofs.Ytljohhinokaklaa
