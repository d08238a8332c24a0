/- Unlike cells that may be have unlike sectors, like ones one, for every two cells. -/
import Derived.Test.YtaiaackeljlbfaaQBx0
import Derived.Test.YtaiaackeljlbfaaQBx4
import Derived.Test.YtaiaackeljlbfaaPack
namespace Go.Proofs.Ytaiaackeljlbfaa.Pure
open Go.RowKit Go.Proofs.Ytaiaackeljlbfaa.QB Go.Proofs.YtaiaackeljlbfaaW.PrintWords Go.Proofs.YtaiaackeljlbfaaW.PrintLast Go.Proofs.YtaiaackeljlbfaaW.PrintMore Go.Proofs.Ytaiaackeljlbfaa.Mth Go.Proofs.Ytaiaackeljlbfaa.QC

theorem sealB_length (l : List Int) : (sealB l).length = 128 := by unfold sealB; rw [List.length_append, padB_length, sumB_length]
theorem unlike15_j0 {a0 a1 a2 a3 b0 b1 b2 b3 : Int} {x y : List Int} (hx : mayC a0 a1 a2 a3 x) (hy : mayC b0 b1 b2 b3 y) :
    Ev (fun k => overdublaw15_CellUnlike.j0 k a0 a1 a2 a3 x b0 b1 b2 b3 y) true := by
  have hl := hx.2.2.2.2
  refine Ev.step (fun k => by simp only [overdublaw15_CellUnlike.j0]; rfl) ?_
  refine Ev.bind (pack_yes hx) (Ev.bind (pack_yes hy) ?_)
  simp only [if_true]
  refine Ev.bind (same_byte_ev _ _ (by rw [sealB_length]; omega)) ?_
  obtain ⟨r, hr, hi⟩ := cell_dec a0 a1 a2 a3 b0 b1 b2 b3 x y (by omega)
  refine Ev.bind hr ?_
  have e : (decide (sealB (headC a0 a1 a2 a3 x) = sealB (headC b0 b1 b2 b3 y)) == r) = true := by
    rw [beq_iff_eq, Bool.eq_iff_iff, decide_eq_true_eq, hi]
    constructor
    · exact headC_inj hx hy
    · rintro ⟨rfl, rfl, rfl, rfl, rfl⟩; rfl
  simp only [e, if_true]
  exact Ev.bind wakes15 (ev_some _)

theorem CellUnlike : ∀ (a0_0 : Int) (a0_1 : Int) (a0_2 : Int) (a0_3 : Int) (l0_4 : List Int) (a1_0 : Int) (a1_1 : Int) (a1_2 : Int) (a1_3 : Int) (l1_4 : List Int) (a2 : Bool), (Lit.int .i64 a0_0).wf = true → (Lit.int .i64 a0_1).wf = true → (Lit.int .i64 a0_2).wf = true → (Lit.int .i64 a0_3).wf = true → l0_4.length ≤ maxLen → (∀ e_ ∈ l0_4, (Lit.int .u8 e_).wf = true) → (Lit.int .i64 a1_0).wf = true → (Lit.int .i64 a1_1).wf = true → (Lit.int .i64 a1_2).wf = true → (Lit.int .i64 a1_3).wf = true → l1_4.length ≤ maxLen → (∀ e_ ∈ l1_4, (Lit.int .u8 e_).wf = true) → ∃ k, overdublaw15_CellUnlike.f k a0_0 a0_1 a0_2 a0_3 l0_4 a1_0 a1_1 a1_2 a1_3 l1_4 a2 = some true := by
  intro a0_0 a0_1 a0_2 a0_3 l0 a1_0 a1_1 a1_2 a1_3 l1 tw h0 h1 h2 h3 hl hw g0 g1 g2 g3 ml mw
  refine Ev.rounds ?_
  obtain ⟨r0, r1, r2, r3, r4, hr, hv, _⟩ := small_ev (l := l0) (i64_wf h0) (i64_wf h1) (i64_wf h2) (i64_wf h3)
  obtain ⟨s0, s1, s2, s3, s4, hs, hv', _⟩ := small_ev (l := l1) (i64_wf g0) (i64_wf g1) (i64_wf g2) (i64_wf g3)
  unfold overdublaw15_CellUnlike.f
  refine ev_bind_now hr (ev_bind_now hs ?_)
  cases tw
  · simp only [if_neg (show ¬ (false = true) by decide)]
    exact unlike15_j0 hv hv'
  · simp only [if_true]
    exact unlike15_j0 hv hv

end Go.Proofs.Ytaiaackeljlbfaa.Pure
