/- Unlike records that may be have unlike bytes, like ones one, for every two records. -/
import Derived.Test.YtalhmpmdfjofbaaQAx0
import Derived.Test.YtalhmpmdfjofbaaQAx7
import Derived.Test.YtalhmpmdfjofbaaRight
namespace Go.Proofs.Ytalhmpmdfjofbaa.Pure
open Go.RowKit Go.Proofs.Ytalhmpmdfjofbaa.QA Go.Proofs.YtalhmpmdfjofbaaW.PrintWords Go.Proofs.YtalhmpmdfjofbaaW.PrintLast Go.Proofs.YtalhmpmdfjofbaaW.PrintMore Go.Proofs.Ytalhmpmdfjofbaa.Mth

theorem packR_inj {a0 a1 a2 a3 b0 b1 b2 b3 : Int} {x y : List S39} (hx : validR a0 a1 a2 a3 x = true) (hy : validR b0 b1 b2 b3 y = true) (h : packR a0 a1 a2 a3 x = packR b0 b1 b2 b3 y) : a0 = b0 ∧ a1 = b1 ∧ a2 = b2 ∧ a3 = b3 ∧ x = y := by
  obtain ⟨k0, k1, t0, t1, f0, f1, g0, g1, ho, hl⟩ := validR_facts hx
  obtain ⟨k0', k1', t0', t1', f0', f1', g0', g1', ho', hl'⟩ := validR_facts hy
  obtain ⟨e1, e2⟩ := head_packR (kind := a0) (track := a1) (a := a2) (b := a3) (l := x) (by omega) (by omega) (by omega) (by omega) (by omega)
  obtain ⟨e1', e2'⟩ := head_packR (kind := b0) (track := b1) (a := b2) (b := b3) (l := y) (by omega) (by omega) (by omega) (by omega) (by omega)
  rw [h, e1'] at e1
  rw [h, e2'] at e2
  have q := (Prod.mk.inj e1).1
  simp only [List.cons.injEq, and_true] at q
  obtain ⟨q0, q1, q2, q3, q4⟩ := q
  have ex := takeE_exsB x ho
  have ey := takeE_exsB y ho'
  rw [← e2, show x.length = y.length by omega, ey] at ex
  exact ⟨q0.symm, q1.symm, q2.symm, q3.symm, ex.symm⟩

theorem unlike_j0 {a0 a1 a2 a3 b0 b1 b2 b3 : Int} {x y : List S39} (hx : validR a0 a1 a2 a3 x = true) (hy : validR b0 b1 b2 b3 y = true) (hl : x.length ≤ 20) :
    Ev (fun k => overdublaw16_RecordUnlike.j0 k a0 a1 a2 a3 x b0 b1 b2 b3 y) true := by
  refine Ev.step (fun k => by simp only [overdublaw16_RecordUnlike.j0]; rfl) ?_
  refine Ev.bind (pack_yes hx) (Ev.bind (pack_yes hy) ?_)
  simp only [if_true]
  refine Ev.bind (same_byte_ev _ _ (by rw [packR_length]; omega)) ?_
  obtain ⟨r, hr, hi⟩ := same_rec_ev a0 a1 a2 a3 b0 b1 b2 b3 x y (by omega)
  refine Ev.bind hr ?_
  have e : (decide (packR a0 a1 a2 a3 x = packR b0 b1 b2 b3 y) == r) = true := by
    rw [beq_iff_eq, Bool.eq_iff_iff, decide_eq_true_eq, hi]
    constructor
    · exact packR_inj hx hy
    · rintro ⟨rfl, rfl, rfl, rfl, rfl⟩; rfl
  simp only [e, if_true]
  exact Ev.bind wakes16 (ev_some _)

theorem RecordUnlike : ∀ (a0_0 : Int) (a0_1 : Int) (a0_2 : Int) (a0_3 : Int) (l0_4 : List (S39)) (a1_0 : Int) (a1_1 : Int) (a1_2 : Int) (a1_3 : Int) (l1_4 : List (S39)) (a2 : Bool), (Lit.int .i64 a0_0).wf = true → (Lit.int .i64 a0_1).wf = true → (Lit.int .i64 a0_2).wf = true → (Lit.int .i64 a0_3).wf = true → l0_4.length ≤ maxLen → (∀ e_ ∈ l0_4, Wf39 e_) → (Lit.int .i64 a1_0).wf = true → (Lit.int .i64 a1_1).wf = true → (Lit.int .i64 a1_2).wf = true → (Lit.int .i64 a1_3).wf = true → l1_4.length ≤ maxLen → (∀ e_ ∈ l1_4, Wf39 e_) → ∃ k, overdublaw16_RecordUnlike.f k a0_0 a0_1 a0_2 a0_3 l0_4 a1_0 a1_1 a1_2 a1_3 l1_4 a2 = some true := by
  intro a0_0 a0_1 a0_2 a0_3 l0 a1_0 a1_1 a1_2 a1_3 l1 tw h0 h1 h2 h3 hl hw g0 g1 g2 g3 ml mw
  refine Ev.rounds ?_
  obtain ⟨r0, r1, r2, r3, r4, hr, hv, hn⟩ := right_ev (i64_wf h0) (i64_wf h1) (i64_wf h2) (i64_wf h3) hl (fun e he => wf_num (hw e he))
  obtain ⟨s0, s1, s2, s3, s4, hs, hv', hn'⟩ := right_ev (i64_wf g0) (i64_wf g1) (i64_wf g2) (i64_wf g3) ml (fun e he => wf_num (mw e he))
  unfold overdublaw16_RecordUnlike.f
  refine Ev.bind hr (Ev.bind hs ?_)
  cases tw
  · simp only [if_neg (show ¬ (false = true) by decide)]
    exact unlike_j0 hv hv' hn
  · simp only [if_true]
    exact unlike_j0 hv hv hn

end Go.Proofs.Ytalhmpmdfjofbaa.Pure
