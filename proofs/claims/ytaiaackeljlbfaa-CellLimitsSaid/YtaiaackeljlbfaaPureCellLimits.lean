/- Which cells may not be, for every cell and every fault. -/
import Derived.Test.YtaiaackeljlbfaaQBx0
import Derived.Test.YtaiaackeljlbfaaQBx1
import Derived.Test.YtaiaackeljlbfaaQBx5
import Derived.Test.YtaiaackeljlbfaaPack
namespace Go.Proofs.Ytaiaackeljlbfaa.Pure
open Go.RowKit Go.Proofs.Ytaiaackeljlbfaa.QB Go.Proofs.YtaiaackeljlbfaaW.PrintWords Go.Proofs.YtaiaackeljlbfaaW.PrintLast Go.Proofs.YtaiaackeljlbfaaW.PrintMore Go.Proofs.Ytaiaackeljlbfaa.Mth Go.Proofs.Ytaiaackeljlbfaa.QC

theorem limits15_end {g : Nat → Option (List Int × Bool)} (h : Ev g ([], false)) :
    Ev (fun k => (g k).bind fun b => (if b.2 = true then (some false) else (if (b.1.length : Int) = 0 then ((overdublaw15_wakes.f k).bind fun t => (some t)) else (some false)))) true := by
  refine Ev.bind h ?_
  simp only [if_neg (show ¬ (false = true) by decide), List.length_nil, if_pos (show ((0 : Nat) : Int) = 0 by rfl)]
  exact Ev.bind wakes15 (ev_some _)

theorem CellLimits : ∀ (a0_0 : Int) (a0_1 : Int) (a0_2 : Int) (a0_3 : Int) (l0_4 : List Int) (a1 : Int) (a2 : Int), (Lit.int .i64 a0_0).wf = true → (Lit.int .i64 a0_1).wf = true → (Lit.int .i64 a0_2).wf = true → (Lit.int .i64 a0_3).wf = true → l0_4.length ≤ maxLen → (∀ e_ ∈ l0_4, (Lit.int .u8 e_).wf = true) → (Lit.int .i64 a1).wf = true → (Lit.int .i64 a2).wf = true → ∃ k, overdublaw15_CellLimits.f k a0_0 a0_1 a0_2 a0_3 l0_4 a1 a2 = some true := by
  intro a0_0 a0_1 a0_2 a0_3 l0 wh by_ h0 h1 h2 h3 hl hw g0 g1
  refine Ev.rounds ?_
  have i0 := i64_wf g0
  have i1 := i64_wf g1
  obtain ⟨r0, r1, r2, r3, r4, hr, hv, n0, n1, n3, _⟩ := small_ev (l := l0) (i64_wf h0) (i64_wf h1) (i64_wf h2) (i64_wf h3)
  have hm := hv
  obtain ⟨p0, p1, p2, p3, pl⟩ := hm
  unfold overdublaw15_CellLimits.f
  refine ev_bind_now hr (ev_bind_now (within_spec (by omega) (by omega) i1.1 i1.2) (Ev.bind (pack_yes hv) ?_))
  have m0 := Int.emod_nonneg by_ (show (50 : Int) ≠ 0 by omega)
  have m1 := Int.emod_lt_of_pos by_ (show (0 : Int) < 50 by omega)
  generalize by_ % 50 = m at *
  simp only [if_true]
  refine ev_bind_now (within_spec (by omega) (by omega) i0.1 i0.2) ?_
  generalize wh % 7 = z at *
  by_cases z0 : z = 0
  · simp only [if_pos z0]
    rw [w64 (x := -m) (by omega) (by omega)]
    exact limits15_end (pack_no (fun h => by have := h.1.1; omega))
  simp only [if_neg z0]
  by_cases z1 : z = 1
  · simp only [if_pos z1]
    rw [w64 (x := -m) (by omega) (by omega)]
    exact limits15_end (pack_no (fun h => by have := h.2.1.1; omega))
  simp only [if_neg z1]
  by_cases z2 : z = 2
  · simp only [if_pos z2]
    rw [w64 (x := r3 + m) (by omega) (by omega)]
    exact limits15_end (pack_no (fun h => by have := h.2.2.2.1.2; omega))
  simp only [if_neg z2]
  by_cases z3 : z = 3
  · simp only [if_pos z3]
    rw [w64 (x := -1 - m) (by omega) (by omega)]
    exact limits15_end (pack_no (fun h => by have := h.2.2.2.1.1; omega))
  simp only [if_neg z3]
  by_cases z4 : z = 4
  · simp only [if_pos z4]
    rw [w64 (x := 65 + m) (by omega) (by omega)]
    exact limits15_end (pack_no (fun h => by have := h.2.2.1.2; omega))
  simp only [if_neg z4]
  by_cases z5 : z = 5
  · simp only [if_pos z5]
    rw [w64 (x := 113 + m) (by omega) (by omega)]
    simp only [if_pos (show 0 ≤ 113 + m by omega), if_pos (show (113 + m).toNat ≤ 281474976710656 by omega)]
    exact limits15_end (pack_no (fun h => by have := h.2.2.2.2; rw [List.length_replicate] at this; omega))
  simp only [if_neg z5]
  rw [w64 (x := 2147483648 + m) (by omega) (by omega)]
  exact limits15_end (pack_no (fun h => by have := h.1.2; omega))

end Go.Proofs.Ytaiaackeljlbfaa.Pure
