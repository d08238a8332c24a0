/- The lowest byte stands first, a width more is a byte more, and what does not fit is cut off, for every number and width. -/
import Derived.Test.YtgijagbneapcfaaField
namespace Go.Proofs.Ytgijagbneapcfaa.Pure
open Go.RowKit Go.Proofs.Ytgijagbneapcfaa.QA Go.Proofs.YtgijagbneapcfaaW.PrintWords Go.Proofs.YtgijagbneapcfaaW.PrintLast Go.Proofs.YtgijagbneapcfaaW.PrintMore Go.Proofs.Ytgijagbneapcfaa.Mth

theorem FieldBytes : overdublaw04_FieldBytes.Pure := by
  intro a0 a1 h0 h1
  have i0 := i64_wf h0
  have i1 := i64_wf h1
  refine Ev.rounds ?_
  unfold overdublaw04_FieldBytes.f
  refine ev_bind_now (within_spec (by omega) (by omega) i0.1 i0.2) (ev_bind_now (within_spec (by omega) (by omega) i1.1 i1.2) ?_)
  have hn := Int.emod_nonneg a0 (show (72057594037927936 : Int) ≠ 0 by omega)
  have hn1 := Int.emod_lt_of_pos a0 (show (0 : Int) < 72057594037927936 by omega)
  have hw := Int.emod_nonneg a1 (show (7 : Int) ≠ 0 by omega)
  have hw1 := Int.emod_lt_of_pos a1 (show (0 : Int) < 7 by omega)
  generalize a0 % 72057594037927936 = n at *
  generalize a1 % 7 = w' at *
  obtain ⟨w, rfl⟩ := Int.eq_ofNat_of_zero_le hw
  clear hw h0 h1 i0 i1
  have hw6 : w ≤ 6 := by omega
  rw [w64 (x := (w : Int) + 1) (by omega) (by omega), w64 (x := 8 * (w : Int)) (by omega) (by omega), wraps_u64 (8 * (w : Int)) (by omega) (by omega)]
  have p1 := put_ev' hn (by omega) (w := (w : Int)) (by omega) (by omega)
  have p2 := put_ev' hn (by omega) (w := (w : Int) + 1) (by omega) (by omega)
  rw [Int.toNat_natCast] at p1
  rw [show ((w : Int) + 1).toNat = w + 1 by omega] at p2
  refine Ev.bind p1 (Ev.bind p2 ?_)
  have l1 := leB_length w n
  have l2 := leB_length (w + 1) n
  have e1 : (leB (w + 1) n).take w = leB w n := leB_take w (w + 1) n (by omega)
  simp only [Int.toNat_natCast, e1]
  have hc1 : ((leB w n).length : Int) = w := by omega
  have hc2 : ((leB (w + 1) n).length : Int) = (w : Int) + 1 := by omega
  simp only [if_pos hc1, if_pos hc2, if_pos (show (0 : Int) ≤ w by omega), if_pos (show (w : Int) ≤ ((leB (w + 1) n).length : Int) by omega)]
  refine Ev.bind (same_byte_ev _ _ (by omega)) ?_
  simp only [decide_true, if_true, if_pos (show (w : Int) < ((leB (w + 1) n).length : Int) by omega), if_pos (show (0 : Int) ≤ 8 * (w : Int) by omega)]
  have e2 : rd (leB (w + 1) n) (w : Int) = n / 256 ^ w % 256 := by unfold rd; rw [Int.toNat_natCast, leB_get _ _ _ (by omega)]
  have hp := p256_pos w
  have hd0 : 0 ≤ n / 256 ^ w := Int.ediv_nonneg hn (by omega)
  have hd1 : n / 256 ^ w ≤ n := Int.ediv_le_self _ hn
  rw [e2, w64 (by omega) (by omega), shr_of w (by omega), and255 hd0 (by omega)]
  simp only [bne_self_eq_false]
  refine Ev.step (fun k => by simp only [overdublaw04_FieldBytes.j0]; rfl) ?_
  simp only [if_neg (show ¬ (false = true) by decide)]
  refine Ev.bind (get_ev (leB_byt w n) (by omega)) ?_
  rw [leV_leB w n hn]
  simp only [if_true]
  rw [w64 (x := 8 * (w : Int)) (by omega) (by omega), wraps_u64 (8 * (w : Int)) (by omega) (by omega), shl_one w (by omega)]
  have hm : (256 : Int) ^ w ≤ 256 ^ 6 := p256_mono hw6
  rw [w64 (x := 256 ^ w - 1) (by omega) (by omega), andw hn (by omega) w (by omega)]
  simp only [if_pos (show (0 : Int) ≤ 8 * (w : Int) by omega), if_true]
  refine Ev.bind (put_ev (n := n) (by omega) (by omega) (-1)) ?_
  rw [leB_length]
  simp only [if_pos (show (((max 0 (min (-1) 8) : Int)).toNat : Int) = 0 by decide)]
  refine Ev.bind (put_ev (n := n) (by omega) (by omega) 20) ?_
  rw [leB_length]
  simp only [if_pos (show (((max 0 (min 20 8) : Int)).toNat : Int) = 8 by decide)]
  exact Ev.bind wakes04 (ev_some _)

end Go.Proofs.Ytgijagbneapcfaa.Pure
