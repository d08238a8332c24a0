/- Numbers of any width put as bytes, and bytes got as numbers, are as the reference's, for every input. -/
import Derived.Test.YtgijagbneapcfaaField
namespace Go.Proofs.Ytgijagbneapcfaa.Pure
open Go.RowKit Go.Proofs.Ytgijagbneapcfaa.QA Go.Proofs.YtgijagbneapcfaaW.PrintWords Go.Proofs.YtgijagbneapcfaaW.PrintLast Go.Proofs.Ytgijagbneapcfaa.Mth

theorem FieldPuts : overdublaw04_FieldPuts.Pure := by
  intro a0 a1 l2 h0 h1 hl hs hw
  have i0 := i64_wf h0
  refine Ev.rounds ?_
  unfold overdublaw04_FieldPuts.f
  rw [mn_eq]
  simp only [if_pos (show 0 ≤ min (l2.length : Int) 12 by omega), if_pos (show min (l2.length : Int) 12 ≤ l2.length by omega), Option.bind_some]
  have hb : Byt (l2.take (min (l2.length : Int) 12).toNat) := byt_take (byt_wf hw) _
  generalize l2.take (min (l2.length : Int) 12).toNat = y at *
  have hp := put_ev i0.1 i0.2 a1
  have hq := rput_ev i0.1 i0.2 a1
  have hs' := same_byte_ev (leB (max 0 (min a1 8)).toNat (max 0 a0)) (leB (max 0 (min a1 8)).toNat (max 0 a0)) (by rw [leB_length]; omega)
  by_cases h7 : y.length ≤ 7
  · refine Ev.bind (get_ev hb h7) (Ev.bind (rget_ev hb h7) (Ev.bind hp (Ev.bind hq (Ev.bind hs' ?_))))
    simp only [decide_true, if_true, beq_self_eq_true]
    exact Ev.bind wakes04 (ev_some _)
  · refine Ev.bind (get_long (by omega)) (Ev.bind (rget_long (by omega)) (Ev.bind hp (Ev.bind hq (Ev.bind hs' ?_))))
    simp only [decide_true, if_true, beq_self_eq_true]
    exact Ev.bind wakes04 (ev_some _)

end Go.Proofs.Ytgijagbneapcfaa.Pure
