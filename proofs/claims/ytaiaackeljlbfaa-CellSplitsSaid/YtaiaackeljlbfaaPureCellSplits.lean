/- Data are cut into the reference's cells, or there would be too many, for every input. -/
import Derived.Test.YtaiaackeljlbfaaQAx0
import Derived.Test.YtaiaackeljlbfaaQAx1
import Derived.Test.YtaiaackeljlbfaaQAx2
import Derived.Test.YtaiaackeljlbfaaQAx3
import Derived.Test.YtaiaackeljlbfaaQAx4
import Derived.Test.YtaiaackeljlbfaaCells
namespace Go.Proofs.Ytaiaackeljlbfaa.Pure
open Go.RowKit Go.Proofs.Ytaiaackeljlbfaa.QA Go.Proofs.YtaiaackeljlbfaaW.PrintWords Go.Proofs.YtaiaackeljlbfaaW.PrintLast Go.Proofs.YtaiaackeljlbfaaW.PrintMore Go.Proofs.Ytaiaackeljlbfaa.Mth

theorem splits_l0 (life num : Int) (data : List Int) (N : Nat) (hN : N ≤ 64) (d : Nat) : ∀ i : Nat, i + d = N →
    Ev (fun k => overdublaw15_CellSplits.l0 k (splitL life num (N : Int) data 0 N) (splitL life num (N : Int) data 0 N) (N : Int) (i : Int)) true := by
  induction d with
  | zero =>
    intro i h
    refine Ev.step (fun k => by simp only [overdublaw15_CellSplits.l0]; rfl) ?_
    simp only [if_neg (show ¬ (i : Int) < (N : Int) by omega)]
    exact Ev.bind wakes15 (ev_some _)
  | succ d ih =>
    intro i h
    have ih := ih (i + 1) (by omega)
    have r := splitL_rd life num (N : Int) (data := data) (show i < N by omega)
    have hl := splitL_length life num (N : Int) N data 0
    refine Ev.step (fun k => by simp only [overdublaw15_CellSplits.l0]; rfl) ?_
    rw [r, hl]
    simp only [if_pos (show (i : Int) < (N : Int) by omega), if_pos (show (0 : Int) ≤ i by omega)]
    refine Ev.bind (cell_same life num (i : Int) (N : Int) _ (by simp; omega)) ?_
    rw [w64 (x := (i : Int) + 1) (by omega) (by omega)]
    simp only [if_true]
    exact ih

theorem cutcopy_spec (l : List Int) (n : Int) (hn : 0 ≤ n) (hl : l.length ≤ 140737488351232) : overdubkeep_CutCopy_byte.f l n = some (l.take (min (l.length : Int) n).toNat) := by
  unfold overdubkeep_CutCopy_byte.f overdubkeep_Copy_byte.f
  rw [mn_eq, if_pos (by omega), if_pos (by omega)]
  have h : ([] : List Int).length + (l.take (min (l.length : Int) n).toNat).length < 140737488355328 := by simp; omega
  rw [if_pos h, Option.bind_some, List.nil_append]

theorem splits_tail (a0 a1 : Int) {data : List Int} (hd : data.length ≤ 7268) : Ev (fun k => ((cells_Split.f k a0 a1 data).bind fun bt179 => ((overdubref14_Split.f k a0 a1 data).bind fun bt183 => (if bt183.2 = true then (if bt179.2 = 0 then (overdublaw15_CellSplits.j0 k bt179.1 bt183.1 ((bt179.1.length : Int) != (bt183.1.length : Int))) else (overdublaw15_CellSplits.j0 k bt179.1 bt183.1 true)) else (if bt179.2 = 4 then (if (bt179.1.length : Int) = 0 then ((overdublaw15_wakes.f k).bind fun t187 => (some t187)) else (some false)) else (some false)))))) true := by
  by_cases hq : data.length ≤ 7168
  · refine Ev.bind (split_ev a0 a1 hq) (Ev.bind (rsplit_ev a0 a1 hq) ?_)
    rw [splitL_length, bne_self_eq_false]
    simp only [if_true]
    refine Ev.step (fun k => by simp only [overdublaw15_CellSplits.j0]; rfl) ?_
    rw [splitL_length]
    simp only [if_neg (show ¬ (false = true) by decide)]
    exact splits_l0 a0 a1 data (partsOf data.length) (by unfold partsOf; omega) (partsOf data.length) 0 (by omega)
  · refine Ev.bind (split_long a0 a1 (by omega) (by omega)) (Ev.bind (rsplit_long a0 a1 (by omega) (by omega)) ?_)
    simp only [if_neg (show ¬ (false = true) by decide), if_true, List.length_nil, if_pos (show ((0 : Nat) : Int) = 0 by rfl)]
    exact Ev.bind wakes15 (ev_some _)

theorem CellSplits : overdublaw15_CellSplits.Pure := by
  intro a0 a1 l2 a3 _ _ hl hs _ h3
  have i3 := i64_wf h3
  refine Ev.rounds ?_
  unfold overdublaw15_CellSplits.f
  have hc := cutcopy_spec l2 300 (by omega) (by omega)
  refine ev_bind_now hc (ev_bind_now (within_spec (by omega) (by omega) i3.1 i3.2) ?_)
  have hn := Int.emod_nonneg a3 (show (3 : Int) ≠ 0 by omega)
  have hn1 := Int.emod_lt_of_pos a3 (show (0 : Int) < 3 by omega)
  have ht : (l2.take (min (l2.length : Int) 300).toNat).length ≤ 300 := by simp; omega
  generalize l2.take (min (l2.length : Int) 300).toNat = b at *
  rw [w64 (x := a3 % 3 * 3484) (by omega) (by omega)]
  have h1 : b.length + (a3 % 3 * 3484).toNat < 140737488355328 := by omega
  simp only [if_pos (show 0 ≤ a3 % 3 * 3484 by omega), if_pos h1]
  refine ev_bind_now (a := b ++ List.replicate (a3 % 3 * 3484).toNat 0) rfl ?_
  have hd : (b ++ List.replicate (a3 % 3 * 3484).toNat 0).length ≤ 7268 := by simp; omega
  generalize b ++ List.replicate (a3 % 3 * 3484).toNat 0 = data at *
  exact splits_tail a0 a1 hd

end Go.Proofs.Ytaiaackeljlbfaa.Pure
