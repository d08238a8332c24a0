/- As many cells as the data ask, one at least; each is full, but the last one; too many are refused: for every number of bytes. -/
import Derived.Test.YtaiaackeljlbfaaQAx0
import Derived.Test.YtaiaackeljlbfaaQAx2
import Derived.Test.YtaiaackeljlbfaaCells
namespace Go.Proofs.Ytaiaackeljlbfaa.Pure
open Go.RowKit Go.Proofs.Ytaiaackeljlbfaa.QA Go.Proofs.YtaiaackeljlbfaaW.PrintWords Go.Proofs.YtaiaackeljlbfaaW.PrintLast Go.Proofs.YtaiaackeljlbfaaW.PrintMore Go.Proofs.Ytaiaackeljlbfaa.Mth

theorem sizes_l0 (n : Nat) (hn : n ≤ 7168) (d : Nat) : ∀ i : Nat, i + d = partsOf n →
    Ev (fun k => overdublaw15_CellSizes.l0 k (n : Int) (splitL 1 1 (partsOf n : Int) (List.replicate n 0) 0 (partsOf n)) (min (n : Int) (112 * i)) (partsOf n : Int) (i : Int)) true := by
  have hp : partsOf n ≤ 64 := by unfold partsOf; omega
  have hn' : n ≤ 112 * partsOf n := by unfold partsOf; omega
  have hq : partsOf n = 1 ∨ 112 * (partsOf n - 1) < n := by unfold partsOf; omega
  induction d with
  | zero =>
    intro i h
    refine Ev.step (fun k => by simp only [overdublaw15_CellSizes.l0]; rfl) ?_
    simp only [if_neg (show ¬ (i : Int) < (partsOf n : Int) by omega), if_pos (show 7169 ≤ 281474976710656 by omega)]
    refine Ev.bind (split_long 1 1 (data := List.replicate 7169 0) (by rw [List.length_replicate]; omega) (by rw [List.length_replicate]; omega)) ?_
    simp only [if_pos (show min (n : Int) (112 * (i : Int)) = (n : Int) by omega), if_true]
    exact Ev.bind wakes15 (ev_some _)
  | succ d ih =>
    intro i h
    have ih := ih (i + 1) (by omega)
    have r := splitL_rd 1 1 (partsOf n : Int) (data := List.replicate n 0) (show i < partsOf n by omega)
    have hl := splitL_length 1 1 (partsOf n : Int) (partsOf n) (List.replicate n 0) 0
    have hlen : (((List.replicate n (0 : Int)).drop (112 * i)).take 112).length = min 112 (n - 112 * i) := by simp
    refine Ev.step (fun k => by simp only [overdublaw15_CellSizes.l0]; rfl) ?_
    rw [r, hl]
    simp only [hlen, if_pos (show (i : Int) < (partsOf n : Int) by omega), if_pos (show (0 : Int) ≤ i by omega), if_true]
    rw [w64 (x := (i : Int) + 1) (by omega) (by omega), w64 (by omega) (by omega)]
    have e : min (n : Int) (112 * (i : Int)) + ((min 112 (n - 112 * i) : Nat) : Int) = min (n : Int) (112 * ((i + 1 : Nat) : Int)) := by omega
    by_cases hc : (i : Int) + 1 < (partsOf n : Int)
    · simp only [if_pos hc, if_pos (show ((min 112 (n - 112 * i) : Nat) : Int) = 112 by rcases hq with hq | hq <;> omega)]
      rw [e]; exact ih
    · simp only [if_neg hc]
      rw [e]; exact ih

theorem CellSizes : overdublaw15_CellSizes.Pure := by
  intro a0 h0
  have i0 := i64_wf h0
  refine Ev.rounds ?_
  unfold overdublaw15_CellSizes.f
  refine ev_bind_now (within_spec (by omega) (by omega) i0.1 i0.2) ?_
  have hn := Int.emod_nonneg a0 (show (7169 : Int) ≠ 0 by omega)
  have hn1 := Int.emod_lt_of_pos a0 (show (0 : Int) < 7169 by omega)
  obtain ⟨n, hq⟩ := Int.eq_ofNat_of_zero_le hn
  rw [hq]
  simp only [if_pos (show (0 : Int) ≤ n by omega), Int.toNat_natCast, if_pos (show n ≤ 281474976710656 by omega)]
  have hs := split_ev 1 1 (data := List.replicate n 0) (by simp; omega)
  simp only [List.length_replicate] at hs
  refine Ev.bind hs ?_
  rw [splitL_length]
  simp only [if_true]
  have e : mx (wrap64 (Int.tdiv (wrap64 ((wrap64 ((n : Int) + 112)) - 1)) 112)) 1 = (partsOf n : Int) := by
    rw [mx_eq, w64 (x := (n : Int) + 112) (by omega) (by omega), w64 (x := (n : Int) + 112 - 1) (by omega) (by omega), Int.tdiv_eq_ediv_of_nonneg (by omega), w64 (by omega) (by omega)]
    unfold partsOf; omega
  rw [e, bne_self_eq_false]
  refine Ev.step (fun k => by simp only [overdublaw15_CellSizes.j0]; rfl) ?_
  rw [splitL_length]
  simp only [if_neg (show ¬ (false = true) by decide)]
  have h := sizes_l0 n (by omega) (partsOf n) 0 (by omega)
  rwa [show min (n : Int) (112 * ((0 : Nat) : Int)) = 0 by omega] at h

end Go.Proofs.Ytaiaackeljlbfaa.Pure
