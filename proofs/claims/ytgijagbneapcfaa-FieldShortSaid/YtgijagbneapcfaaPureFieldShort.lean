/- Where a number more than there is is asked for, or a width that may not be, there is none at all, for every input. -/
import Derived.Test.YtgijagbneapcfaaField
namespace Go.Proofs.Ytgijagbneapcfaa.Pure
open Go.RowKit Go.Proofs.Ytgijagbneapcfaa.QA Go.Proofs.YtgijagbneapcfaaW.PrintWords Go.Proofs.YtgijagbneapcfaaW.PrintLast Go.Proofs.YtgijagbneapcfaaW.PrintMore Go.Proofs.Ytgijagbneapcfaa.Mth

theorem short_j3 {b : List Int} (hb : Byt b) {bad : Int} (ws : List Int) (hw : ws.length ≤ 8) :
    Ev (fun k => overdublaw04_FieldShort.j3 k b bad ws (decide (0 ≤ bad ∧ bad ≤ 7))) true := by
  refine Ev.step (fun k => by simp only [overdublaw04_FieldShort.j3]; rfl) ?_
  have hlt : ws.length < 17592186044416 := by omega
  have h8 : 8 ≤ 281474976710656 := by omega
  simp only [if_pos hlt, if_pos h8, decide_eq_true_eq]
  by_cases hc : 0 ≤ bad ∧ bad ≤ 7
  · simp only [if_pos hc]
    have e : takeR b (ws ++ [8]) = ([], false) := by unfold takeR; rw [takeL_bad ws b 8 (by omega)]
    have h := take_ev hb (ws ++ [8]) (by simp; omega)
    rw [e] at h
    refine Ev.bind h (Ev.bind (get_long (by simp)) ?_)
    simp only [if_neg (show ¬ (false = true) by decide)]
    exact Ev.bind wakes04 (ev_some _)
  · simp only [if_neg hc]
    have e : takeR b (ws ++ [bad]) = ([], false) := by unfold takeR; rw [takeL_bad ws b bad (by omega)]
    have h := take_ev hb (ws ++ [bad]) (by simp; omega)
    rw [e] at h
    refine Ev.bind h (Ev.bind (get_long (by simp)) ?_)
    simp only [if_neg (show ¬ (false = true) by decide)]
    exact Ev.bind wakes04 (ev_some _)

theorem short_j2 {b : List Int} (hb : Byt b) {bad : Int} (ws : List Int) (hw : ws.length ≤ 8) :
    Ev (fun k => overdublaw04_FieldShort.j2 k b bad ws false) true := by
  refine Ev.step (fun k => by simp only [overdublaw04_FieldShort.j2]; rfl) ?_
  simp only [if_neg (show ¬ (false = true) by decide)]
  have h := short_j3 hb (bad := bad) ws hw
  by_cases hc : bad ≥ 0
  · simp only [if_pos hc]
    rwa [show decide (0 ≤ bad ∧ bad ≤ 7) = decide (bad ≤ 7) by simp; omega] at h
  · simp only [if_neg hc]
    rwa [show decide (0 ≤ bad ∧ bad ≤ 7) = false by simp; omega] at h

theorem short_j1 {b : List Int} (hb : Byt b) {bad : Int} (ws : List Int) (hw : ws.length ≤ 8) (ho : okW ws) :
    Ev (fun k => overdublaw04_FieldShort.j1 k b bad ws ws.sum) true := by
  refine Ev.step (fun k => by simp only [overdublaw04_FieldShort.j1]; rfl) ?_
  refine Ev.bind (take_ev hb ws (by omega)) ?_
  have hi := takeL_none_iff ws b ho
  have h2 := short_j2 hb (bad := bad) ws hw
  unfold takeR
  cases hq : takeL b ws with
  | none =>
    have hs := hi.1 hq
    have e : decide (ws.sum ≤ (b.length : Int)) = false := by simp; omega
    have e2 : decide ((([] : List Int).length : Int) > 0) = false := by decide
    simp only [e, bne_self_eq_false, if_neg (show ¬ (false = true) by decide), e2]
    exact h2
  | some l =>
    have hs : ¬ (b.length : Int) < ws.sum := fun h => by rw [hi.2 h] at hq; cases hq
    have e : decide (ws.sum ≤ (b.length : Int)) = true := by simp; omega
    have hl := takeL_some ws b l hq
    simp only [e, bne_self_eq_false, if_neg (show ¬ (false = true) by decide), if_true, if_pos (show (l.length : Int) = (ws.length : Int) by omega)]
    exact h2

theorem short_l0 {b : List Int} (hb : Byt b) (l1 : List Int) (hw1 : ∀ x ∈ l1, (Lit.int .i64 x).wf = true) {bad : Int} (d : Nat) : ∀ (i : Nat) (ws : List Int), i + d = 8 → ws.length = i → okW ws → ws.sum ≤ 7 * i →
    Ev (fun k => overdublaw04_FieldShort.l0 k b l1 bad ws ws.sum (i : Int)) true := by
  induction d with
  | zero =>
    intro i ws h hl ho hs
    refine Ev.step (f := fun k => overdublaw04_FieldShort.j1 k b bad ws ws.sum) (fun k => ?_) (short_j1 hb ws (by omega) ho)
    simp only [overdublaw04_FieldShort.l0]
    rw [if_neg (show ¬ (i : Int) < 8 by omega), ite_self]
  | succ d ih =>
    intro i ws h hl ho hs
    by_cases hi : (i : Int) < (l1.length : Int)
    · have hi' : i < l1.length := by omega
      have hx : rd l1 (i : Int) = l1[i] := by unfold rd; simp [List.getD_eq_getElem?_getD, List.getElem?_eq_getElem hi']
      have hx1 := i64_wf (hw1 _ (List.getElem_mem hi'))
      have hw := within_spec (v := l1[i]) (n := 8) (by omega) (by omega) hx1.1 hx1.2
      have h0 := Int.emod_nonneg l1[i] (show (8 : Int) ≠ 0 by omega)
      have h1 := Int.emod_lt_of_pos l1[i] (show (0 : Int) < 8 by omega)
      have hs0 := sum_nonneg ws ho
      have ih := ih (i + 1) (ws ++ [l1[i] % 8]) (by omega) (by simp; omega) (by
        intro x hx
        rcases List.mem_append.1 hx with hx | hx
        · exact ho x hx
        · simp at hx; subst hx; omega) (by rw [List.sum_append]; simp; omega)
      refine Ev.step (fun k => ?_) ih
      simp only [overdublaw04_FieldShort.l0]
      rw [if_pos hi, if_pos (show (i : Int) < 8 by omega), if_pos (show 0 ≤ (i : Int) by omega), hx, hw, Option.bind_some, if_pos (by omega), w64 (by omega) (by omega), w64 (by omega) (by omega), List.sum_append]
      simp
    · refine Ev.step (f := fun k => overdublaw04_FieldShort.j1 k b bad ws ws.sum) (fun k => ?_) (short_j1 hb ws (by omega) ho)
      simp only [overdublaw04_FieldShort.l0]
      rw [if_neg hi]

theorem FieldShort : overdublaw04_FieldShort.Pure := by
  intro l0 l1 a2 _ _ hw _ _ hw1 _
  refine Ev.rounds ?_
  unfold overdublaw04_FieldShort.f
  rw [mn_eq]
  simp only [if_pos (show 0 ≤ min (l0.length : Int) 40 by omega), if_pos (show min (l0.length : Int) 40 ≤ l0.length by omega)]
  exact short_l0 (byt_take (byt_wf hw) _) l1 hw1 8 0 [] rfl rfl (fun x h => by simp at h) (by simp)

end Go.Proofs.Ytgijagbneapcfaa.Pure
