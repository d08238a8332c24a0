/- What fits is read as it was, one number behind the other, and no number more, for every input. -/
import Derived.Test.YtgijagbneapcfaaField
namespace Go.Proofs.Ytgijagbneapcfaa.Pure
open Go.RowKit Go.Proofs.Ytgijagbneapcfaa.QA Go.Proofs.YtgijagbneapcfaaW.PrintWords Go.Proofs.YtgijagbneapcfaaW.PrintLast Go.Proofs.YtgijagbneapcfaaW.PrintMore Go.Proofs.Ytgijagbneapcfaa.Mth

theorem back_end {b ws want : List Int} (hb : Byt b) (hw : ws.length ≤ 10) (hn : want.length ≤ 10) (h : TellsW b ws want) (x0 x1 : List Int) (i : Int) :
    Ev (fun k => overdublaw04_FieldBack.j1 k x0 x1 b ws want i false) true := by
  refine Ev.step (fun k => by simp only [overdublaw04_FieldBack.j1]; rfl) ?_
  simp only [if_neg (show ¬ (false = true) by decide), if_pos (show ws.length < 17592186044416 by omega)]
  have e1 : takeR b ws = (want, true) := by
    have := h [] []
    simp only [List.append_nil, takeL, Option.map_some] at this
    unfold takeR; rw [this]
  have e2 : takeR b (ws ++ [1]) = ([], false) := by
    have := h [] [1]
    simp only [List.append_nil] at this
    unfold takeR; rw [this]; simp [takeL]
  have t1 := take_ev hb ws (by omega)
  have t2 := take_ev hb (ws ++ [1]) (by simp; omega)
  rw [e1] at t1
  rw [e2] at t2
  refine Ev.bind t1 (Ev.bind t2 ?_)
  simp only [if_true]
  refine Ev.bind (same_int_ev want want (by omega)) ?_
  simp only [decide_true, if_true, if_neg (show ¬ (false = true) by decide)]
  exact Ev.bind wakes04 (ev_some _)

theorem back_l0 (l0 l1 : List Int) (hw0 : ∀ x ∈ l0, (Lit.int .i64 x).wf = true) (hw1 : ∀ x ∈ l1, (Lit.int .i64 x).wf = true) (d : Nat) : ∀ (i : Nat) (b ws want : List Int), i + d = 10 → ws.length ≤ i → want.length ≤ i → Byt b → b.length ≤ 7 * i → TellsW b ws want →
    Ev (fun k => overdublaw04_FieldBack.l0 k l0 l1 b ws want (i : Int)) true := by
  induction d with
  | zero =>
    intro i b ws want h hl hn hb hbl ht
    refine Ev.step (f := fun k => overdublaw04_FieldBack.j1 k l0 l1 b ws want (i : Int) false) (fun k => ?_) (back_end hb (by omega) (by omega) ht _ _ _)
    simp only [overdublaw04_FieldBack.l0]
    rw [show decide ((i : Int) < 10) = false by simp; omega, ite_self, ite_self]
  | succ d ih =>
    intro i b ws want h hl hn hb hbl ht
    by_cases hi : (i : Int) < (l0.length : Int) ∧ (i : Int) < (l1.length : Int)
    · obtain ⟨hi0, hi1⟩ := hi
      have hx1 : rd l1 (i : Int) = l1[i]'(by omega) := by unfold rd; simp [List.getD_eq_getElem?_getD, List.getElem?_eq_getElem (show i < l1.length by omega)]
      have hx0 : rd l0 (i : Int) = l0[i]'(by omega) := by unfold rd; simp [List.getD_eq_getElem?_getD, List.getElem?_eq_getElem (show i < l0.length by omega)]
      have r1 := i64_wf (hw1 _ (List.getElem_mem (show i < l1.length by omega)))
      have r0 := i64_wf (hw0 _ (List.getElem_mem (show i < l0.length by omega)))
      have w1 := within_spec (n := 7) (by omega) (by omega) r1.1 r1.2
      rw [← hx1] at w1 r1
      rw [← hx0] at r0
      have h0 := Int.emod_nonneg (rd l1 (i : Int)) (show (7 : Int) ≠ 0 by omega)
      have h1 := Int.emod_lt_of_pos (rd l1 (i : Int)) (show (0 : Int) < 7 by omega)
      obtain ⟨w, hwq⟩ := Int.eq_ofNat_of_zero_le (show 0 ≤ 1 + rd l1 (i : Int) % 7 by omega)
      have hw7 : w ≤ 7 := by omega
      have hp := p256_pos w
      have hp7 : (256 : Int) ^ w ≤ 256 ^ 7 := p256_mono hw7
      have w0 := within_spec (v := rd l0 (i : Int)) (n := 256 ^ w) (by omega) (by omega) r0.1 r0.2
      have n0 := Int.emod_nonneg (rd l0 (i : Int)) (show (256 : Int) ^ w ≠ 0 by omega)
      have n1 := Int.emod_lt_of_pos (rd l0 (i : Int)) hp
      generalize hn' : rd l0 (i : Int) % 256 ^ w = n at *
      have hput := put_ev' n0 (by omega) (w := (w : Int)) (by omega) (by omega)
      rw [Int.toNat_natCast] at hput
      have hj := join_ev [b, leB w n] (by simp) (by simp [leB_length]; omega)
      rw [show ([b, leB w n] : List (List Int)).flatten = b ++ leB w n by simp] at hj
      have ih := ih (i + 1) (b ++ leB w n) (ws ++ [(w : Int)]) (want ++ [n]) (by omega) (by simp; omega) (by simp; omega) (byt_append hb (leB_byt w n)) (by rw [List.length_append, leB_length]; omega) (tellsW_snoc ht hw7 n0 n1)
      refine Ev.step (f := fun k => overdublaw04_FieldBack.j1 k l0 l1 b ws want (i : Int) true) (fun k => ?_) (Ev.step (fun k => by simp only [overdublaw04_FieldBack.j1]; rfl) ?_)
      · simp only [overdublaw04_FieldBack.l0]
        rw [if_pos hi0, if_pos hi1, show decide ((i : Int) < 10) = true by simp; omega]
      · simp only [if_true, if_pos (show 0 ≤ (i : Int) by omega), if_pos hi1]
        refine ev_bind_now w1 ?_
        rw [w64 (x := 1 + rd l1 (i : Int) % 7) (by omega) (by omega), hwq, w64 (x := 8 * ((w : Nat) : Int)) (by omega) (by omega), wraps_u64 (8 * (w : Int)) (by omega) (by omega), shl_one w hw7]
        simp only [if_pos hi0, if_pos (show 0 ≤ 8 * (w : Int) by omega)]
        refine ev_bind_now w0 (Ev.bind hput (Ev.bind hj ?_))
        simp only [if_pos (show ws.length < 17592186044416 by omega), if_pos (show want.length < 17592186044416 by omega)]
        rw [w64 (x := (i : Int) + 1) (by omega) (by omega)]
        exact ih
    · refine Ev.step (f := fun k => overdublaw04_FieldBack.j1 k l0 l1 b ws want (i : Int) false) (fun k => ?_) (back_end hb (by omega) (by omega) ht _ _ _)
      simp only [overdublaw04_FieldBack.l0]
      by_cases h0 : (i : Int) < (l0.length : Int)
      · rw [if_pos h0, if_neg (by omega)]
      · rw [if_neg h0]

theorem FieldBack : overdublaw04_FieldBack.Pure := by
  intro l0 l1 _ _ hw0 _ _ hw1
  refine Ev.rounds ?_
  unfold overdublaw04_FieldBack.f
  exact back_l0 l0 l1 hw0 hw1 10 0 [] [] [] rfl (by simp) (by simp) byt_nil (by simp) tellsW_nil

end Go.Proofs.Ytgijagbneapcfaa.Pure
