/- What the printed Row and Right of the records' laws come to: records that may be. -/
import Derived.Test.YtalhmpmdfjofbaaQAx0
import Derived.Test.YtalhmpmdfjofbaaQAx2
import Derived.Test.YtalhmpmdfjofbaaRecord
import Derived.Test.YtalhmpmdfjofbaaQAxWf
namespace Go.Proofs.Ytalhmpmdfjofbaa.QA
open Go.RowKit Go.Proofs.YtalhmpmdfjofbaaW.PrintWords Go.Proofs.YtalhmpmdfjofbaaW.PrintLast Go.Proofs.YtalhmpmdfjofbaaW.PrintMore Go.Proofs.Ytalhmpmdfjofbaa.Mth
set_option linter.unusedVariables false
set_option linter.unusedSimpArgs false

theorem wf_num {e : S39} (h : Wf39 e) : numE e := ⟨i64_wf h.1, i64_wf h.2.1, i64_wf h.2.2.1, i64_wf h.2.2.2.1, i64_wf h.2.2.2.2⟩
theorem within_rng {v n : Int} (hn : 1 ≤ n) (hn1 : n ≤ 9223372036854775807) (hv : -9223372036854775808 ≤ v ∧ v ≤ 9223372036854775807) :
    ∃ r, overdubkeep_Within.f v n = some r ∧ 0 ≤ r ∧ r < n ∧ r = v % n :=
  ⟨v % n, within_spec hn hn1 hv.1 hv.2, Int.emod_nonneg v (by omega), Int.emod_lt_of_pos v (by omega), rfl⟩
theorem vRow_snoc : ∀ (l : List S39) (n m : Int) (x : S39), vRow n l = true → m = n + (l.map (·.f4)).sum → oneE x = true → x.f0 = m → x.f4 ≤ 1000 - m → vRow n (l ++ [x]) = true
  | [], n, m, x, _, hm, h1, h2, h3 => by
    simp at hm
    subst hm
    simp [vRow, h1, h2, h3]
  | e :: l, n, m, x, h, hm, h1, h2, h3 => by
    simp only [vRow, Bool.and_eq_true, decide_eq_true_eq] at h
    simp only [List.cons_append, vRow, Bool.and_eq_true, decide_eq_true_eq]
    refine ⟨h.1, h.2.1, h.2.2.1, vRow_snoc l _ m x h.2.2.2 ?_ h1 h2 h3⟩
    simp at hm
    omega

theorem row_l0 (l : List S39) (hw : ∀ e ∈ l, numE e) (most : Int) (hl : l.length ≤ 9223372036854775807) (d : Nat) : ∀ (i : Nat) (out : List S39) (n : Int), i + d = l.length → out.length ≤ i → (out.length : Int) ≤ n → n ≤ 1000 → vRow 0 out = true → n = (out.map (·.f4)).sum → (i : Int) ≤ max 0 most →
    ∃ r, Ev (fun k => overdublaw16_Row.l0 k l most out n (i : Int)) r ∧ vRow 0 r = true ∧ (r.length : Int) ≤ max 0 most := by
  have stop : ∀ (i : Nat) (out : List S39) (n : Int), Ev (fun k => overdublaw16_Row.j1 k l most out n (i : Int) false) out := by
    intro i out n
    refine Ev.step (fun k => by simp only [overdublaw16_Row.j1]; rfl) ?_
    simp only [if_neg (show ¬ (false = true) by decide)]
    exact ev_some _
  induction d with
  | zero =>
    intro i out n h ho hn hn1 hv hs him
    refine ⟨out, Ev.step (f := fun k => overdublaw16_Row.j1 k l most out n (i : Int) false) (fun k => ?_) (stop i out n), hv, by omega⟩
    simp only [overdublaw16_Row.l0]
    rw [if_neg (by omega)]
  | succ d ih =>
    intro i out n h ho hn hn1 hv hs him
    by_cases hm : (i : Int) < most
    · have hil : i < l.length := by omega
      have hx := hw _ (List.getElem_mem hil)
      have e := rdT_get hil
      obtain ⟨x0, x1, x2, x3, x4⟩ := hx
      obtain ⟨c, hc, hc0, hc1, _⟩ := within_rng (n := 64) (by omega) (by omega) x2
      obtain ⟨s, hs', hs0, hs1, _⟩ := within_rng (n := 1 + c) (by omega) (by omega) x3
      obtain ⟨t, ht, ht0, ht1, _⟩ := within_rng (n := 1 + c - s) (by omega) (by omega) x4
      obtain ⟨q, hq, hq0, hq1, _⟩ := within_rng (n := 4095) (by omega) (by omega) x1
      by_cases hlim : 1 + t > 1000 - n
      · refine ⟨out, Ev.step (f := fun k => overdublaw16_Row.j1 k l most out n (i : Int) true) (fun k => ?_) (Ev.step (fun k => by simp only [overdublaw16_Row.j1]; rfl) ?_), hv, by omega⟩
        · simp only [overdublaw16_Row.l0]
          rw [if_pos (by omega), decide_eq_true hm]
        · rw [e, w64 (x := 1000 - n) (by omega) (by omega)]
          simp only [if_true, if_pos (show (0 : Int) ≤ i by omega), if_pos (show (i : Int) < (l.length : Int) by omega)]
          refine ev_bind_now hc ?_
          rw [w64 (x := 1 + c) (by omega) (by omega)]
          refine ev_bind_now hs' ?_
          rw [w64 (x := 1 + c - s) (by omega) (by omega)]
          refine ev_bind_now ht ?_
          rw [w64 (x := 1 + t) (by omega) (by omega)]
          simp only [if_pos hlim]
          exact ev_some _
      · have hsn : vRow 0 (out ++ [⟨n, 1 + q, 1 + c, s, 1 + t⟩]) = true := vRow_snoc out 0 n _ hv (by omega) (by simp only [oneE, decide_eq_true_eq]; omega) rfl (by show 1 + t ≤ 1000 - n; omega)
        obtain ⟨r, hr, hrv, hrl⟩ := ih (i + 1) (out ++ [⟨n, 1 + q, 1 + c, s, 1 + t⟩]) (n + (1 + t)) (by omega) (by simp; omega) (by simp; omega) (by omega) hsn (by simp; omega) (by omega)
        refine ⟨r, Ev.step (f := fun k => overdublaw16_Row.j1 k l most out n (i : Int) true) (fun k => ?_) (Ev.step (fun k => by simp only [overdublaw16_Row.j1]; rfl) ?_), hrv, hrl⟩
        · simp only [overdublaw16_Row.l0]
          rw [if_pos (by omega), decide_eq_true hm]
        · rw [e, w64 (x := 1000 - n) (by omega) (by omega)]
          simp only [if_true, if_pos (show (0 : Int) ≤ i by omega), if_pos (show (i : Int) < (l.length : Int) by omega)]
          refine ev_bind_now hc ?_
          rw [w64 (x := 1 + c) (by omega) (by omega)]
          refine ev_bind_now hs' ?_
          rw [w64 (x := 1 + c - s) (by omega) (by omega)]
          refine ev_bind_now ht ?_
          rw [w64 (x := 1 + t) (by omega) (by omega)]
          simp only [if_neg hlim]
          refine ev_bind_now hq ?_
          rw [w64 (x := 1 + q) (by omega) (by omega), w64 (x := n + (1 + t)) (by omega) (by omega), w64 (x := (i : Int) + 1) (by omega) (by omega)]
          simp only [if_pos (show out.length < 3518437208883 by omega)]
          exact hr
    · refine ⟨out, Ev.step (f := fun k => overdublaw16_Row.j1 k l most out n (i : Int) false) (fun k => ?_) (stop i out n), hv, by omega⟩
      simp only [overdublaw16_Row.l0]
      rw [if_pos (by omega), decide_eq_false hm]
theorem row_ev {l : List S39} (hw : ∀ e ∈ l, numE e) {most : Int} (hl : l.length ≤ 9223372036854775807) : ∃ r, Ev (fun k => overdublaw16_Row.f k l most) r ∧ vRow 0 r = true ∧ (r.length : Int) ≤ max 0 most := by
  obtain ⟨r, h, hv, hr⟩ := row_l0 l hw most hl l.length 0 [] 0 (by omega) (by simp) (by simp) (by omega) rfl (by simp) (by omega)
  exact ⟨r, Ev.congr (fun k => by unfold overdublaw16_Row.f; rfl) h, hv, hr⟩

theorem right_ev {kind track a b : Int} {l : List S39} (hk : -9223372036854775808 ≤ kind ∧ kind ≤ 9223372036854775807) (ht : -9223372036854775808 ≤ track ∧ track ≤ 9223372036854775807) (ha : -9223372036854775808 ≤ a ∧ a ≤ 9223372036854775807) (hb : -9223372036854775808 ≤ b ∧ b ≤ 9223372036854775807)
    (hl : l.length ≤ maxLen) (hw : ∀ e ∈ l, numE e) :
    ∃ r0 r1 r2 r3 r4, Ev (fun k => overdublaw16_Right.f k kind track a b l) (r0, r1, r2, r3, r4) ∧ validR r0 r1 r2 r3 r4 = true ∧ r4.length ≤ 20 := by
  have hl' : l.length ≤ 9223372036854775807 := by
    have e : maxLen = 9223372036854775807 := by decide
    omega
  obtain ⟨c, hc, hc0, hc1, _⟩ := within_rng (n := 5) (by omega) (by omega) hk
  obtain ⟨q, hq, hq0, hq1, _⟩ := within_rng (n := 100) (by omega) (by omega) ht
  obtain ⟨z, hz, hz0, hz1, _⟩ := within_rng (n := 1001) (by omega) (by omega) hb
  obtain ⟨y, hy, hy0, hy1, _⟩ := within_rng (n := z + 1) (by omega) (by omega) ha
  obtain ⟨row, hrow, hv, hlen⟩ := row_ev (most := 20) hw hl'
  have top : ∀ r : Int × Int × Int × Int × List S39, Ev (fun k => overdublaw16_Right.j0 k (1 + c) (1 + c) (decide (1 + c = 1 ∨ 1 + c = 2)) kind track a b l) r → Ev (fun k => overdublaw16_Right.f k kind track a b l) r := by
    intro r h
    unfold overdublaw16_Right.f
    refine ev_bind_now hc ?_
    rw [w64 (x := 1 + c) (by omega) (by omega)]
    by_cases e1 : 1 + c = 1
    · simp only [if_pos e1]
      rwa [show decide (1 + c = 1 ∨ 1 + c = 2) = (1 + c == 1) by rw [show (1 + c == 1) = decide (1 + c = 1) from rfl, decide_eq_decide]; omega] at h
    · simp only [if_neg e1]
      rwa [show decide (1 + c = 1 ∨ 1 + c = 2) = (1 + c == 2) by rw [show (1 + c == 2) = decide (1 + c = 2) from rfl, decide_eq_decide]; omega] at h
  by_cases h12 : 1 + c = 1 ∨ 1 + c = 2
  · refine ⟨1 + c, q, 0, 0, [], top _ (Ev.step (fun k => by simp only [overdublaw16_Right.j0]; rfl) ?_), ?_, by simp⟩
    · rw [decide_eq_true h12]
      simp only [if_true]
      exact ev_bind_now hq (ev_some _)
    · unfold validR noneR
      rw [if_pos h12]
      simp; omega
  · by_cases h3 : 1 + c = 3
    · refine ⟨1 + c, q, y, z, row, top _ (Ev.step (fun k => by simp only [overdublaw16_Right.j0]; rfl) ?_), ?_, by omega⟩
      · rw [decide_eq_false h12]
        simp only [if_neg (show ¬ (false = true) by decide), if_pos h3]
        refine ev_bind_now hz (ev_bind_now hq ?_)
        rw [w64 (x := z + 1) (by omega) (by omega)]
        exact ev_bind_now hy (Ev.bind hrow (ev_some _))
      · unfold validR
        rw [if_neg h12, if_neg (by omega), if_pos h3, hv]
        simp; omega
    · refine ⟨1 + c, 0, 0, 0, [], top _ (Ev.step (fun k => by simp only [overdublaw16_Right.j0]; rfl) ?_), ?_, by simp⟩
      · rw [decide_eq_false h12]
        simp only [if_neg (show ¬ (false = true) by decide), if_neg h3]
        exact ev_some _
      · unfold validR noneR
        rw [if_neg h12, if_pos (by omega)]
        simp

end Go.Proofs.Ytalhmpmdfjofbaa.QA
