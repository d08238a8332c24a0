/- What cells.Pack comes to: a sector of a cell that may be; no two such cells have one sector. -/
import Derived.Test.YtaiaackeljlbfaaQBx0
import Derived.Test.YtaiaackeljlbfaaQBx1
import Derived.Test.YtaiaackeljlbfaaQBx3
import Derived.Test.YtaiaackeljlbfaaCells
import Derived.Test.YtaiaackeljlbfaaCrcSeal
namespace Go.Proofs.Ytaiaackeljlbfaa.QB
open Go.RowKit Go.Proofs.YtaiaackeljlbfaaW.PrintWords Go.Proofs.YtaiaackeljlbfaaW.PrintLast Go.Proofs.YtaiaackeljlbfaaW.PrintMore Go.Proofs.Ytaiaackeljlbfaa.Mth Go.Proofs.Ytaiaackeljlbfaa.QC
set_option linter.unusedVariables false
set_option linter.unusedSimpArgs false

def headC (life num part parts : Int) (data : List Int) : List Int := leB 4 life ++ (leB 4 num ++ (leB 1 part ++ (leB 1 parts ++ (leB 1 (data.length : Int) ++ ([206] ++ data)))))
def mayC (life num part parts : Int) (data : List Int) : Prop := (1 ≤ life ∧ life < 2147483648) ∧ (1 ≤ num ∧ num < 2147483648) ∧ (1 ≤ parts ∧ parts ≤ 64) ∧ (0 ≤ part ∧ part < parts) ∧ data.length ≤ 112
theorem headC_length (life num part parts : Int) (data : List Int) : (headC life num part parts data).length = 12 + data.length := by
  simp [headC, leB_length]; omega
theorem padB_eq {l : List Int} (h : l.length ≤ 124) : padB l = l ++ List.replicate (124 - l.length) 0 := by
  unfold padB
  rw [show min l.length 124 = l.length by omega, List.take_length, List.drop_replicate]
theorem sealB_inj {l m : List Int} (h : sealB l = sealB m) : padB l = padB m := by
  unfold sealB at h
  exact (List.append_inj h (by rw [padB_length, padB_length])).1
theorem headC_inj {a0 a1 a2 a3 b0 b1 b2 b3 : Int} {x y : List Int} (hx : mayC a0 a1 a2 a3 x) (hy : mayC b0 b1 b2 b3 y) (h : sealB (headC a0 a1 a2 a3 x) = sealB (headC b0 b1 b2 b3 y)) : a0 = b0 ∧ a1 = b1 ∧ a2 = b2 ∧ a3 = b3 ∧ x = y := by
  obtain ⟨p0, p1, p2, p3, pl⟩ := hx
  obtain ⟨q0, q1, q2, q3, ql⟩ := hy
  have h := sealB_inj h
  rw [padB_eq (by rw [headC_length]; omega), padB_eq (by rw [headC_length]; omega)] at h
  simp only [headC, List.append_assoc] at h
  obtain ⟨e0, h⟩ := List.append_inj h (by rw [leB_length, leB_length])
  obtain ⟨e1, h⟩ := List.append_inj h (by rw [leB_length, leB_length])
  obtain ⟨e2, h⟩ := List.append_inj h (by rw [leB_length, leB_length])
  obtain ⟨e3, h⟩ := List.append_inj h (by rw [leB_length, leB_length])
  obtain ⟨e4, h⟩ := List.append_inj h (by rw [leB_length, leB_length])
  obtain ⟨_, h⟩ := List.append_inj h rfl
  have el : (x.length : Int) = (y.length : Int) := leB_inj (by omega) (by simp; omega) (by omega) (by simp; omega) e4
  exact ⟨leB_inj (by omega) (by simp; omega) (by omega) (by simp; omega) e0, leB_inj (by omega) (by simp; omega) (by omega) (by simp; omega) e1, leB_inj (by omega) (by simp; omega) (by omega) (by simp; omega) e2, leB_inj (by omega) (by simp; omega) (by omega) (by simp; omega) e3, (List.append_inj h (by omega)).1⟩

theorem pack_bad (a b c d : Int) (l : List Int) : Ev (fun k => cells_Pack.j0 k true a b c d l) ([], false) := by
  refine Ev.step (fun k => by simp only [cells_Pack.j0]; rfl) ?_
  simp only [if_true]
  exact ev_some _
theorem pack_no {a b c d : Int} {l : List Int} (h : ¬ mayC a b c d l) : Ev (fun k => cells_Pack.f k a b c d l) ([], false) := by
  unfold mayC at h
  unfold cells_Pack.f
  by_cases c1 : a < 1
  · simp only [if_pos c1]; exact pack_bad ..
  simp only [if_neg c1]
  by_cases c2 : a ≥ 2147483648
  · simp only [if_pos c2]; exact pack_bad ..
  simp only [if_neg c2]
  by_cases c3 : b < 1
  · simp only [if_pos c3]; exact pack_bad ..
  simp only [if_neg c3]
  by_cases c4 : b ≥ 2147483648
  · simp only [if_pos c4]; exact pack_bad ..
  simp only [if_neg c4]
  by_cases c5 : d < 1
  · simp only [if_pos c5]; exact pack_bad ..
  simp only [if_neg c5]
  by_cases c6 : d > 64
  · simp only [if_pos c6]; exact pack_bad ..
  simp only [if_neg c6]
  by_cases c7 : c < 0
  · simp only [if_pos c7]; exact pack_bad ..
  simp only [if_neg c7]
  by_cases c8 : c ≥ d
  · simp only [if_pos c8]; exact pack_bad ..
  simp only [if_neg c8]
  rw [decide_eq_true (show (l.length : Int) > 112 by omega)]
  exact pack_bad ..
theorem pack_yes {a b c d : Int} {l : List Int} (h : mayC a b c d l) : Ev (fun k => cells_Pack.f k a b c d l) (sealB (headC a b c d l), true) := by
  obtain ⟨p0, p1, p2, p3, pl⟩ := h
  unfold cells_Pack.f
  simp only [if_neg (show ¬ a < 1 by omega), if_neg (show ¬ a ≥ 2147483648 by omega), if_neg (show ¬ b < 1 by omega), if_neg (show ¬ b ≥ 2147483648 by omega), if_neg (show ¬ d < 1 by omega), if_neg (show ¬ d > 64 by omega), if_neg (show ¬ c < 0 by omega), if_neg (show ¬ c ≥ d by omega), decide_eq_false (show ¬ (l.length : Int) > 112 by omega)]
  refine Ev.step (fun k => by simp only [cells_Pack.j0]; rfl) ?_
  simp only [if_neg (show ¬ (false = true) by decide)]
  refine Ev.bind (put_ev' (w := 4) (by omega) (by omega) (by omega) (by omega)) (Ev.bind (put_ev' (w := 4) (by omega) (by omega) (by omega) (by omega)) (Ev.bind (put_ev' (w := 1) (by omega) (by omega) (by omega) (by omega)) (Ev.bind (put_ev' (w := 1) (by omega) (by omega) (by omega) (by omega)) (Ev.bind (put_ev' (n := (l.length : Int)) (w := 1) (by omega) (by omega) (by omega) (by omega)) ?_))))
  refine Ev.bind (join_ev _ (by simp) (by simp [leB_length]; omega)) ?_
  have ej : ([leB (4 : Int).toNat a, leB (4 : Int).toNat b, leB (1 : Int).toNat c, leB (1 : Int).toNat d, leB (1 : Int).toNat (l.length : Int), [206], l] : List (List Int)).flatten = headC a b c d l := by
    simp [headC, show (4 : Int).toNat = 4 from rfl, show (1 : Int).toNat = 1 from rfl]
  rw [ej]
  exact ev_bind_now (a := sealB (headC a b c d l)) rfl (ev_some _)

theorem cell_dec (a b c d a' b' c' d' : Int) (l l' : List Int) (hl : l.length < 9223372036854775807) : ∃ r, Ev (fun n => overdubkeep_Cell.f n a b c d l a' b' c' d' l') r ∧ (r = true ↔ a = a' ∧ b = b' ∧ c = c' ∧ d = d' ∧ l = l') := by
  unfold overdubkeep_Cell.f
  by_cases c1 : a = a'
  · by_cases c2 : b = b'
    · by_cases c3 : c = c'
      · by_cases c4 : d = d'
        · refine ⟨decide (l = l'), ?_, by simp [c1, c2, c3, c4]⟩
          simp only [if_pos c1, if_pos c2, if_pos c3, if_pos c4]
          exact Ev.bind (same_byte_ev l l' hl) (ev_some _)
        · exact ⟨false, by simp only [if_pos c1, if_pos c2, if_pos c3, if_neg c4]; exact ev_some _, by simp [c4]⟩
      · exact ⟨false, by simp only [if_pos c1, if_pos c2, if_neg c3]; exact ev_some _, by simp [c3]⟩
    · exact ⟨false, by simp only [if_pos c1, if_neg c2]; exact ev_some _, by simp [c2]⟩
  · exact ⟨false, by simp only [if_neg c1]; exact ev_some _, by simp [c1]⟩

theorem small_ev {a b c d : Int} {l : List Int} (ha : -9223372036854775808 ≤ a ∧ a ≤ 9223372036854775807) (hb : -9223372036854775808 ≤ b ∧ b ≤ 9223372036854775807) (hc : -9223372036854775808 ≤ c ∧ c ≤ 9223372036854775807) (hd : -9223372036854775808 ≤ d ∧ d ≤ 9223372036854775807) :
    ∃ a' b' c' d' l', overdublaw15_small.f a b c d l = some (a', b', c', d', l') ∧ mayC a' b' c' d' l' ∧ a' ≤ 3 ∧ b' ≤ 4 ∧ d' ≤ 5 ∧ l' = l.take 112 := by
  have a0 := Int.emod_nonneg a (show (3 : Int) ≠ 0 by omega)
  have a1 := Int.emod_lt_of_pos a (show (0 : Int) < 3 by omega)
  have b0 := Int.emod_nonneg b (show (4 : Int) ≠ 0 by omega)
  have b1 := Int.emod_lt_of_pos b (show (0 : Int) < 4 by omega)
  have d0 := Int.emod_nonneg d (show (5 : Int) ≠ 0 by omega)
  have d1 := Int.emod_lt_of_pos d (show (0 : Int) < 5 by omega)
  have c0 := Int.emod_nonneg c (show 1 + d % 5 ≠ 0 by omega)
  have c1 := Int.emod_lt_of_pos c (show 0 < 1 + d % 5 by omega)
  have ht : l.take (min (l.length : Int) 112).toNat = l.take 112 := by
    by_cases hc : 112 ≤ l.length
    · rw [show (min (l.length : Int) 112).toNat = 112 by omega]
    · rw [show (min (l.length : Int) 112).toNat = l.length by omega, List.take_of_length_le (by omega), List.take_of_length_le (by omega)]
  refine ⟨1 + a % 3, 1 + b % 4, c % (1 + d % 5), 1 + d % 5, l.take 112, ?_, ⟨by omega, by omega, by omega, by omega, by simp; omega⟩, by omega, by omega, by omega, rfl⟩
  unfold overdublaw15_small.f
  rw [within_spec (by omega) (by omega) hd.1 hd.2, Option.bind_some, within_spec (by omega) (by omega) ha.1 ha.2, Option.bind_some, within_spec (by omega) (by omega) hb.1 hb.2, Option.bind_some, w64 (x := 1 + d % 5) (by omega) (by omega), within_spec (by omega) (by omega) hc.1 hc.2, Option.bind_some, mn_eq, if_pos (by omega), if_pos (by omega), ht, w64 (by omega) (by omega), w64 (by omega) (by omega)]

end Go.Proofs.Ytaiaackeljlbfaa.QB
