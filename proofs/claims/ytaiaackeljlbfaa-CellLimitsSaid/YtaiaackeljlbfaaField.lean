/- What the printed functions of numbers as bytes come to, told by plain lists. -/
import Derived.Test.YtaiaackeljlbfaaQBx0
import Derived.Test.YtaiaackeljlbfaaQBx1
import Derived.Test.YtaiaackeljlbfaaQBx2
import Derived.Test.YtaiaackeljlbfaaMath
namespace Go.Proofs.Ytaiaackeljlbfaa.QB
open Go.RowKit Go.Proofs.YtaiaackeljlbfaaW.PrintWords Go.Proofs.YtaiaackeljlbfaaW.PrintLast Go.Proofs.YtaiaackeljlbfaaW.PrintMore Go.Proofs.Ytaiaackeljlbfaa.Mth
set_option linter.unusedVariables false
set_option linter.unusedSimpArgs false

theorem mx_eq (a b : Int) : mx a b = max a b := by unfold mx; omega
theorem mn_eq (a b : Int) : mn a b = min a b := by unfold mn; omega
theorem ev_some {α : Type} (r : α) : Ev (fun _ => some r) r := ⟨0, fun _ _ => rfl⟩
theorem ev_now {α : Type} {g : Nat → Option α} {r : α} (h : ∀ k, g k = some r) : Ev g r := ⟨0, fun k _ => h k⟩
theorem ev_bind_now {α β : Type} {a : α} {g : Option α} {f : Nat → α → Option β} {r : β} (h : g = some a) (k : Ev (fun n => f n a) r) : Ev (fun n => g.bind (f n)) r := by
  subst h; exact k

theorem within_spec {v n : Int} (hn : 1 ≤ n) (hn1 : n ≤ 9223372036854775807) (hv : -9223372036854775808 ≤ v) (hv1 : v ≤ 9223372036854775807) :
    overdubkeep_Within.f v n = some (v % n) := by
  unfold overdubkeep_Within.f
  rw [if_neg (by omega), if_neg (by omega)]
  by_cases h : 0 ≤ v
  · rw [Int.tmod_eq_emod_of_nonneg h, if_neg (by have := Int.emod_nonneg v (show n ≠ 0 by omega); omega)]
  · have e : Int.tmod v n = -((-v) % n) := by
      rw [← Int.tmod_eq_emod_of_nonneg (show 0 ≤ -v by omega), Int.neg_tmod]; simp
    have p := Int.emod_nonneg (-v) (show n ≠ 0 by omega)
    have q := Int.emod_lt_of_pos (-v) (show 0 < n by omega)
    by_cases z : (-v) % n = 0
    · rw [e, if_neg (by omega), z]
      have : n ∣ v := by
        have := Int.dvd_of_emod_eq_zero z
        exact Int.dvd_neg.1 this
      rw [Int.emod_eq_zero_of_dvd this]; rfl
    · rw [e, if_pos (by omega), w64 (by omega) (by omega)]
      congr 1
      have d := Int.mul_ediv_add_emod (-v) n
      generalize (-v) % n = b at *
      generalize (-v) / n = a at *
      have hv' : v = (n - b) + n * (-a - 1) := by
        rw [Int.mul_sub, Int.mul_neg]; omega
      rw [hv', Int.add_mul_emod_self_left, Int.emod_eq_of_lt (by omega) (by omega)]
      omega
theorem within_one {v n : Int} (hn : n < 1) : overdubkeep_Within.f v n = some 0 := by
  unfold overdubkeep_Within.f
  rw [if_pos hn]

theorem put_l0 (W : Nat) (hW : W ≤ 100) (d : Nat) : ∀ (pre : List Int) (m : Int), pre.length + d = W →
    Ev (fun k => field_Put.l0 k (pre ++ List.replicate d 0) m (W : Int) (pre.length : Int)) (pre ++ leB d m) := by
  induction d with
  | zero =>
    intro pre m h
    refine Ev.step (f := fun _ => some (pre ++ leB 0 m)) (fun k => ?_) (ev_some _)
    simp only [field_Put.l0]
    rw [if_neg (by omega)]; simp [leB]
  | succ d ih =>
    intro pre m h
    have ih := ih (pre ++ [m % 256]) (m / 256) (by simp; omega)
    refine Ev.step (fun k => ?_) (by simpa [leB] using ih)
    simp only [field_Put.l0]
    rw [if_pos (by omega), if_pos (by omega), if_pos (by simp; omega), List.replicate_succ, Int.toNat_natCast, set_app, w64 (by omega) (by omega)]
    simp
theorem put_ev {n : Int} (hn : -9223372036854775808 ≤ n) (hn1 : n ≤ 9223372036854775807) (w : Int) :
    Ev (fun k => field_Put.f k n w) (leB (max 0 (min w 8)).toNat (max 0 n)) := by
  have h := put_l0 (max 0 (min w 8)).toNat (by omega) (max 0 (min w 8)).toNat [] (max 0 n) (by simp)
  simp only [List.nil_append, List.length_nil] at h
  refine Ev.congr (fun k => ?_) h
  unfold field_Put.f
  rw [mn_eq, mx_eq, mx_eq, if_pos (by omega), if_pos (by omega), Option.bind_some, wraps_u64 _ (by omega) (by omega), List.length_replicate]
  rfl
theorem put_ev' {n : Int} (hn : 0 ≤ n) (hn1 : n ≤ 9223372036854775807) {w : Int} (h0 : 0 ≤ w) (h1 : w ≤ 8) :
    Ev (fun k => field_Put.f k n w) (leB w.toNat n) := by
  have h := put_ev (n := n) (by omega) hn1 w
  rwa [show max 0 (min w 8) = w by omega, show max 0 n = n by omega] at h

theorem same_byte_l0 (x y : List Int) (hl : x.length = y.length) (hm : x.length < 9223372036854775807) (d : Nat) : ∀ i : Nat, i + d = x.length →
    Ev (fun k => overdubkeep_Same_byte.l0 k x y (i : Int)) (decide (x.drop i = y.drop i)) := by
  induction d with
  | zero =>
    intro i h
    refine Ev.step (f := fun _ => some (decide (x.drop i = y.drop i))) (fun k => ?_) (ev_some _)
    simp only [overdubkeep_Same_byte.l0]
    rw [if_neg (by omega), List.drop_of_length_le (by omega), List.drop_of_length_le (by omega)]; simp
  | succ d ih =>
    intro i h
    have e : rd x (i : Int) = x[i]'(by omega) := by unfold rd; simp [List.getD_eq_getElem?_getD, List.getElem?_eq_getElem (show i < x.length by omega)]
    have e' : rd y (i : Int) = y[i]'(by omega) := by unfold rd; simp [List.getD_eq_getElem?_getD, List.getElem?_eq_getElem (show i < y.length by omega)]
    by_cases hxy : rd x (i : Int) = rd y (i : Int)
    · refine Ev.step (fun k => ?_) (show Ev _ (decide (x.drop i = y.drop i)) from by
        have := ih (i + 1) (by omega)
        rwa [show decide (x.drop (i + 1) = y.drop (i + 1)) = decide (x.drop i = y.drop i) from by
          rw [List.drop_eq_getElem_cons (show i < x.length by omega), List.drop_eq_getElem_cons (show i < y.length by omega), ← e, ← e', hxy]; simp] at this)
      simp only [overdubkeep_Same_byte.l0]
      rw [if_pos (by omega), if_pos (by omega), if_pos (by omega), if_pos hxy, w64 (by omega) (by omega)]
      rfl
    · refine Ev.step (f := fun _ => some (decide (x.drop i = y.drop i))) (fun k => ?_) (ev_some _)
      simp only [overdubkeep_Same_byte.l0]
      rw [if_pos (by omega), if_pos (by omega), if_pos (by omega), if_neg hxy]
      rw [List.drop_eq_getElem_cons (show i < x.length by omega), List.drop_eq_getElem_cons (show i < y.length by omega), ← e, ← e']
      simp [hxy]
theorem same_byte_ev (x y : List Int) (hm : x.length < 9223372036854775807) : Ev (fun k => overdubkeep_Same_byte.f k x y) (decide (x = y)) := by
  by_cases hl : x.length = y.length
  · refine Ev.congr (fun k => ?_) (same_byte_l0 x y hl hm x.length 0 (by omega))
    unfold overdubkeep_Same_byte.f
    rw [if_pos (by omega)]; rfl
  · refine ev_now (fun k => ?_)
    unfold overdubkeep_Same_byte.f
    rw [if_neg (by omega)]
    congr 1
    exact (decide_eq_false (fun h => hl (by rw [h]))).symm

theorem join_l0 (d : Nat) : ∀ (pre post : List (List Int)) (out : List Int), post.length = d → (pre ++ post).length < 9223372036854775807 →
    out.length + post.flatten.length < 140737488355328 →
    Ev (fun k => field_Join.l0 k out (pre ++ post) ((pre ++ post).length : Int) (pre.length : Int)) (out ++ post.flatten) := by
  induction d with
  | zero =>
    intro pre post out h _ _
    obtain rfl := List.eq_nil_of_length_eq_zero h
    refine Ev.step (f := fun _ => some (out ++ [].flatten)) (fun k => ?_) (ev_some _)
    simp only [field_Join.l0]
    rw [if_neg (by simp)]; simp
  | succ d ih =>
    intro pre post out h hm hs
    obtain ⟨x, post, rfl⟩ : ∃ x p, post = x :: p := by cases post with | nil => simp at h | cons x p => exact ⟨x, p, rfl⟩
    have hm' : pre.length + (post.length + 1) < 9223372036854775807 := by simpa using hm
    have h' : post.length = d := by simpa using h
    simp only [List.flatten_cons, List.length_append] at hs
    have ih := ih (pre ++ [x]) post (out ++ x) h' (by simp; omega) (by rw [List.length_append]; omega)
    rw [List.append_assoc, List.singleton_append, show ((pre ++ [x]).length : Int) = (pre.length : Int) + 1 by simp, List.append_assoc out, ← List.flatten_cons] at ih
    refine Ev.step (fun k => ?_) ih
    have e : rd_L2 (pre ++ x :: post) (pre.length : Int) = x := by unfold rd_L2; rw [Int.toNat_natCast, getD_app]
    have hlt : (pre.length : Int) < ((pre ++ x :: post).length : Int) := by simp; omega
    simp only [field_Join.l0]
    rw [if_pos hlt, if_pos (by omega), if_pos hlt, e, if_pos (by omega), w64 (by omega) (by omega)]
theorem join_ev (l : List (List Int)) (hl : l.length < 9223372036854775807) (hs : l.flatten.length < 140737488355328) : Ev (fun k => field_Join.f k l) l.flatten := by
  have h := join_l0 l.length [] l [] rfl (by simpa using hl) (by simpa using hs)
  simp only [List.nil_append, List.length_nil] at h
  exact Ev.congr (fun k => by unfold field_Join.f; rfl) h

end Go.Proofs.Ytaiaackeljlbfaa.QB
