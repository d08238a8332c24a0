/- Numbers that are less have bytes that are less, read from the end, and rows joined are as long as their sum, for every input. -/
import Derived.Test.YtgijagbneapcfaaField
namespace Go.Proofs.Ytgijagbneapcfaa.Pure
open Go.RowKit Go.Proofs.Ytgijagbneapcfaa.QA Go.Proofs.YtgijagbneapcfaaW.PrintWords Go.Proofs.YtgijagbneapcfaaW.PrintLast Go.Proofs.YtgijagbneapcfaaW.PrintMore Go.Proofs.Ytgijagbneapcfaa.Mth

set_option linter.unusedVariables false
theorem order_tail {a b : Int} {W : Nat} (hW : W ≤ 7) : Ev (fun k => (field_Join.f k ([leB W a, leB W b, [], leB W a] : List (List Int))).bind fun t130 => (if (t130.length : Int) = (wrap64 (3 * (W : Int))) then ((overdublaw04_wakes.f k).bind fun t133 => (some t133)) else (some false))) true := by
  refine Ev.bind (join_ev _ (by simp) (by simp [leB_length]; omega)) ?_
  rw [w64 (by omega) (by omega)]
  have e : ((([leB W a, leB W b, [], leB W a] : List (List Int)).flatten.length : Nat) : Int) = 3 * (W : Int) := by simp [leB_length]; omega
  simp only [if_pos e]
  exact Ev.bind wakes04 (ev_some _)

theorem order_done {a b : Int} {W : Nat} (hW : W ≤ 7) (i : Int) : Ev (fun k => overdublaw04_FieldOrder.l0 k a b (W : Int) (leB W a) (leB W b) (decide (a < b)) true i) true := by
  refine Ev.step (fun k => by simp only [overdublaw04_FieldOrder.l0]; rfl) ?_
  simp only [if_true, beq_self_eq_true]
  have h := order_tail (a := a) (b := b) hW
  by_cases hi : i ≥ 0
  · simp only [if_pos hi]; exact h
  · simp only [if_neg hi]; exact h

theorem order_l0 {a b : Int} {W : Nat} (hW : W ≤ 7) (ha : 0 ≤ a) (hb : 0 ≤ b) (d : Nat) : d ≤ W → a / 256 ^ d = b / 256 ^ d →
    Ev (fun k => overdublaw04_FieldOrder.l0 k a b (W : Int) (leB W a) (leB W b) false false ((d : Int) - 1)) true := by
  induction d with
  | zero =>
    intro h he
    simp at he
    refine Ev.step (fun k => by simp only [overdublaw04_FieldOrder.l0]; rfl) ?_
    have e : decide (a < b) = false := by simp; omega
    simp only [if_neg (show ¬ (((0 : Nat) : Int) - 1 ≥ 0) by omega), e, beq_self_eq_true, if_true]
    exact order_tail hW
  | succ d ih =>
    intro h he
    have p := p256_pos d
    have ea : a / 256 ^ (d + 1) = a / 256 ^ d / 256 := by rw [p256_succ, Int.mul_comm, ← Int.ediv_ediv_of_nonneg (by omega)]
    have eb : b / 256 ^ (d + 1) = b / 256 ^ d / 256 := by rw [p256_succ, Int.mul_comm, ← Int.ediv_ediv_of_nonneg (by omega)]
    rw [ea, eb] at he
    have xa : rd (leB W a) (((d + 1 : Nat) : Int) - 1) = a / 256 ^ d % 256 := by unfold rd; rw [show (((d + 1 : Nat) : Int) - 1).toNat = d by omega, leB_get _ _ _ (by omega)]
    have xb : rd (leB W b) (((d + 1 : Nat) : Int) - 1) = b / 256 ^ d % 256 := by unfold rd; rw [show (((d + 1 : Nat) : Int) - 1).toNat = d by omega, leB_get _ _ _ (by omega)]
    have la := leB_length W a
    have lb := leB_length W b
    refine Ev.step (fun k => by simp only [overdublaw04_FieldOrder.l0]; rfl) ?_
    rw [xa, xb, w64 (x := ((d + 1 : Nat) : Int) - 1 - 1) (by omega) (by omega)]
    simp only [if_pos (show ((d + 1 : Nat) : Int) - 1 ≥ 0 by omega), if_neg (show ¬ (false = true) by decide), if_pos (show ((d + 1 : Nat) : Int) - 1 < ((leB W a).length : Int) by omega), if_pos (show ((d + 1 : Nat) : Int) - 1 < ((leB W b).length : Int) by omega)]
    rw [show ((d + 1 : Nat) : Int) - 1 - 1 = (d : Int) - 1 by omega]
    by_cases hq : a / 256 ^ d % 256 = b / 256 ^ d % 256
    · have hqq : a / 256 ^ d = b / 256 ^ d := by omega
      rw [hq, bne_self_eq_false, show decide (b / 256 ^ d % 256 < b / 256 ^ d % 256) = false by simp]
      exact ih (by omega) hqq
    · have e1 : (a / 256 ^ d % 256 != b / 256 ^ d % 256) = true := bne_iff_ne.2 hq
      have e2 : decide (a / 256 ^ d % 256 < b / 256 ^ d % 256) = decide (a < b) := by
        have hlt : a / 256 ^ d % 256 < b / 256 ^ d % 256 ↔ a / 256 ^ d < b / 256 ^ d := by omega
        have hlt2 : b / 256 ^ d % 256 < a / 256 ^ d % 256 ↔ b / 256 ^ d < a / 256 ^ d := by omega
        rw [decide_eq_decide, hlt]
        constructor
        · intro h
          have h1 := Int.lt_mul_ediv_self_add (x := a) p
          have h2 := Int.mul_ediv_self_le (x := b) (k := 256 ^ d) (by omega)
          have h3 := Int.mul_le_mul_of_nonneg_left (show a / 256 ^ d + 1 ≤ b / 256 ^ d by omega) (Int.le_of_lt p)
          rw [Int.mul_add] at h3
          omega
        · intro h
          have h1 := Int.ediv_le_ediv p (show a ≤ b by omega)
          have h2 : a / 256 ^ d ≠ b / 256 ^ d := fun h => hq (by rw [h])
          omega
      rw [e1, e2]
      exact order_done hW _

theorem FieldOrder : overdublaw04_FieldOrder.Pure := by
  intro a0 a1 a2 h0 h1 h2
  have i0 := i64_wf h0
  have i1 := i64_wf h1
  have i2 := i64_wf h2
  refine Ev.rounds ?_
  unfold overdublaw04_FieldOrder.f
  refine ev_bind_now (within_spec (by omega) (by omega) i2.1 i2.2) ?_
  have hw := Int.emod_nonneg a2 (show (7 : Int) ≠ 0 by omega)
  have hw1 := Int.emod_lt_of_pos a2 (show (0 : Int) < 7 by omega)
  obtain ⟨W, hW⟩ := Int.eq_ofNat_of_zero_le (show 0 ≤ 1 + a2 % 7 by omega)
  have hW7 : W ≤ 7 := by omega
  rw [w64 (x := 1 + a2 % 7) (by omega) (by omega), hW, w64 (x := 8 * ((W : Nat) : Int)) (by omega) (by omega), wraps_u64 (8 * (W : Int)) (by omega) (by omega), shl_one W hW7]
  simp only [if_pos (show 0 ≤ 8 * (W : Int) by omega)]
  have p := p256_pos W
  have p7 : (256 : Int) ^ W ≤ 256 ^ 7 := p256_mono hW7
  refine ev_bind_now (within_spec (by omega) (by omega) i0.1 i0.2) (ev_bind_now (within_spec (by omega) (by omega) i1.1 i1.2) ?_)
  have a0n := Int.emod_nonneg a0 (show (256 : Int) ^ W ≠ 0 by omega)
  have a0l := Int.emod_lt_of_pos a0 p
  have a1n := Int.emod_nonneg a1 (show (256 : Int) ^ W ≠ 0 by omega)
  have a1l := Int.emod_lt_of_pos a1 p
  generalize a0 % 256 ^ W = a at *
  generalize a1 % 256 ^ W = b at *
  have pa := put_ev' a0n (by omega) (w := (W : Int)) (by omega) (by omega)
  have pb := put_ev' a1n (by omega) (w := (W : Int)) (by omega) (by omega)
  rw [Int.toNat_natCast] at pa pb
  refine Ev.bind pa (Ev.bind pb ?_)
  have la := leB_length W a
  have lb := leB_length W b
  simp only [if_pos (show ((leB W a).length : Int) = (W : Int) by omega)]
  rw [show (((leB W b).length : Int) != (W : Int)) = false by rw [lb]; simp]
  refine Ev.step (fun k => by simp only [overdublaw04_FieldOrder.j0]; rfl) ?_
  simp only [if_neg (show ¬ (false = true) by decide)]
  rw [w64 (x := (W : Int) - 1) (by omega) (by omega)]
  exact order_l0 hW7 a0n a1n W (Nat.le_refl _) (by rw [Int.ediv_eq_zero_of_lt a0n a0l, Int.ediv_eq_zero_of_lt a1n a1l])

end Go.Proofs.Ytgijagbneapcfaa.Pure
