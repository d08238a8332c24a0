import Derived.RowKit
import Derived.Laws.BitsLemmas
import Derived.Test.YtigkcigoiinkpaaZFx
namespace Go.Proofs.Ytigkcigoiinkpaa.Am
open Go Go.RowKit
set_option linter.unusedVariables false
set_option linter.unusedSimpArgs false
def leB : Nat → Int → List Int
  | 0, _ => []
  | w + 1, n => n % 256 :: leB w (n / 256)
def leV : List Int → Int
  | [] => 0
  | b :: l => b + 256 * leV l
def Byt (l : List Int) : Prop := ∀ x ∈ l, 0 ≤ x ∧ x < 256
theorem leB_length : ∀ w n, (leB w n).length = w
  | 0, _ => rfl
  | w + 1, n => by simp [leB, leB_length w]
theorem leB_byt : ∀ w n, Byt (leB w n)
  | 0, _ => by intro x h; simp [leB] at h
  | w + 1, n => by
    intro x h
    simp only [leB, List.mem_cons] at h
    rcases h with h | h
    · subst h; omega
    · exact leB_byt w _ x h
theorem byt_cons {b : Int} {l : List Int} (hb : 0 ≤ b ∧ b < 256) (hl : Byt l) : Byt (b :: l) := by
  intro x h
  rcases List.mem_cons.1 h with h | h
  · subst h; exact hb
  · exact hl x h
theorem byt_append {l m : List Int} (h : Byt l) (k : Byt m) : Byt (l ++ m) := by
  intro x hx
  rcases List.mem_append.1 hx with hx | hx
  · exact h x hx
  · exact k x hx
theorem byt_take {l : List Int} (h : Byt l) (n : Nat) : Byt (l.take n) := fun x hx => h x (List.mem_of_mem_take hx)
theorem byt_drop {l : List Int} (h : Byt l) (n : Nat) : Byt (l.drop n) := fun x hx => h x (List.mem_of_mem_drop hx)
theorem byt_replicate (n : Nat) : Byt (List.replicate n 0) := fun x hx => by rw [List.eq_of_mem_replicate hx]; omega
theorem p256_pos (w : Nat) : (0 : Int) < 256 ^ w := Int.pow_pos (by omega)
theorem p256_succ (w : Nat) : (256 : Int) ^ (w + 1) = 256 * 256 ^ w := by rw [Int.pow_succ, Int.mul_comm]
theorem p256_mono {a b : Nat} (h : a ≤ b) : (256 : Int) ^ a ≤ 256 ^ b := by
  obtain ⟨d, rfl⟩ := Nat.exists_eq_add_of_le h
  rw [Int.pow_add]
  have h1 := p256_pos a
  have h2 := p256_pos d
  have := Int.mul_le_mul_of_nonneg_left (show (1 : Int) ≤ 256 ^ d by omega) (Int.le_of_lt h1)
  omega
theorem leV_bound {l : List Int} (h : Byt l) : 0 ≤ leV l ∧ leV l < 256 ^ l.length := by
  induction l with
  | nil => simp [leV]
  | cons b l ih =>
    obtain ⟨h1, h2⟩ := ih (fun x hx => h x (List.mem_cons_of_mem _ hx))
    have hb := h b (List.mem_cons_self ..)
    simp only [leV, List.length_cons, p256_succ]
    omega
theorem leV_leB : ∀ (w : Nat) (n : Int), 0 ≤ n → leV (leB w n) = n % 256 ^ w
  | 0, n, _ => by simp [leB, leV, Int.emod_one]
  | w + 1, n, h => by
    have ih := leV_leB w (n / 256) (by omega)
    simp only [leB, leV, ih, p256_succ]
    have hp := p256_pos w
    have e1 : n / 256 % 256 ^ w = n / 256 - 256 ^ w * (n / (256 * 256 ^ w)) := by
      rw [Int.emod_def, Int.ediv_ediv_of_nonneg (by omega)]
    have e2 : n % (256 * 256 ^ w) = n - 256 * 256 ^ w * (n / (256 * 256 ^ w)) := Int.emod_def ..
    rw [e1, e2, Int.mul_assoc]
    generalize 256 ^ w * (n / (256 * 256 ^ w)) = z
    omega
theorem leV_leB_small {w : Nat} {n : Int} (h : 0 ≤ n) (h1 : n < 256 ^ w) : leV (leB w n) = n := by
  rw [leV_leB w n h, Int.emod_eq_of_lt h h1]
theorem leB_get : ∀ (w : Nat) (n : Int) (i : Nat), i < w → (leB w n).getD i 0 = n / 256 ^ i % 256
  | 0, _, _, h => by omega
  | w + 1, n, 0, _ => by simp [leB]
  | w + 1, n, i + 1, h => by
    simp only [leB, List.getD_cons_succ]
    rw [leB_get w (n / 256) i (by omega), p256_succ, Int.ediv_ediv_of_nonneg (by omega)]
theorem leV_drop_succ {l : List Int} {i : Nat} (h : i < l.length) : leV (l.drop i) = l.getD i 0 + 256 * leV (l.drop (i + 1)) := by
  rw [List.drop_eq_getElem_cons h]
  simp [leV, List.getD_eq_getElem?_getD, List.getElem?_eq_getElem h]
def takeL : List Int → List Int → Option (List Int)
  | _, [] => some []
  | b, w :: ws => if w < 0 ∨ 7 < w ∨ (b.length : Int) < w then none else (takeL (b.drop w.toNat) ws).map (leV (b.take w.toNat) :: ·)
theorem wraps_i64 (n : Int) (h0 : 0 ≤ n) (h1 : n < 2 ^ 63) : IntKind.i64.wrap n = n :=
  wrap_id n (by omega) (by omega)
theorem or256 {x y : Int} (hx : 0 ≤ x) (hx1 : x < 2 ^ 55) (hy : 0 ≤ y) (hy1 : y < 256) : bits .or .i64 (x * 256) y = x * 256 + y :=
  Go.bits_join .i64 63 (by decide) wraps_i64 8 (x * 256) y (by omega) (by omega) (by omega) hy (by omega) (by omega)
structure Xt where
  f0 : Int
  f1 : Int
  f2 : Int
  f3 : Int
  f4 : Int
def oneE (e : Xt) : Bool := decide (1 ≤ e.f1 ∧ e.f1 < 4096 ∧ e.f2 ≤ 64 ∧ 0 ≤ e.f3 ∧ e.f3 < e.f2 ∧ 1 ≤ e.f4 ∧ e.f4 ≤ e.f2 - e.f3)
def vRow : Int → List Xt → Bool
  | _, [] => true
  | n, e :: l => oneE e && (decide (e.f0 = n) && (decide (e.f4 ≤ 1000 - n) && vRow (n + e.f4) l))
def okE (e : Xt) : Prop := (0 ≤ e.f0 ∧ e.f0 < 65536) ∧ (0 ≤ e.f1 ∧ e.f1 < 65536) ∧ (0 ≤ e.f2 ∧ e.f2 < 256) ∧ (0 ≤ e.f3 ∧ e.f3 < 256) ∧ (0 ≤ e.f4 ∧ e.f4 < 256)
def numE (e : Xt) : Prop := (-9223372036854775808 ≤ e.f0 ∧ e.f0 ≤ 9223372036854775807) ∧ (-9223372036854775808 ≤ e.f1 ∧ e.f1 ≤ 9223372036854775807) ∧ (-9223372036854775808 ≤ e.f2 ∧ e.f2 ≤ 9223372036854775807) ∧ (-9223372036854775808 ≤ e.f3 ∧ e.f3 ≤ 9223372036854775807) ∧ (-9223372036854775808 ≤ e.f4 ∧ e.f4 ≤ 9223372036854775807)
def exB (e : Xt) : List Int := leB 2 (max 0 e.f0) ++ (leB 2 (max 0 e.f1) ++ (leB 1 (max 0 e.f2) ++ (leB 1 (max 0 e.f3) ++ leB 1 (max 0 e.f4))))
def exsB (l : List Xt) : List Int := (l.map exB).flatten
theorem exB_length (e : Xt) : (exB e).length = 7 := by simp [exB, leB_length]
theorem exsB_cons (e : Xt) (l : List Xt) : exsB (e :: l) = exB e ++ exsB l := by simp [exsB]
theorem exsB_length : ∀ l : List Xt, (exsB l).length = 7 * l.length
  | [] => rfl
  | e :: l => by rw [exsB_cons, List.length_append, exB_length, exsB_length l, List.length_cons]; omega
def takeE : List Int → Nat → List Xt
  | _, 0 => []
  | b, n + 1 => ⟨leV (b.take 2), leV ((b.drop 2).take 2), leV ((b.drop 4).take 1), leV ((b.drop 5).take 1), leV ((b.drop 6).take 1)⟩ :: takeE (b.drop 7) n
theorem takeE_length : ∀ (n : Nat) (b : List Int), (takeE b n).length = n
  | 0, _ => rfl
  | n + 1, b => by simp [takeE, takeE_length n]
theorem takeL_five {b : List Int} (h : 7 ≤ b.length) : takeL b [2, 2, 1, 1, 1] = some [leV (b.take 2), leV ((b.drop 2).take 2), leV ((b.drop 4).take 1), leV ((b.drop 5).take 1), leV ((b.drop 6).take 1)] := by
  simp only [takeL, List.length_drop, show (2 : Int).toNat = 2 from rfl, show (1 : Int).toNat = 1 from rfl]
  rw [if_neg (by omega), if_neg (by omega), if_neg (by omega), if_neg (by omega), if_neg (by omega)]
  simp
theorem take_app {α : Type} {a : List α} {n : Nat} (h : a.length = n) (b : List α) : (a ++ b).take n = a := List.take_left' h
theorem drop_app {α : Type} {a : List α} {n : Nat} (h : a.length = n) (b : List α) : (a ++ b).drop n = b := List.drop_left' h
theorem takeE_exsB : ∀ (l : List Xt), (∀ e ∈ l, okE e) → takeE (exsB l) l.length = l
  | [], _ => rfl
  | e :: l, h => by
    have ih := takeE_exsB l (fun x hx => h x (List.mem_cons_of_mem _ hx))
    obtain ⟨h0, h1, h2, h3, h4⟩ := h e (List.mem_cons_self ..)
    rw [exsB_cons, List.length_cons, takeE, drop_app (exB_length e), ih]
    have l2 := leB_length 2
    have l1 := leB_length 1
    have e0 : (exB e ++ exsB l).take 2 = leB 2 (max 0 e.f0) := by unfold exB; rw [List.append_assoc, take_app (l2 _)]
    have d0 : (exB e ++ exsB l).drop 2 = leB 2 (max 0 e.f1) ++ (leB 1 (max 0 e.f2) ++ (leB 1 (max 0 e.f3) ++ (leB 1 (max 0 e.f4) ++ exsB l))) := by unfold exB; rw [List.append_assoc, drop_app (l2 _)]; simp
    have d1 : (exB e ++ exsB l).drop 4 = leB 1 (max 0 e.f2) ++ (leB 1 (max 0 e.f3) ++ (leB 1 (max 0 e.f4) ++ exsB l)) := by rw [show 4 = 2 + 2 from rfl, ← List.drop_drop, d0, drop_app (l2 _)]
    have d2 : (exB e ++ exsB l).drop 5 = leB 1 (max 0 e.f3) ++ (leB 1 (max 0 e.f4) ++ exsB l) := by rw [show 5 = 4 + 1 from rfl, ← List.drop_drop, d1, drop_app (l1 _)]
    have d3 : (exB e ++ exsB l).drop 6 = leB 1 (max 0 e.f4) ++ exsB l := by rw [show 6 = 5 + 1 from rfl, ← List.drop_drop, d2, drop_app (l1 _)]
    rw [e0, d0, d1, d2, d3, take_app (l2 _), take_app (l1 _), take_app (l1 _), take_app (l1 _)]
    rw [leV_leB_small (by omega) (by simp; omega), leV_leB_small (by omega) (by simp; omega), leV_leB_small (by omega) (by simp; omega), leV_leB_small (by omega) (by simp; omega), leV_leB_small (by omega) (by simp; omega)]
    rw [show max 0 e.f0 = e.f0 by omega, show max 0 e.f1 = e.f1 by omega, show max 0 e.f2 = e.f2 by omega, show max 0 e.f3 = e.f3 by omega, show max 0 e.f4 = e.f4 by omega]
end Go.Proofs.Ytigkcigoiinkpaa.Am
