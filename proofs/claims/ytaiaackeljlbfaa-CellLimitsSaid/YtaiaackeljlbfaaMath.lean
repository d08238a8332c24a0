/- Plain facts on numbers as bytes, used by this claim's own texts; no program in sight. -/
import Derived.RowKit
import Derived.Laws.BitsLemmas
import Derived.Test.YtaiaackeljlbfaaWMore
namespace Go.Proofs.Ytaiaackeljlbfaa.Mth
open Go.RowKit Go.Proofs.YtaiaackeljlbfaaW.PrintWords Go.Proofs.YtaiaackeljlbfaaW.PrintLast Go.Proofs.YtaiaackeljlbfaaW.PrintMore
set_option linter.unusedVariables false
set_option linter.unusedSimpArgs false

/-- A number as so many bytes, the lowest first. -/
def leB : Nat → Int → List Int
  | 0, _ => []
  | w + 1, n => n % 256 :: leB w (n / 256)
/-- The number of bytes. -/
def leV : List Int → Int
  | [] => 0
  | b :: l => b + 256 * leV l
def Byt (l : List Int) : Prop := ∀ x ∈ l, 0 ≤ x ∧ x < 256

theorem leB_length : ∀ w n, (leB w n).length = w
  | 0, _ => rfl
  | w + 1, n => by simp [leB, leB_length w]
theorem leB_byt : ∀ w n, Byt (leB w n)
  | 0, _ => by intro x h; simp [leB] at h
  | w + 1, n => by
    intro x h
    simp only [leB, List.mem_cons] at h
    rcases h with h | h
    · subst h; omega
    · exact leB_byt w _ x h
theorem byt_nil : Byt [] := fun x h => by simp at h
theorem byt_cons {b : Int} {l : List Int} (hb : 0 ≤ b ∧ b < 256) (hl : Byt l) : Byt (b :: l) := by
  intro x h
  rcases List.mem_cons.1 h with h | h
  · subst h; exact hb
  · exact hl x h
theorem byt_append {l m : List Int} (h : Byt l) (k : Byt m) : Byt (l ++ m) := by
  intro x hx
  rcases List.mem_append.1 hx with hx | hx
  · exact h x hx
  · exact k x hx
theorem byt_take {l : List Int} (h : Byt l) (n : Nat) : Byt (l.take n) := fun x hx => h x (List.mem_of_mem_take hx)
theorem byt_drop {l : List Int} (h : Byt l) (n : Nat) : Byt (l.drop n) := fun x hx => h x (List.mem_of_mem_drop hx)
theorem byt_replicate (n : Nat) : Byt (List.replicate n 0) := fun x hx => by rw [List.eq_of_mem_replicate hx]; omega
theorem byt_wf {l : List Int} (h : ∀ x ∈ l, (Lit.int .u8 x).wf = true) : Byt l := by
  intro x hx
  have := h x hx
  simp [Lit.wf, IntKind.min, IntKind.max, IntKind.bits, IntKind.signed] at this
  omega
theorem i64_wf {x : Int} (h : (Lit.int .i64 x).wf = true) : -9223372036854775808 ≤ x ∧ x ≤ 9223372036854775807 := by
  simp [Lit.wf, IntKind.min, IntKind.max, IntKind.bits, IntKind.signed] at h
  omega

theorem p256_pos (w : Nat) : (0 : Int) < 256 ^ w := Int.pow_pos (by omega)
theorem p256_succ (w : Nat) : (256 : Int) ^ (w + 1) = 256 * 256 ^ w := by rw [Int.pow_succ, Int.mul_comm]
theorem p256_mono {a b : Nat} (h : a ≤ b) : (256 : Int) ^ a ≤ 256 ^ b := by
  obtain ⟨d, rfl⟩ := Nat.exists_eq_add_of_le h
  rw [Int.pow_add]
  have h1 := p256_pos a
  have h2 := p256_pos d
  have := Int.mul_le_mul_of_nonneg_left (show (1 : Int) ≤ 256 ^ d by omega) (Int.le_of_lt h1)
  omega
theorem leV_bound {l : List Int} (h : Byt l) : 0 ≤ leV l ∧ leV l < 256 ^ l.length := by
  induction l with
  | nil => simp [leV]
  | cons b l ih =>
    obtain ⟨h1, h2⟩ := ih (fun x hx => h x (List.mem_cons_of_mem _ hx))
    have hb := h b (List.mem_cons_self ..)
    simp only [leV, List.length_cons, p256_succ]
    omega
theorem leV_leB : ∀ (w : Nat) (n : Int), 0 ≤ n → leV (leB w n) = n % 256 ^ w
  | 0, n, _ => by simp [leB, leV, Int.emod_one]
  | w + 1, n, h => by
    have ih := leV_leB w (n / 256) (by omega)
    simp only [leB, leV, ih, p256_succ]
    have hp := p256_pos w
    have e1 : n / 256 % 256 ^ w = n / 256 - 256 ^ w * (n / (256 * 256 ^ w)) := by
      rw [Int.emod_def, Int.ediv_ediv_of_nonneg (by omega)]
    have e2 : n % (256 * 256 ^ w) = n - 256 * 256 ^ w * (n / (256 * 256 ^ w)) := Int.emod_def ..
    rw [e1, e2, Int.mul_assoc]
    generalize 256 ^ w * (n / (256 * 256 ^ w)) = z
    omega
theorem leV_leB_small {w : Nat} {n : Int} (h : 0 ≤ n) (h1 : n < 256 ^ w) : leV (leB w n) = n := by
  rw [leV_leB w n h, Int.emod_eq_of_lt h h1]
theorem leB_leV {l : List Int} (h : Byt l) : leB l.length (leV l) = l := by
  induction l with
  | nil => rfl
  | cons b l ih =>
    have hb := h b (List.mem_cons_self ..)
    have ih := ih (fun x hx => h x (List.mem_cons_of_mem _ hx))
    simp only [List.length_cons, leB, leV]
    rw [show (b + 256 * leV l) % 256 = b by omega, show (b + 256 * leV l) / 256 = leV l by omega, ih]
theorem leB_inj {w : Nat} {a b : Int} (ha : 0 ≤ a) (ha1 : a < 256 ^ w) (hb : 0 ≤ b) (hb1 : b < 256 ^ w) (h : leB w a = leB w b) : a = b := by
  rw [← leV_leB_small ha ha1, h, leV_leB_small hb hb1]
theorem leB_zero : ∀ w, leB w 0 = List.replicate w 0
  | 0 => rfl
  | w + 1 => by simp [leB, leB_zero w, List.replicate_succ]
theorem leB_take : ∀ (v w : Nat) (n : Int), v ≤ w → (leB w n).take v = leB v n
  | 0, _, _, _ => by simp [leB]
  | v + 1, 0, _, h => by omega
  | v + 1, w + 1, n, h => by simp [leB, leB_take v w _ (by omega)]
theorem leB_get : ∀ (w : Nat) (n : Int) (i : Nat), i < w → (leB w n).getD i 0 = n / 256 ^ i % 256
  | 0, _, _, h => by omega
  | w + 1, n, 0, _ => by simp [leB]
  | w + 1, n, i + 1, h => by
    simp only [leB, List.getD_cons_succ]
    rw [leB_get w (n / 256) i (by omega), p256_succ, Int.ediv_ediv_of_nonneg (by omega)]
theorem leV_append : ∀ (l m : List Int), leV (l ++ m) = leV l + 256 ^ l.length * leV m
  | [], m => by simp [leV]
  | b :: l, m => by
    simp only [List.cons_append, leV, leV_append l m, List.length_cons, p256_succ, Int.mul_add, Int.mul_assoc]
    omega
theorem leV_drop_succ {l : List Int} {i : Nat} (h : i < l.length) : leV (l.drop i) = l.getD i 0 + 256 * leV (l.drop (i + 1)) := by
  rw [List.drop_eq_getElem_cons h]
  simp [leV, List.getD_eq_getElem?_getD, List.getElem?_eq_getElem h]

/-- Numbers of these widths, from the beginning; none: a width may not be, or there is too little. -/
def takeL : List Int → List Int → Option (List Int)
  | _, [] => some []
  | b, w :: ws => if w < 0 ∨ 7 < w ∨ (b.length : Int) < w then none else (takeL (b.drop w.toNat) ws).map (leV (b.take w.toNat) :: ·)
def takeR (b ws : List Int) : List Int × Bool := match takeL b ws with | none => ([], false) | some l => (l, true)

theorem wraps_i64 (n : Int) (h0 : 0 ≤ n) (h1 : n < 2 ^ 63) : IntKind.i64.wrap n = n := by
  have e : IntKind.i64.wrap n = wrap64 n := by rw [i64_w]
  rw [e]; unfold wrap64; omega
theorem wraps_u64 (n : Int) (h0 : 0 ≤ n) (h1 : n < 2 ^ 64) : IntKind.u64.wrap n = n := by
  simp only [IntKind.wrap, IntKind.bits, IntKind.signed]
  simp
  omega
theorem or256 {x y : Int} (hx : 0 ≤ x) (hx1 : x < 2 ^ 55) (hy : 0 ≤ y) (hy1 : y < 256) : Go.bits .or .i64 (x * 256) y = x * 256 + y :=
  Go.bits_join .i64 63 (by decide) wraps_i64 8 (x * 256) y (by omega) (by omega) (by omega) hy (by omega) (by omega)
theorem w64 {x : Int} (h0 : -9223372036854775808 ≤ x) (h1 : x ≤ 9223372036854775807) : wrap64 x = x := by unfold wrap64; omega

theorem set_app {α : Type} (pre : List α) (x y : α) (post : List α) : (pre ++ x :: post).set pre.length y = (pre ++ [y]) ++ post := by
  induction pre with
  | nil => rfl
  | cons a l ih => simp [ih]
theorem getD_app {α : Type} (pre : List α) (x d : α) (post : List α) : (pre ++ x :: post).getD pre.length d = x := by
  induction pre with
  | nil => rfl
  | cons a l ih => simp

theorem p256_eq (w : Nat) : (256 : Int) ^ w = 2 ^ (8 * w) := by
  rw [Int.pow_mul]; rfl
theorem and255 {n : Int} (h : 0 ≤ n) (h1 : n < 2 ^ 63) : Go.bits .and .i64 n 255 = n % 256 :=
  Go.bits_mask .i64 63 (by decide) wraps_i64 8 (by decide) n h h1
theorem andw {n : Int} (h : 0 ≤ n) (h1 : n < 2 ^ 63) (w : Nat) (hw : w ≤ 7) : Go.bits .and .i64 n (256 ^ w - 1) = n % 256 ^ w := by
  rw [p256_eq]
  exact Go.bits_mask .i64 63 (by decide) wraps_i64 (8 * w) (by omega) n h h1
theorem shl_one (w : Nat) (hw : w ≤ 7) : shl .i64 1 (8 * (w : Int)) = 256 ^ w := by
  rw [p256_eq]
  unfold shl
  have e : (8 * (w : Int)).toNat = 8 * w := by omega
  rw [e, Nat.min_eq_left (by show 8 * w ≤ 64; omega), Int.one_mul]
  refine wraps_i64 _ (Int.pow_nonneg (by omega)) ?_
  have h := p256_mono (show w ≤ 7 from hw)
  rw [p256_eq] at h
  have : (256 : Int) ^ 7 < 2 ^ 63 := by decide
  omega
theorem shr_of {n : Int} (w : Nat) (hw : w ≤ 7) : shr .i64 n (8 * (w : Int)) = n / 256 ^ w := by
  unfold shr
  rw [p256_eq, show (8 * (w : Int)).toNat = 8 * w by omega, Nat.min_eq_left (by show 8 * w ≤ 64; omega)]

theorem takeL_bad : ∀ (ws b : List Int) (x : Int), (x < 0 ∨ 7 < x) → takeL b (ws ++ [x]) = none
  | [], b, x, h => by
    have h' : x < 0 ∨ 7 < x ∨ (b.length : Int) < x := by omega
    simp [takeL, h']
  | w :: ws, b, x, h => by
    simp only [List.cons_append, takeL, takeL_bad ws _ x h]
    split <;> rfl
theorem takeL_some : ∀ (ws b l : List Int), takeL b ws = some l → l.length = ws.length
  | [], b, l, h => by simp [takeL] at h; subst h; rfl
  | w :: ws, b, l, h => by
    simp only [takeL] at h
    split at h
    · cases h
    · obtain ⟨m, hm, rfl⟩ := Option.map_eq_some_iff.1 h
      simp [takeL_some ws _ m hm]
def okW (ws : List Int) : Prop := ∀ x ∈ ws, 0 ≤ x ∧ x ≤ 7
theorem sum_nonneg : ∀ (ws : List Int), okW ws → 0 ≤ ws.sum
  | [], _ => by simp
  | w :: ws, h => by
    have := sum_nonneg ws (fun x hx => h x (List.mem_cons_of_mem _ hx))
    have := h w (List.mem_cons_self ..)
    simp only [List.sum_cons]; omega
theorem takeL_none_iff : ∀ (ws b : List Int), okW ws → (takeL b ws = none ↔ (b.length : Int) < ws.sum)
  | [], b, _ => by simp [takeL]
  | w :: ws, b, h => by
    have hw := h w (List.mem_cons_self ..)
    have hs := sum_nonneg ws (fun x hx => h x (List.mem_cons_of_mem _ hx))
    have ih := takeL_none_iff ws (b.drop w.toNat) (fun x hx => h x (List.mem_cons_of_mem _ hx))
    simp only [takeL, List.sum_cons]
    by_cases hc : w < 0 ∨ 7 < w ∨ (b.length : Int) < w
    · rw [if_pos hc]; simp; omega
    · rw [if_neg hc, Option.map_eq_none_iff, ih, List.length_drop]; omega
/-- What bytes b tell by the widths ws is what was put, whatever comes behind. -/
def TellsW (b ws want : List Int) : Prop := ∀ c vs, takeL (b ++ c) (ws ++ vs) = (takeL c vs).map (want ++ ·)
theorem tellsW_nil : TellsW [] [] [] := fun c vs => by simp
theorem tellsW_snoc {b ws want : List Int} (h : TellsW b ws want) {w : Nat} {n : Int} (hw : w ≤ 7) (h0 : 0 ≤ n) (h1 : n < 256 ^ w) : TellsW (b ++ leB w n) (ws ++ [(w : Int)]) (want ++ [n]) := by
  intro c vs
  have e := h (leB w n ++ c) ((w : Int) :: vs)
  rw [List.append_assoc, List.append_assoc, List.singleton_append, e]
  have hl := leB_length w n
  simp only [takeL, Int.toNat_natCast]
  rw [if_neg (by rw [List.length_append]; omega), List.drop_left' hl, List.take_left' hl, leV_leB_small h0 h1]
  cases takeL c vs <;> simp

end Go.Proofs.Ytaiaackeljlbfaa.Mth
