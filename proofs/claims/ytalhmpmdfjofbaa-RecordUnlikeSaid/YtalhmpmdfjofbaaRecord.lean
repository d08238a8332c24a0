/- What the printed functions of records come to, told by plain lists. -/
import Derived.Test.YtalhmpmdfjofbaaQAx0
import Derived.Test.YtalhmpmdfjofbaaQAx2
import Derived.Test.YtalhmpmdfjofbaaQAx3
import Derived.Test.YtalhmpmdfjofbaaQAx4
import Derived.Test.YtalhmpmdfjofbaaQAx5
import Derived.Test.YtalhmpmdfjofbaaQAx6
import Derived.Test.YtalhmpmdfjofbaaQAx7
import Derived.Test.YtalhmpmdfjofbaaField
namespace Go.Proofs.Ytalhmpmdfjofbaa.QA
open Go.RowKit Go.Proofs.YtalhmpmdfjofbaaW.PrintWords Go.Proofs.YtalhmpmdfjofbaaW.PrintLast Go.Proofs.YtalhmpmdfjofbaaW.PrintMore Go.Proofs.Ytalhmpmdfjofbaa.Mth
set_option linter.unusedVariables false
set_option linter.unusedSimpArgs false

def oneE (e : S39) : Bool := decide (1 ≤ e.f1 ∧ e.f1 < 4096 ∧ e.f2 ≤ 64 ∧ 0 ≤ e.f3 ∧ e.f3 < e.f2 ∧ 1 ≤ e.f4 ∧ e.f4 ≤ e.f2 - e.f3)
def vRow : Int → List S39 → Bool
  | _, [] => true
  | n, e :: l => oneE e && (decide (e.f0 = n) && (decide (e.f4 ≤ 1000 - n) && vRow (n + e.f4) l))
def okE (e : S39) : Prop := (0 ≤ e.f0 ∧ e.f0 < 65536) ∧ (0 ≤ e.f1 ∧ e.f1 < 65536) ∧ (0 ≤ e.f2 ∧ e.f2 < 256) ∧ (0 ≤ e.f3 ∧ e.f3 < 256) ∧ (0 ≤ e.f4 ∧ e.f4 < 256)
/-- Each number is one of 64 digits. -/
def numE (e : S39) : Prop := (-9223372036854775808 ≤ e.f0 ∧ e.f0 ≤ 9223372036854775807) ∧ (-9223372036854775808 ≤ e.f1 ∧ e.f1 ≤ 9223372036854775807) ∧ (-9223372036854775808 ≤ e.f2 ∧ e.f2 ≤ 9223372036854775807) ∧ (-9223372036854775808 ≤ e.f3 ∧ e.f3 ≤ 9223372036854775807) ∧ (-9223372036854775808 ≤ e.f4 ∧ e.f4 ≤ 9223372036854775807)
theorem okE_num {e : S39} (h : okE e) : numE e := by unfold okE numE at *; omega
def exB (e : S39) : List Int := leB 2 (max 0 e.f0) ++ (leB 2 (max 0 e.f1) ++ (leB 1 (max 0 e.f2) ++ (leB 1 (max 0 e.f3) ++ leB 1 (max 0 e.f4))))
def exsB (l : List S39) : List Int := (l.map exB).flatten
theorem exB_length (e : S39) : (exB e).length = 7 := by simp [exB, leB_length]
theorem exsB_nil : exsB [] = [] := rfl
theorem exsB_cons (e : S39) (l : List S39) : exsB (e :: l) = exB e ++ exsB l := by simp [exsB]
theorem exsB_length : ∀ l : List S39, (exsB l).length = 7 * l.length
  | [] => rfl
  | e :: l => by rw [exsB_cons, List.length_append, exB_length, exsB_length l, List.length_cons]; omega
theorem exB_byt (e : S39) : Byt (exB e) := byt_append (leB_byt _ _) (byt_append (leB_byt _ _) (byt_append (leB_byt _ _) (byt_append (leB_byt _ _) (leB_byt _ _))))
theorem exsB_byt : ∀ l : List S39, Byt (exsB l)
  | [] => byt_nil
  | e :: l => by rw [exsB_cons]; exact byt_append (exB_byt e) (exsB_byt l)
theorem vRow_facts : ∀ (l : List S39) (n : Int), 0 ≤ n → n ≤ 1000 → vRow n l = true → (∀ e ∈ l, okE e) ∧ (l.length : Int) ≤ 1000 - n
  | [], n, _, h1, _ => ⟨fun e h => by simp at h, by simp; omega⟩
  | e :: l, n, h0, h1, h => by
    simp only [vRow, Bool.and_eq_true, decide_eq_true_eq, oneE] at h
    obtain ⟨ho, h2, h3, h4⟩ := h
    obtain ⟨ih1, ih2⟩ := vRow_facts l (n + e.f4) (by omega) (by omega) h4
    refine ⟨fun x hx => ?_, by rw [List.length_cons]; omega⟩
    rcases List.mem_cons.1 hx with rfl | hx
    · unfold okE; omega
    · exact ih1 x hx

def noneR (a b : Int) (l : List S39) : Bool := decide (a = 0) && (decide (b = 0) && decide (l.length = 0))
def validR (kind track a b : Int) (l : List S39) : Bool :=
  if kind = 1 ∨ kind = 2 then noneR a b l && decide (0 ≤ track ∧ track ≤ 99)
  else if kind = 4 ∨ kind = 5 then noneR a b l && decide (track = 0)
  else if kind = 3 then decide (0 ≤ track ∧ track ≤ 99) && (decide (0 ≤ a ∧ a ≤ b ∧ b ≤ 1000) && vRow 0 l)
  else false
def packR (kind track a b : Int) (l : List S39) : List Int :=
  leB 1 (max 0 kind) ++ (leB 1 (max 0 track) ++ (leB 2 (max 0 a) ++ (leB 2 (max 0 b) ++ (leB 2 (l.length : Int) ++ exsB l))))
theorem packR_length (kind track a b : Int) (l : List S39) : (packR kind track a b l).length = 8 + 7 * l.length := by
  simp [packR, leB_length, exsB_length]; omega
theorem packR_byt (kind track a b : Int) (l : List S39) : Byt (packR kind track a b l) :=
  byt_append (leB_byt _ _) (byt_append (leB_byt _ _) (byt_append (leB_byt _ _) (byt_append (leB_byt _ _) (byt_append (leB_byt _ _) (exsB_byt l)))))
theorem validR_facts {kind track a b : Int} {l : List S39} (h : validR kind track a b l = true) :
    1 ≤ kind ∧ kind ≤ 5 ∧ 0 ≤ track ∧ track ≤ 99 ∧ 0 ≤ a ∧ a ≤ 1000 ∧ 0 ≤ b ∧ b ≤ 1000 ∧ (∀ e ∈ l, okE e) ∧ l.length ≤ 1000 := by
  unfold validR noneR at h
  split at h
  · simp only [Bool.and_eq_true, decide_eq_true_eq] at h
    obtain rfl := List.eq_nil_of_length_eq_zero h.1.2.2
    refine ⟨by omega, by omega, by omega, by omega, by omega, by omega, by omega, by omega, fun e h => by simp at h, by simp⟩
  · split at h
    · simp only [Bool.and_eq_true, decide_eq_true_eq] at h
      obtain rfl := List.eq_nil_of_length_eq_zero h.1.2.2
      refine ⟨by omega, by omega, by omega, by omega, by omega, by omega, by omega, by omega, fun e h => by simp at h, by simp⟩
    · split at h
      · simp only [Bool.and_eq_true, decide_eq_true_eq] at h
        obtain ⟨h1, h2⟩ := vRow_facts l 0 (by omega) (by omega) h.2.2
        refine ⟨by omega, by omega, by omega, by omega, by omega, by omega, by omega, by omega, h1, by omega⟩
      · cases h

/-- n extents of bytes. -/
def takeE : List Int → Nat → List S39
  | _, 0 => []
  | b, n + 1 => ⟨leV (b.take 2), leV ((b.drop 2).take 2), leV ((b.drop 4).take 1), leV ((b.drop 5).take 1), leV ((b.drop 6).take 1)⟩ :: takeE (b.drop 7) n
theorem takeE_length : ∀ (n : Nat) (b : List Int), (takeE b n).length = n
  | 0, _ => rfl
  | n + 1, b => by simp [takeE, takeE_length n]
theorem takeL_five {b : List Int} (h : 7 ≤ b.length) : takeL b [2, 2, 1, 1, 1] = some [leV (b.take 2), leV ((b.drop 2).take 2), leV ((b.drop 4).take 1), leV ((b.drop 5).take 1), leV ((b.drop 6).take 1)] := by
  simp only [takeL, List.length_drop, show (2 : Int).toNat = 2 from rfl, show (1 : Int).toNat = 1 from rfl]
  rw [if_neg (by omega), if_neg (by omega), if_neg (by omega), if_neg (by omega), if_neg (by omega)]
  simp
theorem takeL_head {b : List Int} (h : 8 ≤ b.length) : takeL b [1, 1, 2, 2, 2] = some [leV (b.take 1), leV ((b.drop 1).take 1), leV ((b.drop 2).take 2), leV ((b.drop 4).take 2), leV ((b.drop 6).take 2)] := by
  simp only [takeL, List.length_drop, show (2 : Int).toNat = 2 from rfl, show (1 : Int).toNat = 1 from rfl]
  rw [if_neg (by omega), if_neg (by omega), if_neg (by omega), if_neg (by omega), if_neg (by omega)]
  simp
theorem takeL_head_none {b : List Int} (h : ¬ 8 ≤ b.length) : takeL b [1, 1, 2, 2, 2] = none :=
  (takeL_none_iff [1, 1, 2, 2, 2] b (fun x hx => by simp at hx; omega)).2 (by simp; omega)
theorem take_app {α : Type} {a : List α} {n : Nat} (h : a.length = n) (b : List α) : (a ++ b).take n = a := List.take_left' h
theorem drop_app {α : Type} {a : List α} {n : Nat} (h : a.length = n) (b : List α) : (a ++ b).drop n = b := List.drop_left' h
theorem takeE_exsB : ∀ (l : List S39), (∀ e ∈ l, okE e) → takeE (exsB l) l.length = l
  | [], _ => rfl
  | e :: l, h => by
    have ih := takeE_exsB l (fun x hx => h x (List.mem_cons_of_mem _ hx))
    obtain ⟨h0, h1, h2, h3, h4⟩ := h e (List.mem_cons_self ..)
    rw [exsB_cons, List.length_cons, takeE, drop_app (exB_length e), ih]
    have l2 := leB_length 2
    have l1 := leB_length 1
    have e0 : (exB e ++ exsB l).take 2 = leB 2 (max 0 e.f0) := by unfold exB; rw [List.append_assoc, take_app (l2 _)]
    have d0 : (exB e ++ exsB l).drop 2 = leB 2 (max 0 e.f1) ++ (leB 1 (max 0 e.f2) ++ (leB 1 (max 0 e.f3) ++ (leB 1 (max 0 e.f4) ++ exsB l))) := by unfold exB; rw [List.append_assoc, drop_app (l2 _)]; simp
    have d1 : (exB e ++ exsB l).drop 4 = leB 1 (max 0 e.f2) ++ (leB 1 (max 0 e.f3) ++ (leB 1 (max 0 e.f4) ++ exsB l)) := by rw [show 4 = 2 + 2 from rfl, ← List.drop_drop, d0, drop_app (l2 _)]
    have d2 : (exB e ++ exsB l).drop 5 = leB 1 (max 0 e.f3) ++ (leB 1 (max 0 e.f4) ++ exsB l) := by rw [show 5 = 4 + 1 from rfl, ← List.drop_drop, d1, drop_app (l1 _)]
    have d3 : (exB e ++ exsB l).drop 6 = leB 1 (max 0 e.f4) ++ exsB l := by rw [show 6 = 5 + 1 from rfl, ← List.drop_drop, d2, drop_app (l1 _)]
    rw [e0, d0, d1, d2, d3, take_app (l2 _), take_app (l1 _), take_app (l1 _), take_app (l1 _)]
    rw [leV_leB_small (by omega) (by simp; omega), leV_leB_small (by omega) (by simp; omega), leV_leB_small (by omega) (by simp; omega), leV_leB_small (by omega) (by simp; omega), leV_leB_small (by omega) (by simp; omega)]
    rw [show max 0 e.f0 = e.f0 by omega, show max 0 e.f1 = e.f1 by omega, show max 0 e.f2 = e.f2 by omega, show max 0 e.f3 = e.f3 by omega, show max 0 e.f4 = e.f4 by omega]
theorem leV_one {b : List Int} (hb : Byt b) : 0 ≤ leV (b.take 1) ∧ leV (b.take 1) < 256 := by
  have h := leV_bound (byt_take hb 1)
  have : (256 : Int) ^ (b.take 1).length ≤ 256 ^ 1 := p256_mono (List.length_take_le ..)
  omega
theorem leV_two {b : List Int} (hb : Byt b) : 0 ≤ leV (b.take 2) ∧ leV (b.take 2) < 65536 := by
  have h := leV_bound (byt_take hb 2)
  have : (256 : Int) ^ (b.take 2).length ≤ 256 ^ 2 := p256_mono (List.length_take_le ..)
  omega
theorem takeE_ok : ∀ (n : Nat) (b : List Int), Byt b → ∀ e ∈ takeE b n, okE e
  | 0, _, _, e, h => by simp [takeE] at h
  | n + 1, b, hb, e, h => by
    simp only [takeE, List.mem_cons] at h
    rcases h with rfl | h
    · exact ⟨leV_two hb, leV_two (byt_drop hb _), leV_one (byt_drop hb _), leV_one (byt_drop hb _), leV_one (byt_drop hb _)⟩
    · exact takeE_ok n _ (byt_drop hb _) e h
theorem leB_leV_take {b : List Int} (hb : Byt b) {w : Nat} (h : w ≤ b.length) : leB w (leV (b.take w)) = b.take w := by
  have := leB_leV (byt_take hb w)
  rwa [show (b.take w).length = w by simp; omega] at this
theorem max_leV {b : List Int} (hb : Byt b) (w : Nat) : max 0 (leV (b.take w)) = leV (b.take w) := by
  have := (leV_bound (byt_take hb w)).1; omega
theorem exsB_takeE : ∀ (n : Nat) (b : List Int), Byt b → b.length = 7 * n → exsB (takeE b n) = b
  | 0, b, _, h => by obtain rfl := List.eq_nil_of_length_eq_zero (by omega); rfl
  | n + 1, b, hb, h => by
    have ih := exsB_takeE n (b.drop 7) (byt_drop hb _) (by simp; omega)
    rw [takeE, exsB_cons, ih]
    unfold exB
    simp only [max_leV hb, max_leV (byt_drop hb _)]
    rw [leB_leV_take hb (by omega), leB_leV_take (byt_drop hb 2) (by simp; omega), leB_leV_take (byt_drop hb 4) (by simp; omega), leB_leV_take (byt_drop hb 5) (by simp; omega), leB_leV_take (byt_drop hb 6) (by simp; omega)]
    have s6 : (b.drop 6).take 1 ++ b.drop 7 = b.drop 6 := by rw [show b.drop 7 = (b.drop 6).drop 1 by rw [List.drop_drop]]; exact List.take_append_drop 1 _
    have s5 : (b.drop 5).take 1 ++ b.drop 6 = b.drop 5 := by rw [show b.drop 6 = (b.drop 5).drop 1 by rw [List.drop_drop]]; exact List.take_append_drop 1 _
    have s4 : (b.drop 4).take 1 ++ b.drop 5 = b.drop 4 := by rw [show b.drop 5 = (b.drop 4).drop 1 by rw [List.drop_drop]]; exact List.take_append_drop 1 _
    have s2 : (b.drop 2).take 2 ++ b.drop 4 = b.drop 2 := by rw [show b.drop 4 = (b.drop 2).drop 2 by rw [List.drop_drop]]; exact List.take_append_drop 2 _
    have s0 : b.take 2 ++ b.drop 2 = b := List.take_append_drop 2 b
    rw [List.append_assoc, List.append_assoc, List.append_assoc, List.append_assoc, s6, s5, s4, s2, s0]
/-- The head's numbers of a record's bytes, as they were. -/
theorem head_packR {kind track a b : Int} {l : List S39} (h0 : 0 ≤ kind ∧ kind < 256) (h1 : 0 ≤ track ∧ track < 256) (h2 : 0 ≤ a ∧ a < 65536) (h3 : 0 ≤ b ∧ b < 65536) (h4 : l.length < 65536) :
    takeR (packR kind track a b l) [1, 1, 2, 2, 2] = ([kind, track, a, b, (l.length : Int)], true) ∧ (packR kind track a b l).drop 8 = exsB l := by
  have l2 := leB_length 2
  have l1 := leB_length 1
  have hl := packR_length kind track a b l
  have e0 : (packR kind track a b l).take 1 = leB 1 (max 0 kind) := by unfold packR; rw [take_app (l1 _)]
  have d0 : (packR kind track a b l).drop 1 = leB 1 (max 0 track) ++ (leB 2 (max 0 a) ++ (leB 2 (max 0 b) ++ (leB 2 (l.length : Int) ++ exsB l))) := by unfold packR; rw [drop_app (l1 _)]
  have d1 : (packR kind track a b l).drop 2 = leB 2 (max 0 a) ++ (leB 2 (max 0 b) ++ (leB 2 (l.length : Int) ++ exsB l)) := by rw [show 2 = 1 + 1 from rfl, ← List.drop_drop, d0, drop_app (l1 _)]
  have d2 : (packR kind track a b l).drop 4 = leB 2 (max 0 b) ++ (leB 2 (l.length : Int) ++ exsB l) := by rw [show 4 = 2 + 2 from rfl, ← List.drop_drop, d1, drop_app (l2 _)]
  have d3 : (packR kind track a b l).drop 6 = leB 2 (l.length : Int) ++ exsB l := by rw [show 6 = 4 + 2 from rfl, ← List.drop_drop, d2, drop_app (l2 _)]
  have d4 : (packR kind track a b l).drop 8 = exsB l := by rw [show 8 = 6 + 2 from rfl, ← List.drop_drop, d3, drop_app (l2 _)]
  refine ⟨?_, d4⟩
  unfold takeR
  rw [takeL_head (by omega), e0, d0, d1, d2, d3, take_app (l1 _), take_app (l2 _), take_app (l2 _), take_app (l2 _)]
  rw [leV_leB_small (by omega) (by simp; omega), leV_leB_small (by omega) (by simp; omega), leV_leB_small (by omega) (by simp; omega), leV_leB_small (by omega) (by simp; omega), leV_leB_small (by omega) (by simp; omega)]
  rw [show max 0 kind = kind by omega, show max 0 track = track by omega, show max 0 a = a by omega, show max 0 b = b by omega]

theorem rdT_app (pre : List S39) (x : S39) (post : List S39) : rd_T39 (pre ++ x :: post) (pre.length : Int) = x := by
  unfold rd_T39; rw [Int.toNat_natCast, getD_app]
theorem rdT_get {l : List S39} {i : Nat} (h : i < l.length) : rd_T39 l (i : Int) = l[i] := by
  unfold rd_T39; simp [List.getD_eq_getElem?_getD, List.getElem?_eq_getElem h]

theorem one_spec {e : S39} (h : numE e) : piece_One.f e.f0 e.f1 e.f2 e.f3 e.f4 = some (oneE e) := by
  obtain ⟨h0, h1, h2, h3, h4⟩ := h
  unfold piece_One.f oneE
  by_cases c1 : e.f1 ≥ 1
  · rw [if_pos c1]
    by_cases c2 : e.f1 < 4096
    · rw [if_pos c2]
      by_cases c3 : e.f2 ≤ 64
      · rw [if_pos c3]
        by_cases c4 : e.f3 ≥ 0
        · rw [if_pos c4]
          by_cases c5 : e.f3 < e.f2
          · rw [if_pos c5]
            by_cases c6 : e.f4 ≥ 1
            · rw [if_pos c6, w64 (by omega) (by omega)]
              congr 1
              rw [decide_eq_decide]
              omega
            · rw [if_neg c6]; congr 1; symm; simp; omega
          · rw [if_neg c5]; congr 1; symm; simp; omega
        · rw [if_neg c4]; congr 1; symm; simp; omega
      · rw [if_neg c3]; congr 1; symm; simp; omega
    · rw [if_neg c2]; congr 1; symm; simp; omega
  · rw [if_neg c1]; congr 1; symm; simp; omega

theorem valid_l0 (d : Nat) : ∀ (pre post : List S39) (n : Int), post.length = d → (pre ++ post).length < 9223372036854775807 → (∀ e ∈ post, numE e) → 0 ≤ n → n ≤ 1000 →
    Ev (fun k => piece_Valid.l0 k n (pre ++ post) ((pre ++ post).length : Int) (pre.length : Int)) (vRow n post) := by
  induction d with
  | zero =>
    intro pre post n h _ _ _ _
    obtain rfl := List.eq_nil_of_length_eq_zero h
    refine Ev.step (f := fun _ => some true) (fun k => ?_) (ev_some _)
    simp only [piece_Valid.l0]
    rw [if_neg (by simp)]
  | succ d ih =>
    intro pre post n h hm hw h0 h1
    obtain ⟨x, post, rfl⟩ : ∃ x p, post = x :: p := by cases post with | nil => simp at h | cons x p => exact ⟨x, p, rfl⟩
    have hm' : pre.length + (post.length + 1) < 9223372036854775807 := by simpa using hm
    have h' : post.length = d := by simpa using h
    have hlt : (pre.length : Int) < ((pre ++ x :: post).length : Int) := by simp; omega
    have hx := hw x (List.mem_cons_self ..)
    have one := one_spec hx
    have step : ∀ (r : Bool) (c : oneE x = true ∧ x.f0 = n ∧ x.f4 ≤ 1000 - n) , Ev (fun k => piece_Valid.l0 k (n + x.f4) (pre ++ x :: post) ((pre ++ x :: post).length : Int) ((pre.length : Int) + 1)) (vRow (n + x.f4) post) := by
      intro r c
      have ho : 1 ≤ x.f4 := by
        have := c.1; simp only [oneE, decide_eq_true_eq] at this; omega
      have ih := ih (pre ++ [x]) post (n + x.f4) h' (by simp; omega) (fun e he => hw e (List.mem_cons_of_mem _ he)) (by omega) (by omega)
      rwa [List.append_assoc, List.singleton_append, show ((pre ++ [x]).length : Int) = (pre.length : Int) + 1 by simp] at ih
    by_cases c1 : oneE x = true
    · by_cases c2 : x.f0 = n
      · by_cases c3 : x.f4 ≤ 1000 - n
        · refine Ev.step (fun k => ?_) (show Ev _ (vRow n (x :: post)) from by
            have := step true ⟨c1, c2, c3⟩
            rwa [show vRow n (x :: post) = vRow (n + x.f4) post by simp [vRow, c1, c2, c3]])
          have ho : 1 ≤ x.f4 := by
            have := c1; simp only [oneE, decide_eq_true_eq] at this; omega
          simp only [piece_Valid.l0]
          rw [if_pos hlt, if_pos (by omega), if_pos hlt, rdT_app, one, Option.bind_some, if_pos c1, if_pos c2, w64 (x := 1000 - n) (by omega) (by omega), if_neg (by omega), w64 (by omega) (by omega), w64 (by omega) (by omega)]
        · refine Ev.step (f := fun _ => some (vRow n (x :: post))) (fun k => ?_) (ev_some _)
          simp only [piece_Valid.l0]
          rw [if_pos hlt, if_pos (by omega), if_pos hlt, rdT_app, one, Option.bind_some, if_pos c1, if_pos c2, w64 (x := 1000 - n) (by omega) (by omega), if_pos (by omega)]
          simp [vRow, c3]
      · refine Ev.step (f := fun _ => some (vRow n (x :: post))) (fun k => ?_) (ev_some _)
        simp only [piece_Valid.l0]
        rw [if_pos hlt, if_pos (by omega), if_pos hlt, rdT_app, one, Option.bind_some, if_pos c1, if_neg c2]
        simp [vRow, c2]
    · refine Ev.step (f := fun _ => some (vRow n (x :: post))) (fun k => ?_) (ev_some _)
      simp only [piece_Valid.l0]
      rw [if_pos hlt, if_pos (by omega), if_pos hlt, rdT_app, one, Option.bind_some, if_neg c1]
      simp [vRow, c1]
theorem pvalid_ev {l : List S39} (hl : l.length < 9223372036854775807) (hw : ∀ e ∈ l, numE e) : Ev (fun k => piece_Valid.f k l) (vRow 0 l) := by
  have h := valid_l0 l.length [] l 0 rfl (by simpa using hl) hw (by omega) (by omega)
  simp only [List.nil_append, List.length_nil] at h
  exact Ev.congr (fun k => by unfold piece_Valid.f; rfl) h

theorem rvalid_ev {kind track a b : Int} {l : List S39} (hl : l.length < 9223372036854775807) (hw : ∀ e ∈ l, numE e) : Ev (fun k => record_Valid.f k kind track a b l) (validR kind track a b l) := by
  have hv := pvalid_ev hl hw
  have j3 : ∀ x3 x4 : Bool, x4 = decide (0 ≤ track ∧ track ≤ 99) → kind ≠ 1 → kind ≠ 2 → Ev (fun k => record_Valid.j3 k x3 x4 kind (decide (kind = 4 ∨ kind = 5)) kind track a b l) (if kind = 4 ∨ kind = 5 then x3 && decide (track = 0) else if kind = 3 then decide (0 ≤ track ∧ track ≤ 99) && (decide (0 ≤ a ∧ a ≤ b ∧ b ≤ 1000) && vRow 0 l) else false) := by
    intro x3 x4 h4 h1 h2
    refine Ev.step (fun k => by simp only [record_Valid.j3]; rfl) ?_
    by_cases c : kind = 4 ∨ kind = 5
    · rw [decide_eq_true c, if_pos c]
      cases x3
      · simpa using ev_some _
      · simp only [if_true, Bool.true_and]
        have e : (track == 0) = decide (track = 0) := rfl
        rw [e]; exact ev_some _
    · rw [decide_eq_false c, if_neg c]
      simp only [if_neg (show ¬ (false = true) by decide)]
      by_cases c3 : kind = 3
      · simp only [if_pos c3]
        subst h4
        by_cases ct : 0 ≤ track ∧ track ≤ 99
        · by_cases ca : a ≥ 0
          · by_cases cb : a ≤ b
            · by_cases cc : b ≤ 1000
              · simp only [decide_eq_true ct, if_true, if_pos ca, if_pos cb, if_pos cc]
                have hz : decide (0 ≤ a ∧ a ≤ b ∧ b ≤ 1000) = true := by simp; omega
                rw [hz]; simp only [Bool.true_and]
                exact Ev.bind hv (ev_some _)
              · simp only [decide_eq_true ct, if_true, if_pos ca, if_pos cb, if_neg cc]
                have hz : decide (0 ≤ a ∧ a ≤ b ∧ b ≤ 1000) = false := by simp; omega
                rw [hz]; exact ev_some _
            · simp only [decide_eq_true ct, if_true, if_pos ca, if_neg cb]
              have hz : decide (0 ≤ a ∧ a ≤ b ∧ b ≤ 1000) = false := by simp; omega
              rw [hz]; exact ev_some _
          · simp only [decide_eq_true ct, if_true, if_neg ca]
            have hz : decide (0 ≤ a ∧ a ≤ b ∧ b ≤ 1000) = false := by simp; omega
            rw [hz]; exact ev_some _
        · simp only [decide_eq_false ct, if_neg (show ¬ (false = true) by decide)]
          exact ev_some _
      · simp only [if_neg c3]; exact ev_some _
  have j2 : ∀ x3 x4 : Bool, x3 = noneR a b l → x4 = decide (0 ≤ track ∧ track ≤ 99) → Ev (fun k => record_Valid.j2 k x3 x4 kind (decide (kind = 1 ∨ kind = 2)) kind track a b l) (validR kind track a b l) := by
    intro x3 x4 h3 h4
    refine Ev.step (fun k => by simp only [record_Valid.j2]; rfl) ?_
    unfold validR
    by_cases c : kind = 1 ∨ kind = 2
    · rw [decide_eq_true c, if_pos c]
      subst h3; subst h4
      cases noneR a b l
      · simpa using ev_some _
      · simpa using ev_some _
    · rw [decide_eq_false c, if_neg c]
      have h := j3 x3 x4 h4 (by omega) (by omega)
      simp only [if_neg (show ¬ (false = true) by decide)]
      rw [← h3]
      by_cases c4 : kind = 4
      · simp only [if_pos c4]
        rwa [show decide (kind = 4 ∨ kind = 5) = (kind == 4) by rw [c4]; rfl] at h
      · simp only [if_neg c4]
        rwa [show decide (kind = 4 ∨ kind = 5) = (kind == 5) by
          rw [show (kind == 5) = decide (kind = 5) from rfl, decide_eq_decide]; omega] at h
  have j1 : ∀ x3 x4 : Bool, x3 = noneR a b l → x4 = decide (0 ≤ track ∧ track ≤ 99) → Ev (fun k => record_Valid.j1 k x3 x4 kind track a b l) (validR kind track a b l) := by
    intro x3 x4 h3 h4
    refine Ev.step (fun k => by simp only [record_Valid.j1]; rfl) ?_
    have h := j2 x3 x4 h3 h4
    by_cases c : kind = 1
    · simp only [if_pos c]
      rwa [show decide (kind = 1 ∨ kind = 2) = (kind == 1) by rw [c]; rfl] at h
    · simp only [if_neg c]
      rwa [show decide (kind = 1 ∨ kind = 2) = (kind == 2) by
        rw [show (kind == 2) = decide (kind = 2) from rfl, decide_eq_decide]; omega] at h
  have j0 : ∀ x3 : Bool, x3 = noneR a b l → Ev (fun k => record_Valid.j0 k x3 kind track a b l) (validR kind track a b l) := by
    intro x3 h3
    refine Ev.step (fun k => by simp only [record_Valid.j0]; rfl) ?_
    by_cases c : track ≥ 0
    · simp only [if_pos c]
      exact j1 x3 _ h3 (by rw [decide_eq_decide]; omega)
    · simp only [if_neg c]
      exact j1 x3 _ h3 (by simp; omega)
  unfold record_Valid.f
  by_cases ca : a = 0
  · by_cases cb : b = 0
    · simp only [if_pos ca, if_pos cb]
      exact j0 _ (by unfold noneR; rw [show ((l.length : Int) == 0) = decide ((l.length : Int) = 0) from rfl]; simp [ca, cb])
    · simp only [if_pos ca, if_neg cb]
      exact j0 _ (by unfold noneR; simp [cb])
  · simp only [if_neg ca]
    exact j0 _ (by unfold noneR; simp [ca])

theorem exts_l0 (d : Nat) : ∀ (pre post : List S39) (out : List Int), post.length = d → (pre ++ post).length < 1000000 → out.length = 7 * pre.length → (∀ e ∈ post, numE e) →
    Ev (fun k => record_Extents.l0 k out (pre ++ post) ((pre ++ post).length : Int) (pre.length : Int)) (out ++ exsB post) := by
  induction d with
  | zero =>
    intro pre post out h _ _ _
    obtain rfl := List.eq_nil_of_length_eq_zero h
    refine Ev.step (f := fun _ => some (out ++ exsB [])) (fun k => ?_) (ev_some _)
    simp only [record_Extents.l0]
    rw [if_neg (by simp)]; simp [exsB]
  | succ d ih =>
    intro pre post out h hm ho hw
    obtain ⟨x, post, rfl⟩ : ∃ x p, post = x :: p := by cases post with | nil => simp at h | cons x p => exact ⟨x, p, rfl⟩
    have hm' : pre.length + (post.length + 1) < 1000000 := by simpa using hm
    have h' : post.length = d := by simpa using h
    have hlt : (pre.length : Int) < ((pre ++ x :: post).length : Int) := by simp; omega
    obtain ⟨n0, n1, n2, n3, n4⟩ := hw x (List.mem_cons_self ..)
    have ih := ih (pre ++ [x]) post (out ++ exB x) h' (by simp; omega) (by simp [exB_length]; omega) (fun e he => hw e (List.mem_cons_of_mem _ he))
    rw [List.append_assoc, List.singleton_append, show ((pre ++ [x]).length : Int) = (pre.length : Int) + 1 by simp, List.append_assoc out, ← exsB_cons] at ih
    refine Ev.step (fun k => by simp only [record_Extents.l0]; rfl) ?_
    rw [rdT_app, w64 (by omega) (by omega)]
    simp only [if_pos hlt, if_pos (show (0 : Int) ≤ (pre.length : Int) by omega)]
    refine Ev.bind (put_ev n0.1 n0.2 2) (Ev.bind (put_ev n1.1 n1.2 2) (Ev.bind (put_ev n2.1 n2.2 1) (Ev.bind (put_ev n3.1 n3.2 1) (Ev.bind (put_ev n4.1 n4.2 1) ?_))))
    have e2 : (max 0 (min 2 8) : Int).toNat = 2 := by decide
    have e1 : (max 0 (min 1 8) : Int).toNat = 1 := by decide
    rw [e2, e1]
    refine Ev.bind (join_ev _ (by simp) (by simp [leB_length])) ?_
    have ej : ([leB 2 (max 0 x.f0), leB 2 (max 0 x.f1), leB 1 (max 0 x.f2), leB 1 (max 0 x.f3), leB 1 (max 0 x.f4)] : List (List Int)).flatten = exB x := by simp [exB]
    rw [ej]
    simp only [if_pos (show out.length + (exB x).length < 140737488355328 by rw [exB_length]; omega)]
    exact ih
theorem exts_ev {l : List S39} (hl : l.length < 1000000) (hw : ∀ e ∈ l, numE e) : Ev (fun k => record_Extents.f k l) (exsB l) := by
  have h := exts_l0 l.length [] l [] rfl (by simpa using hl) rfl hw
  simp only [List.nil_append, List.length_nil] at h
  exact Ev.congr (fun k => by unfold record_Extents.f; rfl) h

theorem pack_no {kind track a b : Int} {l : List S39} (hl : l.length < 9223372036854775807) (hw : ∀ e ∈ l, numE e) (h : validR kind track a b l = false) : Ev (fun k => record_Pack.f k kind track a b l) ([], 1) := by
  have hv := rvalid_ev (kind := kind) (track := track) (a := a) (b := b) hl hw
  rw [h] at hv
  unfold record_Pack.f
  refine Ev.bind hv ?_
  simp only [if_neg (show ¬ (false = true) by decide)]
  exact ev_some _
theorem pack_yes {kind track a b : Int} {l : List S39} (h : validR kind track a b l = true) : Ev (fun k => record_Pack.f k kind track a b l) (packR kind track a b l, 0) := by
  obtain ⟨k0, k1, t0, t1, a0, a1, b0, b1, ho, hl⟩ := validR_facts h
  have hw : ∀ e ∈ l, numE e := fun e he => okE_num (ho e he)
  have hv := rvalid_ev (kind := kind) (track := track) (a := a) (b := b) (show l.length < 9223372036854775807 by omega) hw
  rw [h] at hv
  unfold record_Pack.f
  refine Ev.bind hv ?_
  simp only [if_true]
  refine Ev.bind (put_ev (by omega) (by omega) 1) (Ev.bind (put_ev (by omega) (by omega) 1) (Ev.bind (put_ev (by omega) (by omega) 2) (Ev.bind (put_ev (by omega) (by omega) 2) (Ev.bind (put_ev (n := (l.length : Int)) (by omega) (by omega) 2) (Ev.bind (exts_ev (by omega) hw) ?_)))))
  have e2 : (max 0 (min 2 8) : Int).toNat = 2 := by decide
  have e1 : (max 0 (min 1 8) : Int).toNat = 1 := by decide
  rw [e2, e1, show max 0 (l.length : Int) = (l.length : Int) by omega]
  refine Ev.bind (join_ev _ (by simp) (by simp [leB_length, exsB_length]; omega)) ?_
  have ej : ([leB 1 (max 0 kind), leB 1 (max 0 track), leB 2 (max 0 a), leB 2 (max 0 b), leB 2 (l.length : Int), exsB l] : List (List Int)).flatten = packR kind track a b l := by simp [packR]
  rw [ej]
  exact ev_some _

theorem same_ext_l0 (x y : List S39) (hl : x.length = y.length) (hm : x.length < 9223372036854775807) (d : Nat) : ∀ i : Nat, i + d = x.length →
    ∃ r, Ev (fun k => api_Extent_24.l0 k x y (i : Int)) r ∧ (r = true ↔ x.drop i = y.drop i) := by
  induction d with
  | zero =>
    intro i h
    refine ⟨true, Ev.step (f := fun _ => some true) (fun k => ?_) (ev_some _), ?_⟩
    · simp only [api_Extent_24.l0]
      rw [if_neg (by omega)]
    · rw [List.drop_of_length_le (by omega), List.drop_of_length_le (by omega)]; simp
  | succ d ih =>
    intro i h
    obtain ⟨r, hr, hri⟩ := ih (i + 1) (by omega)
    have e : rd_T39 x (i : Int) = x[i]'(by omega) := rdT_get (by omega)
    have e' : rd_T39 y (i : Int) = y[i]'(by omega) := rdT_get (by omega)
    have hd : x.drop i = y.drop i ↔ (x[i]'(by omega)) = (y[i]'(by omega)) ∧ x.drop (i + 1) = y.drop (i + 1) := by
      rw [List.drop_eq_getElem_cons (show i < x.length by omega), List.drop_eq_getElem_cons (show i < y.length by omega), List.cons.injEq]
    generalize hu : (x[i]'(by omega)) = u at *
    generalize hv : (y[i]'(by omega)) = v at *
    by_cases hxy : u = v
    · refine ⟨r, Ev.step (fun k => ?_) hr, by rw [hd, hri]; simp [hxy]⟩
      simp only [api_Extent_24.l0]
      rw [if_pos (by omega), if_pos (by omega), if_pos (by omega), e, e', hxy, if_neg (by simp), w64 (by omega) (by omega)]
      rfl
    · refine ⟨false, Ev.step (f := fun _ => some false) (fun k => ?_) (ev_some _), by rw [hd]; simp [hxy]⟩
      simp only [api_Extent_24.l0]
      rw [if_pos (by omega), if_pos (by omega), if_pos (by omega), e, e', if_pos]
      rcases u with ⟨p0, p1, p2, p3, p4⟩
      rcases v with ⟨q0, q1, q2, q3, q4⟩
      simp only [S39.mk.injEq] at hxy
      by_cases a0 : p0 = q0 <;> by_cases a1 : p1 = q1 <;> by_cases a2 : p2 = q2 <;> by_cases a3 : p3 = q3 <;> by_cases a4 : p4 = q4 <;> simp_all
theorem same_ext_ev (x y : List S39) (hm : x.length < 9223372036854775807) : ∃ r, Ev (fun k => api_Extent_24.f k x y) r ∧ (r = true ↔ x = y) := by
  by_cases hl : x.length = y.length
  · obtain ⟨r, hr, hi⟩ := same_ext_l0 x y hl hm x.length 0 (by omega)
    refine ⟨r, Ev.congr (fun k => ?_) hr, by simpa using hi⟩
    unfold api_Extent_24.f
    rw [if_pos (by omega)]; rfl
  · refine ⟨false, ev_now (fun k => ?_), ?_⟩
    · unfold api_Extent_24.f
      rw [if_neg (by omega)]
    · constructor
      · intro h; cases h
      · intro h; exact absurd (by rw [h]) hl

theorem same_rec_ev (a0 a1 a2 a3 b0 b1 b2 b3 : Int) (x y : List S39) (hm : x.length < 9223372036854775807) : ∃ r, Ev (fun k => overdubkeep_Record.f k a0 a1 a2 a3 x b0 b1 b2 b3 y) r ∧ (r = true ↔ a0 = b0 ∧ a1 = b1 ∧ a2 = b2 ∧ a3 = b3 ∧ x = y) := by
  obtain ⟨r, hr, hi⟩ := same_ext_ev x y hm
  unfold overdubkeep_Record.f
  by_cases c0 : a0 = b0
  · by_cases c1 : a1 = b1
    · by_cases c2 : a2 = b2
      · by_cases c3 : a3 = b3
        · refine ⟨r, ?_, by rw [hi]; simp [c0, c1, c2, c3]⟩
          simp only [if_pos c0, if_pos c1, if_pos c2, if_pos c3]
          exact Ev.bind hr (ev_some _)
        · exact ⟨false, by simp only [if_pos c0, if_pos c1, if_pos c2, if_neg c3]; exact ev_some _, by simp [c3]⟩
      · exact ⟨false, by simp only [if_pos c0, if_pos c1, if_neg c2]; exact ev_some _, by simp [c2]⟩
    · exact ⟨false, by simp only [if_pos c0, if_neg c1]; exact ev_some _, by simp [c1]⟩
  · exact ⟨false, by simp only [if_neg c0]; exact ev_some _, by simp [c0]⟩

theorem wakes16 : Ev (fun k => overdublaw16_wakes.f k) true := by
  unfold overdublaw16_wakes.f
  have h := pack_yes (kind := 4) (track := 0) (a := 0) (b := 0) (l := []) (by decide)
  refine Ev.bind h ?_
  rw [packR_length]
  simp only [if_true]
  exact ev_some _

end Go.Proofs.Ytalhmpmdfjofbaa.QA
