import Derived.Test.YtaiaackeljlbfaaZHA
set_option linter.unusedVariables false
set_option linter.unusedSimpArgs false
set_option maxRecDepth 10000
namespace Go.Proofs.Ytaiaackeljlbfaa.Am
open Go Go.RowKit Go.Proofs
structure Ce where
  lf : Int
  nu : Int
  pt : Int
  ps : Int
  dt : List Int
instance : Inhabited Ce := ⟨⟨0, 0, 0, 0, []⟩⟩
def eC (c : Ce) : D := .agg [.v (.int .i64 c.lf), .v (.int .i64 c.nu), .v (.int .i64 c.pt), .v (.int .i64 c.ps), .list (c.dt.map mB)]
def isMine (life num : Int) (c : Ce) : Bool := decide (c.lf = life) && decide (c.nu = num)
def mine (life num : Int) (l : List Ce) : List Ce := l.filter (isMine life num)
def pick (m : List Ce) (i : Int) : Option (List Int) := (m.find? fun c => decide (c.pt = i)).map (·.dt)
def gath (m : List Ce) : Nat → Option (List Int)
  | 0 => some []
  | n + 1 => match gath m n with
    | none => none
    | some b => (pick m n).map (b ++ ·)
def pz : List Ce → Int
  | [] => 0
  | c :: _ => c.ps
def goodM (m : List Ce) : Prop := ∀ c ∈ m, c.ps = pz m ∧ 1 ≤ pz m ∧ pz m ≤ 64
instance (m : List Ce) : Decidable (goodM m) := by unfold goodM; infer_instance
def joinL (life num : Int) (l : List Ce) : Option (List Int) :=
  if mine life num l = [] then none else if goodM (mine life num l) then gath (mine life num l) (pz (mine life num l)).toNat else none
where
  dec : DecidableEq Ce := fun a b => decidable_of_iff (a.lf = b.lf ∧ a.nu = b.nu ∧ a.pt = b.pt ∧ a.ps = b.ps ∧ a.dt = b.dt) (by cases a; cases b; simp)
theorem nth_C (l : List Ce) (k : Nat) (h : k < l.length) : nth (l.map eC) k = eC (l.getD k default) := by
  simp [nth, List.getD_eq_getElem?_getD, h]
theorem all_C (l : List Ce) : (∀ d ∈ l.map eC, d.cells.length = 5) = True := by
  simp only [eq_iff_iff, iff_true]
  intro d hd
  obtain ⟨z, _, rfl⟩ := List.mem_map.1 hd
  rfl
theorem eC_inj {a b : Ce} (h : eC a = eC b) : a = b := by
  cases a; cases b
  simp only [eC, D.agg.injEq, List.cons.injEq, D.v.injEq, Value.int.injEq, true_and, and_true, D.list.injEq, mB_inj] at h
  obtain ⟨rfl, rfl, rfl, rfl, rfl⟩ := h
  rfl
theorem Cm_inj (l m : List Ce) : (l.map eC = m.map eC) = (l = m) := list_map_inj eC (fun a b h => eC_inj h) l m
theorem mine_take {life num : Int} {l : List Ce} {k : Nat} (h : k < l.length) : mine life num (l.take (k + 1)) = mine life num (l.take k) ++ (if isMine life num (l.getD k default) = true then [l.getD k default] else []) := by
  unfold mine
  rw [List.take_succ_eq_append_getElem h, List.filter_append, List.getD_eq_getElem?_getD, List.getElem?_eq_getElem h]
  congr 1
  simp only [Option.getD_some, List.filter_cons, List.filter_nil]
theorem mine_all (life num : Int) (l : List Ce) (k : Nat) : ∃ r, mine life num l = mine life num (l.take k) ++ r := ⟨(l.drop k).filter (isMine life num), by unfold mine; rw [← List.filter_append, List.take_append_drop]⟩
theorem pz_append {m r : List Ce} (h : m ≠ []) : pz (m ++ r) = pz m := by cases m with | nil => exact absurd rfl h | cons a s => rfl
theorem goodM_left {m r : List Ce} (h : goodM (m ++ r)) : goodM m := by
  intro c hc
  have h0 : m ≠ [] := List.ne_nil_of_mem hc
  have := h c (List.mem_append_left _ hc)
  rwa [pz_append h0] at this
theorem joinL_bad {life num : Int} {l : List Ce} {k : Nat} (h : ¬ goodM (mine life num (l.take k))) : joinL life num l = none := by
  obtain ⟨r, hr⟩ := mine_all life num l k
  have hn : ¬ goodM (mine life num l) := fun hg => h (goodM_left (hr ▸ hg))
  unfold joinL
  simp [hn]
theorem pick_snoc (m : List Ce) (c : Ce) (i : Int) : pick (m ++ [c]) i = match pick m i with | some b => some b | none => if c.pt = i then some c.dt else none := by
  unfold pick
  rw [List.find?_append]
  cases h : m.find? fun c => decide (c.pt = i) with
  | some a => simp
  | none =>
    simp only [Option.none_or, List.find?_cons, List.find?_nil, Option.map_none]
    by_cases e : c.pt = i <;> simp [e]
def lk (i : Int) : List (Int × List Int) → Option (List Int)
  | [] => none
  | (a, b) :: r => if a = i then some b else lk i r
def mpD (H : List (Int × List Int)) : List (Int × D) := H.map fun p => (p.1, .list (p.2.map mB))
theorem findM_mpD (i : Int) : ∀ H : List (Int × List Int), findM i (mpD H) = (lk i H).map fun b => .list (b.map mB)
  | [] => rfl
  | (a, b) :: r => by
    have ih := findM_mpD i r
    simp only [mpD, List.map_cons, findM, lk] at ih ⊢
    split
    · rfl
    · exact ih
theorem lk_snoc (i a : Int) (b : List Int) : ∀ H : List (Int × List Int), lk i (H ++ [(a, b)]) = match lk i H with | some x => some x | none => if a = i then some b else none
  | [] => rfl
  | (a', b') :: r => by
    simp only [List.cons_append, lk]
    split
    · rfl
    · exact lk_snoc i a b r
theorem mpD_snoc (H : List (Int × List Int)) (a : Int) (b : List Int) : mpD H ++ [(a, D.list (b.map mB))] = mpD (H ++ [(a, b)]) := by simp [mpD]
theorem gath_len {m : List Ce} {B : Nat} (hB : ∀ c ∈ m, c.dt.length ≤ B) : ∀ (n : Nat) (b : List Int), gath m n = some b → b.length ≤ n * B
  | 0, b, h => by simp only [gath, Option.some.injEq] at h; subst h; simp
  | n + 1, b, h => by
    simp only [gath] at h
    split at h
    · cases h
    · rename_i x hx
      obtain ⟨y, hy, rfl⟩ := Option.map_eq_some_iff.1 h
      have h1 := gath_len hB n x hx
      unfold pick at hy
      obtain ⟨c, hc, rfl⟩ := Option.map_eq_some_iff.1 hy
      have h2 := hB c (List.mem_of_find?_eq_some hc)
      rw [List.length_append, Nat.add_mul, Nat.one_mul]
      omega
theorem gath_none {m : List Ce} {k n : Nat} (hk : k ≤ n) (h : gath m k = none) : gath m n = none := by
  induction n with
  | zero => obtain rfl : k = 0 := by omega
            exact h
  | succ n ih =>
    rcases Nat.lt_or_ge k (n + 1) with h1 | h1
    · simp only [gath, ih (by omega)]
    · obtain rfl : k = n + 1 := by omega
      exact h
theorem parts_le : ∀ (n : Nat) (m : List Ce), (∀ i : Nat, i < n → ∃ c ∈ m, c.pt = (i : Int)) → n ≤ m.length
  | 0, m, _ => Nat.zero_le _
  | n + 1, m, h => by
    obtain ⟨c, hc, hcp⟩ := h n (by omega)
    have ih := parts_le n (m.filter fun x => decide (x.pt ≠ (n : Int))) fun i hi => by
      obtain ⟨x, hx, hxp⟩ := h i (by omega)
      exact ⟨x, List.mem_filter.2 ⟨hx, by simp [hxp]; omega⟩, hxp⟩
    have hlt : (m.filter fun x => decide (x.pt ≠ (n : Int))).length < m.length := by
      rw [List.length_filter_lt_length_iff_exists]
      exact ⟨c, hc, by simp [hcp]⟩
    omega
theorem gath_pick {m : List Ce} : ∀ (n : Nat) (b : List Int), gath m n = some b → ∀ i : Nat, i < n → ∃ c ∈ m, c.pt = (i : Int)
  | 0, b, h, i, hi => by omega
  | n + 1, b, h, i, hi => by
    simp only [gath] at h
    split at h
    · cases h
    · rename_i x hx
      obtain ⟨y, hy, rfl⟩ := Option.map_eq_some_iff.1 h
      rcases Nat.lt_or_ge i n with h1 | h1
      · exact gath_pick n x hx i h1
      · obtain rfl : i = n := by omega
        unfold pick at hy
        obtain ⟨c, hc, rfl⟩ := Option.map_eq_some_iff.1 hy
        exact ⟨c, List.mem_of_find?_eq_some hc, by simpa using List.find?_some hc⟩
end Go.Proofs.Ytaiaackeljlbfaa.Am
