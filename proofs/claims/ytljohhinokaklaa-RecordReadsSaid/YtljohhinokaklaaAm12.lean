/- The abstract machine, part 12: regions whose order is open. -/
import Derived.Test.YtljohhinokaklaaAm11
import Derived.Orders
set_option linter.unusedVariables false
set_option linter.unusedSimpArgs false
namespace Go.Proofs.Ytljohhinokaklaa.Am
open Go Go.RowKit

def ifc {α : Type} (b : Bool) (u h : List α) : List α :=
  match u with
  | [] => h
  | p :: r => if b = true then p :: ifc b r h else ifc b r h
theorem ifc_true {α : Type} (u h : List α) : ifc true u h = u ++ h := by
  induction u with
  | nil => rfl
  | cons p r ih => simp [ifc, ih]
theorem ifc_false {α : Type} (u h : List α) : ifc false u h = h := by
  induction u with
  | nil => rfl
  | cons p r ih => simp [ifc, ih]
def dl (d : Option Tmp) (x : V) : List (Nat × V) := match d with | some k => [(k, x)] | none => []
/-- A delta that has come, or has not. -/
def St.updIf (st : St) (b : Bool) (d : Option Tmp) (x : V) (u : List (Nat × Ob)) : St := { tm := ifc b (dl d x) st.tm, hp := ifc b u st.hp, nt := st.nt }
theorem updIf_true (st : St) (d : Option Tmp) (x : V) (u : List (Nat × Ob)) : st.updIf true d x u = st.upd d x u := by
  cases d <;> simp [St.updIf, St.upd, St.put, ifc_true, dl]
theorem updIf_false (st : St) (d : Option Tmp) (x : V) (u : List (Nat × Ob)) : st.updIf false d x u = st := by
  simp [St.updIf, ifc_false]
/-- The state in which those operations have come that m tells. -/
def Sg (m : Nat → Bool) : Nat → List Oper → List (V × List (Nat × Ob)) → St → St
  | i, o :: os, (x, u) :: ds, st => Sg m (i + 1) os ds (st.updIf (m i) o.dst x u)
  | _, _, _, st => st
theorem Sg_congr {m m' : Nat → Bool} : ∀ (os : List Oper) (ds : List (V × List (Nat × Ob))) (i : Nat) (st : St), (∀ j, i ≤ j → j < i + os.length → m j = m' j) → Sg m i os ds st = Sg m' i os ds st
  | [], _, _, _, _ => by simp [Sg]
  | o :: os, [], _, _, _ => by simp [Sg]
  | o :: os, (x, u) :: ds, i, st, h => by
    simp only [Sg]
    rw [h i (Nat.le_refl _) (by simp), Sg_congr os ds (i + 1) _ fun j h1 h2 => h j (by omega) (by simp only [List.length_cons]; omega)]
theorem Sg_nt {m : Nat → Bool} : ∀ (os : List Oper) (ds : List (V × List (Nat × Ob))) (i : Nat) (st : St), (Sg m i os ds st).nt = st.nt
  | [], _, _, _ => by simp [Sg]
  | o :: os, [], _, _ => by simp [Sg]
  | o :: os, (x, u) :: ds, i, st => by simp only [Sg]; rw [Sg_nt os ds]; rfl
theorem Sg_all : ∀ (os : List Oper) (ds : List (V × List (Nat × Ob))) (i : Nat) (st : St), Sg (fun _ => false) i os ds st = st
  | [], _, _, _ => by simp [Sg]
  | o :: os, [], _, _ => by simp [Sg]
  | o :: os, (x, u) :: ds, i, st => by simp only [Sg, updIf_false]; exact Sg_all os ds _ _
/-- st1 is st0 with one delta more, in front. -/
def Over (d : Option Tmp) (x : V) (u : List (Nat × Ob)) (st0 st1 : St) : Prop :=
  (∀ k, gt st1.tm k = if some k = d then x else gt st0.tm k) ∧ (∀ k, go st1.hp k = match go u k with | some o => some o | none => go st0.hp k) ∧ st1.nt = st0.nt
theorem gt_dl (d : Option Tmp) (x : V) (l : List (Nat × V)) (k : Nat) : gt (dl d x ++ l) k = if some k = d then x else gt l k := by
  cases d with
  | none => simp [dl]
  | some j => simp only [dl, List.singleton_append, gt]; by_cases h : k = j <;> simp [h]
theorem Over.upd (st : St) (d : Option Tmp) (x : V) (u : List (Nat × Ob)) : Over d x u st (st.updIf true d x u) := by
  refine ⟨fun k => ?_, fun k => ?_, rfl⟩
  · simp only [St.updIf, ifc_true]
    exact gt_dl d x st.tm k
  · simp only [St.updIf, ifc_true]
    exact go_app u st.hp k
theorem Over.step {d d' : Option Tmp} {x x' : V} {u u' : List (Nat × Ob)} {st0 st1 : St} (h : Over d x u st0 st1) (b : Bool) (hd : b = true → d = none ∨ d ≠ d') (hk : b = true → ∀ k, go u k = none ∨ go u' k = none) :
    Over d x u (st0.updIf b d' x' u') (st1.updIf b d' x' u') := by
  cases b with
  | false => rw [updIf_false, updIf_false]; exact h
  | true =>
    refine ⟨fun k => ?_, fun k => ?_, h.2.2⟩
    · simp only [St.updIf, ifc_true]
      rw [gt_dl, gt_dl, h.1 k]
      by_cases h1 : some k = d'
      · rw [if_pos h1, if_pos h1, if_neg]
        intro h2
        rcases hd rfl with h3 | h3
        · rw [h3] at h2; cases h2
        · exact h3 (by rw [← h2, h1])
      · rw [if_neg h1, if_neg h1]
    · simp only [St.updIf, ifc_true]
      rw [go_app, go_app, h.2.1 k]
      rcases hk rfl k with h1 | h1
      · rw [h1]
      · rw [h1]
theorem Over.rest {m : Nat → Bool} {d : Option Tmp} {x : V} {u : List (Nat × Ob)} : ∀ (os : List Oper) (ds : List (V × List (Nat × Ob))) (i : Nat) (st0 st1 : St), Over d x u st0 st1 →
    (∀ j o p, os[j]? = some o → ds[j]? = some p → m (i + j) = true → (d = none ∨ d ≠ o.dst) ∧ ∀ k, go u k = none ∨ go p.2 k = none) → Over d x u (Sg m i os ds st0) (Sg m i os ds st1)
  | [], _, _, _, _, h, _ => by simpa [Sg] using h
  | o :: os, [], _, _, _, h, _ => by simpa [Sg] using h
  | o :: os, (x', u') :: ds, i, st0, st1, h, hc => by
    simp only [Sg]
    refine Over.rest os ds (i + 1) _ _ (h.step (m i) (fun hm => (hc 0 o (x', u') rfl rfl hm).1) (fun hm => (hc 0 o (x', u') rfl rfl hm).2)) fun j o' p ho hp hm => ?_
    exact hc (j + 1) o' p (by simpa using ho) (by simpa using hp) (by rw [show i + (j + 1) = i + 1 + j by omega]; exact hm)
def up (m : Nat → Bool) (i : Nat) : Nat → Bool := fun j => if j = i then true else m j
theorem Over.at {m : Nat → Bool} : ∀ (os : List Oper) (ds : List (V × List (Nat × Ob))) (s i : Nat) (st : St) (o : Oper) (x : V) (u : List (Nat × Ob)), os[i]? = some o → ds[i]? = some (x, u) → m (s + i) = false →
    (∀ j o' p, i < j → os[j]? = some o' → ds[j]? = some p → m (s + j) = true → (o.dst = none ∨ o.dst ≠ o'.dst) ∧ ∀ k, go u k = none ∨ go p.2 k = none) → Over o.dst x u (Sg m s os ds st) (Sg (up m (s + i)) s os ds st)
  | [], _, _, _, _, _, _, _, ho, _, _, _ => by simp at ho
  | o' :: os, [], _, _, _, _, _, _, _, hd, _, _ => by simp at hd
  | o' :: os, (x', u') :: ds, s, i, st, o, x, u, ho, hd, hm, hc => by
    cases i with
    | zero =>
      simp at ho hd
      obtain ⟨rfl, rfl⟩ := hd
      subst ho
      simp only [Sg]
      simp only [Nat.add_zero] at hm
      have e1 : up m (s + 0) s = true := by unfold up; rw [if_pos (by omega)]
      rw [e1, hm, updIf_false]
      have e2 : Sg (up m (s + 0)) (s + 1) os ds (st.updIf true o'.dst x' u') = Sg m (s + 1) os ds (st.updIf true o'.dst x' u') := Sg_congr os ds (s + 1) _ fun j h1 _ => by simp only [up]; rw [if_neg (by omega)]
      rw [e2]
      refine Over.rest os ds (s + 1) _ _ (Over.upd st o'.dst x' u') fun j o2 p h1 h2 h3 => ?_
      exact hc (j + 1) o2 p (by omega) (by simpa using h1) (by simpa using h2) (by rw [show s + (j + 1) = s + 1 + j by omega]; exact h3)
    | succ i =>
      simp only [Sg]
      have e1 : up m (s + (i + 1)) s = m s := by unfold up; rw [if_neg (by omega)]
      rw [e1]
      have := Over.at (m := m) os ds (s + 1) i (st.updIf (m s) o'.dst x' u') o x u (by simpa using ho) (by simpa using hd) (by rw [show s + 1 + i = s + (i + 1) by omega]; exact hm) fun j o2 p h0 h1 h2 h3 =>
        hc (j + 1) o2 p (by omega) (by simpa using h1) (by simpa using h2) (by rw [show s + (j + 1) = s + 1 + j by omega]; exact h3)
      rwa [show s + 1 + i = s + (i + 1) by omega] at this
theorem SR.congr {w0 w : World} {oa : Nat → Prop} {st st' : St} {a : Act} (hs : SR w0 oa st a w) (h1 : ∀ k, gt st'.tm k = gt st.tm k) (h2 : ∀ k, go st'.hp k = go st.hp k) (h3 : st'.nt = st.nt) : SR w0 oa st' a w := by
  have e : go st'.hp = go st.hp := funext h2
  obtain ⟨φ, q1, q2, q3, q4⟩ := hs
  refine ⟨φ, by rw [e]; exact q1, by rw [h3]; exact q2, q3, fun k => ?_⟩
  rw [e, h1 k]
  exact q4 k
theorem Over.sr {w0 w : World} {oa : Nat → Prop} {st st1 : St} {a : Act} {d : Option Tmp} {x : V} {u : List (Nat × Ob)} (h : Over d x u st st1) (hs : SR w0 oa (st.upd d x u) a w) : SR w0 oa st1 a w := by
  rw [← updIf_true] at hs
  have h2 := Over.upd st d x u
  exact hs.congr (fun k => by rw [h.1 k, h2.1 k]) (fun k => by rw [h.2.1 k, h2.2.1 k]) (by rw [h.2.2, h2.2.2])

/-! ### what waits for what -/
def depsA (o : Oper) : List Nat := (o.after.toList.filter (Region.binds .any ·)).map (·.on)
def bitsOk (ops : Array Oper) (B : List Nat) : Bool :=
  (List.range ops.size).all fun i => match ops[i]? with
  | some o => (depsA o).all (fun d => decide (d < i)) && (B.getD i 0 == (depsA o).foldl (fun s d => s ||| (2 ^ d ||| B.getD d 0)) 0)
  | none => false
theorem fold_bit (B : List Nat) (j : Nat) : ∀ (l : List Nat) (s : Nat), (l.foldl (fun s d => s ||| (2 ^ d ||| B.getD d 0)) s).testBit j = true → s.testBit j = true ∨ ∃ d ∈ l, d = j ∨ (B.getD d 0).testBit j = true
  | [], s, h => .inl h
  | d :: r, s, h => by
    simp only [List.foldl_cons] at h
    rcases fold_bit B j r _ h with h1 | ⟨d', h2, h3⟩
    · rw [Nat.testBit_or, Nat.testBit_or, Bool.or_eq_true, Bool.or_eq_true] at h1
      rcases h1 with h1 | h1 | h1
      · exact .inl h1
      · refine .inr ⟨d, by simp, .inl ?_⟩
        rw [Nat.testBit_two_pow] at h1
        simpa using h1
      · exact .inr ⟨d, by simp, .inr h1⟩
    · exact .inr ⟨d', by simp [h2], h3⟩
theorem bitsOk_row {ops : Array Oper} {B : List Nat} (h : bitsOk ops B = true) {i : Nat} {o : Oper} (ho : ops[i]? = some o) : (∀ d ∈ depsA o, d < i) ∧ B.getD i 0 = (depsA o).foldl (fun s d => s ||| (2 ^ d ||| B.getD d 0)) 0 := by
  have hi : i < ops.size := (Array.getElem?_eq_some_iff.1 ho).1
  have := List.all_eq_true.1 h i (List.mem_range.2 hi)
  rw [ho] at this
  simp only [Bool.and_eq_true, List.all_eq_true, decide_eq_true_eq, beq_iff_eq] at this
  exact this
/-- Those that are listed wait for none that is not. -/
def Shutd (ops : Array Oper) (m : Nat → Bool) : Prop := ∀ i o, ops[i]? = some o → m i = true → ∀ d ∈ depsA o, m d = true
theorem anc_listed {ops : Array Oper} {B : List Nat} (hB : bitsOk ops B = true) {m : Nat → Bool} (hc : Shutd ops m) : ∀ (n i : Nat) (o : Oper), i ≤ n → ops[i]? = some o → (∀ d ∈ depsA o, m d = true) → ∀ j, (B.getD i 0).testBit j = true → m j = true := by
  intro n
  induction n with
  | zero =>
    intro i o hi ho hd j hj
    obtain ⟨h1, h2⟩ := bitsOk_row hB ho
    rw [h2] at hj
    rcases fold_bit B j _ 0 hj with h3 | ⟨d, h3, h4⟩
    · simp at h3
    · have := h1 d h3; omega
  | succ n ih =>
    intro i o hi ho hd j hj
    obtain ⟨h1, h2⟩ := bitsOk_row hB ho
    rw [h2] at hj
    rcases fold_bit B j _ 0 hj with h3 | ⟨d, h3, h4⟩
    · simp at h3
    · rcases h4 with rfl | h4
      · exact hd _ h3
      · have hlt := h1 d h3
        have hdi : d < ops.size := by have := (Array.getElem?_eq_some_iff.1 ho).1; omega
        exact ih d ops[d] (by omega) (by simp) (hc d _ (by simp) (hd d h3)) j h4
/-- What operation i may see: what it waits for has come, what waits for it has not, of the others nobody knows. -/
def mk (B : List Nat) (i : Nat) (b : Nat → Bool) (j : Nat) : Bool := if (B.getD i 0).testBit j = true then true else if j = i then false else if (B.getD j 0).testBit i = true then false else b j
def awc (E : Env) (ops : Array Oper) : List Oper → St → List (V × List (Nat × Ob)) → (List (V × List (Nat × Ob)) → St → Prop) → Prop
  | [], st, acc, K => K acc st
  | o :: r, st, acc, K => ev1 E ops o st fun x u => awc E ops r (st.upd o.dst x u) (acc ++ [(x, u)]) K
/-- Each operation comes to its own, whatever of the others has come. -/
def each (E : Env) (ops : Array Oper) (B : List Nat) (st : St) (δ : List (V × List (Nat × Ob))) : Nat → List Oper → List (V × List (Nat × Ob)) → Prop
  | i, o :: os, (x, u) :: ds => (∀ b, ev1 E ops o (Sg (mk B i b) 0 ops.toList δ st) fun x' u' => (Sg (mk B i b) 0 ops.toList δ st).upd o.dst x' u' = (Sg (mk B i b) 0 ops.toList δ st).upd o.dst x u) ∧ each E ops B st δ (i + 1) os ds
  | _, [], [] => True
  | _, _, _ => False
/-- What does not wait for each other writes apart. -/
def pair1 (B : List Nat) (i : Nat) (o : Oper) (u : List (Nat × Ob)) : Nat → List Oper → List (V × List (Nat × Ob)) → Prop
  | j, o' :: os, (_, u') :: ds => ((B.getD j 0).testBit i = true ∨ ((o.dst = none ∨ o.dst ≠ o'.dst) ∧ ∀ p ∈ u, ∀ q ∈ u', p.1 ≠ q.1)) ∧ pair1 B i o u (j + 1) os ds
  | _, _, _ => True
def pairs (B : List Nat) : Nat → List Oper → List (V × List (Nat × Ob)) → Prop
  | i, o :: os, (_, u) :: ds => pair1 B i o u (i + 1) os ds ∧ pairs B (i + 1) os ds
  | _, _, _ => True
theorem each_at {E : Env} {ops : Array Oper} {B : List Nat} {st : St} {δ : List (V × List (Nat × Ob))} : ∀ (os : List Oper) (ds : List (V × List (Nat × Ob))) (s i : Nat) (o : Oper), each E ops B st δ s os ds → os[i]? = some o → ∃ x u, ds[i]? = some (x, u) ∧ ∀ b, ev1 E ops o (Sg (mk B (s + i) b) 0 ops.toList δ st) fun x' u' => (Sg (mk B (s + i) b) 0 ops.toList δ st).upd o.dst x' u' = (Sg (mk B (s + i) b) 0 ops.toList δ st).upd o.dst x u
  | [], _, _, _, _, _, h => by simp at h
  | o' :: os, [], _, _, _, h, _ => by simp [each] at h
  | o' :: os, (x, u) :: ds, s, i, o, h, ho => by
    simp only [each] at h
    cases i with
    | zero =>
      simp at ho
      subst ho
      exact ⟨x, u, rfl, h.1⟩
    | succ i =>
      obtain ⟨x2, u2, h1, h2⟩ := each_at os ds (s + 1) i o h.2 (by simpa using ho)
      refine ⟨x2, u2, by simpa using h1, fun b => ?_⟩
      have := h2 b
      rwa [show s + 1 + i = s + (i + 1) by omega] at this
theorem go_mem_key {u : List (Nat × Ob)} {k : Nat} {o : Ob} (h : go u k = some o) : ∃ p ∈ u, p.1 = k := ⟨_, go_mem h, rfl⟩
theorem pair1_at {B : List Nat} {i : Nat} {o : Oper} {u : List (Nat × Ob)} : ∀ (os : List Oper) (ds : List (V × List (Nat × Ob))) (s j : Nat) (o' : Oper) (p : V × List (Nat × Ob)), pair1 B i o u s os ds → os[j]? = some o' → ds[j]? = some p →
    (B.getD (s + j) 0).testBit i = true ∨ ((o.dst = none ∨ o.dst ≠ o'.dst) ∧ ∀ k, go u k = none ∨ go p.2 k = none)
  | [], _, _, _, _, _, _, h, _ => by simp at h
  | o2 :: os, [], _, _, _, _, _, _, h => by simp at h
  | o2 :: os, (x2, u2) :: ds, s, j, o', p, h, ho, hp => by
    simp only [pair1] at h
    cases j with
    | zero =>
      simp at ho hp
      subst ho hp
      refine h.1.imp id fun h1 => ⟨h1.1, fun k => ?_⟩
      cases h2 : go u k with
      | none => exact .inl rfl
      | some z =>
        cases h3 : go u2 k with
        | none => exact .inr rfl
        | some z' =>
          obtain ⟨p1, hp1, e1⟩ := go_mem_key h2
          obtain ⟨p2, hp2, e2⟩ := go_mem_key h3
          exact absurd (by rw [e1, e2]) (h1.2 p1 hp1 p2 hp2)
    | succ j =>
      have := pair1_at os ds (s + 1) j o' p h.2 (by simpa using ho) (by simpa using hp)
      rwa [show s + 1 + j = s + (j + 1) by omega] at this
theorem pairs_at {B : List Nat} : ∀ (os : List Oper) (ds : List (V × List (Nat × Ob))) (s i j : Nat) (o o' : Oper) (q p : V × List (Nat × Ob)), pairs B s os ds → i < j → os[i]? = some o → ds[i]? = some q → os[j]? = some o' → ds[j]? = some p →
    (B.getD (s + j) 0).testBit (s + i) = true ∨ ((o.dst = none ∨ o.dst ≠ o'.dst) ∧ ∀ k, go q.2 k = none ∨ go p.2 k = none)
  | [], _, _, _, _, _, _, _, _, _, _, h, _, _, _ => by simp at h
  | o2 :: os, [], _, _, _, _, _, _, _, _, _, _, h, _, _ => by simp at h
  | o2 :: os, (x2, u2) :: ds, s, i, j, o, o', q, p, h, hij, ho, hq, ho', hp => by
    simp only [pairs] at h
    obtain ⟨j, rfl⟩ : ∃ j', j = j' + 1 := ⟨j - 1, by omega⟩
    cases i with
    | zero =>
      simp at ho hq
      subst ho hq
      have := pair1_at os ds (s + 1) j o' p h.1 (by simpa using ho') (by simpa using hp)
      rwa [show s + 1 + j = s + (j + 1) by omega] at this
    | succ i =>
      have := pairs_at os ds (s + 1) i j o o' q p h.2 (by omega) (by simpa using ho) (by simpa using hq) (by simpa using ho') (by simpa using hp)
      rwa [show s + 1 + j = s + (j + 1) by omega, show s + 1 + i = s + (i + 1) by omega] at this
/-- What is left to be shown of a region of open order. -/
def awd (E : Env) (ops : Array Oper) (B : List Nat) (st : St) (K : St → Prop) : Prop :=
  awc E ops ops.toList st [] fun δ s => each E ops B st δ 0 ops.toList δ ∧ pairs B 0 ops.toList δ ∧ K s
theorem ex_pick {c x y : Operand} {o : Oper} {st : St} {K : V → List (Nat × Ob) → Prop} (h : e_pick c x y o st K) : ∃ x u, K x u := by
  obtain ⟨_, h⟩ := h
  split at h
  · rename_i b _
    cases b with
    | true => exact ⟨_, _, h.1 rfl⟩
    | false => exact ⟨_, _, h.2 rfl⟩
  · exact h.elim
theorem ex_bin {P : Program} {Es : TypeId → Nat → Prop} {op : BinOp} {t : TypeId} {x y : V} {K : Value → Prop} (h : binW P Es op t x y K) : ∃ r, K r := by
  unfold binW at h
  repeat' first | exact ⟨_, h⟩ | exact h.elim | (obtain ⟨_, h⟩ := h) | split at h
theorem ex_evc {E : Env} {c : Call} {o : Oper} {st : St} {K : V → List (Nat × Ob) → Prop} (h : evc E c o st K) : ∃ x u, K x u := by
  unfold evc at h
  split at h
  · obtain ⟨_, h⟩ := h
    split at h
    · obtain ⟨out, _, _, _, h⟩ := h; exact ⟨_, _, h⟩
    · exact h.elim
  · unfold e_len at h
    repeat' first | exact ⟨_, _, h⟩ | exact h.elim | (obtain ⟨_, h⟩ := h) | split at h
  · unfold e_app at h
    repeat' first | exact ⟨_, _, h⟩ | exact h.elim | (obtain ⟨_, h⟩ := h) | split at h
  · unfold e_copy at h
    repeat' first | exact ⟨_, _, h⟩ | exact h.elim | (obtain ⟨_, h⟩ := h) | split at h
  · unfold e_mm at h
    repeat' first | exact ⟨_, _, h⟩ | exact h.elim | (obtain ⟨_, h⟩ := h) | split at h
  · unfold e_mm at h
    repeat' first | exact ⟨_, _, h⟩ | exact h.elim | (obtain ⟨_, h⟩ := h) | split at h
  · exact h.elim
theorem ex_evk {E : Env} {o : Oper} {st : St} {K : V → List (Nat × Ob) → Prop} (h : evk E o st K) : ∃ x u, K x u := by
  unfold evk at h
  split at h
  · exact ⟨_, _, h.2⟩
  · exact ⟨_, _, h.2⟩
  · exact ex_pick h
  · unfold e_alloc at h
    repeat' first | exact ⟨_, _, h⟩ | exact h.elim | (obtain ⟨_, h⟩ := h) | split at h
  · unfold e_box at h
    repeat' first | exact ⟨_, _, h⟩ | exact h.elim | (obtain ⟨_, h⟩ := h) | split at h
  · unfold e_build at h
    repeat' first | exact ⟨_, _, h⟩ | exact h.elim | (obtain ⟨_, h⟩ := h) | split at h
  · unfold e_lit at h
    repeat' first | exact ⟨_, _, h⟩ | exact h.elim | (obtain ⟨_, h⟩ := h) | split at h
  · unfold e_load at h
    repeat' first | exact ⟨_, _, h⟩ | exact h.elim | (obtain ⟨_, h⟩ := h) | split at h
  · unfold e_store at h
    repeat' first | exact ⟨_, _, h⟩ | exact h.elim | (obtain ⟨_, h⟩ := h) | split at h
  · unfold e_nil at h
    repeat' first | exact ⟨_, _, h⟩ | exact h.elim | (obtain ⟨_, h⟩ := h) | split at h
  · obtain ⟨r, h⟩ := ex_bin h.2; exact ⟨_, _, h⟩
  · unfold e_un at h
    repeat' first | exact ⟨_, _, h⟩ | exact h.elim | (obtain ⟨_, h⟩ := h) | split at h
  · unfold e_cnv e_conv e_str e_mark at h
    repeat' first | exact ⟨_, _, h⟩ | exact h.elim | (obtain ⟨_, h⟩ := h) | split at h
  · unfold e_make at h
    repeat' first | exact ⟨_, _, h⟩ | exact h.elim | (obtain ⟨_, h⟩ := h) | split at h
  · unfold e_cut at h
    repeat' first | exact ⟨_, _, h⟩ | exact h.elim | (obtain ⟨_, h⟩ := h) | split at h
  · unfold e_field at h
    repeat' first | exact ⟨_, _, h⟩ | exact h.elim | (obtain ⟨_, h⟩ := h) | split at h
  · unfold e_fld at h
    repeat' first | exact ⟨_, _, h⟩ | exact h.elim | (obtain ⟨_, h⟩ := h) | split at h
  · unfold e_index at h
    repeat' first | exact ⟨_, _, h⟩ | exact h.elim | (obtain ⟨_, h⟩ := h) | split at h
  · unfold e_extract at h
    repeat' first | exact ⟨_, _, h⟩ | exact h.elim | (obtain ⟨_, h⟩ := h) | split at h
  · exact ex_evc h
  · exact h.elim
theorem ex_ev1 {E : Env} {ops : Array Oper} {o : Oper} {st : St} {K : V → List (Nat × Ob) → Prop} (h : ev1 E ops o st K) : ∃ x u, K x u := by
  unfold ev1 at h
  split at h
  · exact ex_evk h
  · rename_i j want _
    split at h
    · rename_i b _
      by_cases hb : b = want
      · exact ex_evk (h.1 hb)
      · have hne : b = !want := by cases b <;> cases want <;> simp_all
        exact ⟨_, _, (h.2 hne).2⟩
    · exact ⟨_, _, h.2⟩
    · exact h.elim
theorem awc_ex {E : Env} {ops : Array Oper} {K : List (V × List (Nat × Ob)) → St → Prop} : ∀ (os : List Oper) (st : St) (acc : List (V × List (Nat × Ob))) (i : Nat), awc E ops os st acc K → ∃ δ, K (acc ++ δ) (Sg (fun _ => true) i os δ st) ∧ δ.length = os.length
  | [], st, acc, i, h => ⟨[], by simpa [awc, Sg] using h, rfl⟩
  | o :: r, st, acc, i, h => by
    simp only [awc] at h
    obtain ⟨x, u, h⟩ := ex_ev1 h
    obtain ⟨δ, h1, h2⟩ := awc_ex r _ _ (i + 1) h
    refine ⟨(x, u) :: δ, ?_, by simp [h2]⟩
    simp only [Sg, updIf_true]
    rw [List.append_assoc, List.singleton_append] at h1
    exact h1
theorem drew_sr {w0 w : World} {oa : Nat → Prop} {st : St} {a : Act} (hs : SR w0 oa st a w) : SR w0 oa st a w.drew := by
  obtain ⟨φ, h1, h2, h3, h4⟩ := hs
  have hb : ∀ b, okB w0 oa φ (go st.hp) w b → okB w0 oa φ (go st.hp) w.drew b := fun b hb => hb
  refine ⟨φ, ⟨h1.below.drew, fun id o ho => ?_, h1.fresh, h1.inj⟩, h2, h3, fun k => VR.mono (w := w) (w' := w.drew) (fun _ _ hv => hv) (fun _ _ => rfl) hb (h4 k)⟩
  have := h1.obj id o ho
  cases o with
  | row e sz l =>
    obtain ⟨u, cs, q1, q2, q3, q4⟩ := this
    exact ⟨u, cs, q1, q2, q3, Rw.mono (w := w) (w' := w.drew) (fun _ _ => rfl) hb q4⟩
  | box l =>
    obtain ⟨b, t, cs, q1, q2, q3, q4, q5, q6⟩ := this
    exact ⟨b, t, cs, q1, q2, q3, q4, q5, fun j x y hx hy => VR.mono (w := w) (w' := w.drew) (fun _ _ hv => hv) (fun _ _ => rfl) hb (q6 j x y hx hy)⟩
  | dead => trivial
theorem count_up (m : Nat → Bool) (i : Nat) (hm : m i = false) : ∀ n, i < n → ((List.range n).filter (up m i)).length = ((List.range n).filter m).length + 1
  | 0, h => by omega
  | n + 1, h => by
    rw [List.range_succ, List.filter_append, List.filter_append, List.length_append, List.length_append]
    by_cases hi : i = n
    · subst hi
      have e : (List.range i).filter (up m i) = (List.range i).filter m := List.filter_congr fun j hj => by
        have := List.mem_range.1 hj
        simp only [up]; rw [if_neg (by omega)]
      rw [e]
      simp [up, hm]
    · rw [count_up m i hm n (by omega)]
      have e : up m i n = m n := by simp only [up]; rw [if_neg (Ne.symm hi)]
      have e2 : [n].filter (up m i) = [n].filter m := by simp only [List.filter_cons, e, List.filter_nil]
      rw [e2]
      omega
def lm (l : Array Bool) : Nat → Bool := fun j => l.getD j false
theorem AWr.draw {E : Env} (hE : E.Ok) (hm : E.P.follows .mixedOrders = true) {id : Nat} {ops : Array Oper} {st : St} {Q : Exit → St → Prop} (B : List Nat) (hB : bitsOk ops B = true) (l : List Nat) (h : awd E ops B st fun s => Q .normal (s.keep l)) : AWr E (.region id ops true) st Q := by
  intro w0 oa a w hs
  obtain ⟨δ, ⟨h1, h2, h3⟩, hlen⟩ := awc_ex ops.toList st [] 0 h
  simp only [List.nil_append] at h1 h2
  have hlen' : δ.length = ops.size := by rw [hlen]; simp
  refine wp_region_any hm ?_
  have main : ∀ (fuel : Nat) (lst : Array Bool) (a : Act) (w : World), lst.size = ops.size → Shutd ops (lm lst) → (ops.size ≤ fuel + ((List.range ops.size).filter (lm lst)).length) → SR w0 oa (Sg (lm lst) 0 ops.toList δ st) a w →
      wpAny E.P .any ops (fun e a' w' => ∃ st', Q e st' ∧ SR w0 oa st' a' w') fuel lst a w := by
    intro fuel
    have hready : ∀ (lst : Array Bool), lst.size = ops.size → Region.ready .any ops lst = [] → ∀ j, j < ops.size → lm lst j = true := by
      intro lst hsz hr j
      induction j using Nat.strongRecOn with
      | _ j ih =>
        intro hj
        have hni : j ∉ Region.ready .any ops lst := by rw [hr]; simp
        unfold Region.ready at hni
        rw [List.mem_filter, List.mem_range] at hni
        have hall : ((ops[j]?).map (·.after.all fun e => !Region.binds .any e || lst.getD e.on false)).getD false = true := by
          rw [Array.getElem?_eq_getElem hj]
          simp only [Option.map_some, Option.getD_some]
          rw [Array.all_eq_true_iff_forall_mem]
          intro e he
          by_cases hb : Region.binds .any e = true
          · have hd : e.on ∈ depsA ops[j] := by
              simp only [depsA, List.mem_map, List.mem_filter]
              exact ⟨e, ⟨by simpa using he, hb⟩, rfl⟩
            have hlt := (bitsOk_row hB (Array.getElem?_eq_getElem hj)).1 _ hd
            have := ih _ hlt (by omega)
            simp only [lm] at this
            rw [this]; simp
          · simp [hb]
        have hlt : j < lst.size := by omega
        simp only [lm, Array.getD_eq_getD_getElem?, Array.getElem?_eq_getElem hlt, Option.getD_some]
        have : ¬ (!lst.getD j true) = true := fun hn => hni ⟨hj, by rw [hn, hall]; rfl⟩
        simpa [Array.getD_eq_getD_getElem?, Array.getElem?_eq_getElem hlt] using this
    have hfin : ∀ (lst : Array Bool) (a : Act) (w : World), (∀ j, j < ops.size → lm lst j = true) → SR w0 oa (Sg (lm lst) 0 ops.toList δ st) a w → ∃ st', Q .normal st' ∧ SR w0 oa st' a w := by
      intro lst a w hall hsr
      have e : Sg (lm lst) 0 ops.toList δ st = Sg (fun _ => true) 0 ops.toList δ st := Sg_congr _ _ _ _ fun j _ hj => by
        rw [hall j (by simpa using hj)]
      rw [e] at hsr
      exact ⟨_, h3, keep_sr l hsr⟩
    have hcount : ∀ (lst : Array Bool), ((List.range ops.size).filter (lm lst)).length = ops.size → ∀ j, j < ops.size → lm lst j = true := by
      intro lst hc j hj
      have : (List.range ops.size).filter (lm lst) = List.range ops.size := by
        apply List.Sublist.eq_of_length List.filter_sublist
        rw [hc]; simp
      have hm : j ∈ (List.range ops.size).filter (lm lst) := by rw [this]; simpa using hj
      exact (List.mem_filter.1 hm).2
    induction fuel with
    | zero =>
      intro lst a w hsz hsh hf hsr
      have hle : ((List.range ops.size).filter (lm lst)).length ≤ ops.size := by
        have := List.length_filter_le (lm lst) (List.range ops.size)
        simpa using this
      have hall := hcount lst (by omega)
      refine ⟨?_, hfin lst a w hall hsr⟩
      unfold Region.ready
      rw [List.filter_eq_nil_iff]
      intro j hj
      have hj' := List.mem_range.1 hj
      have := hall j hj'
      have hlt : j < lst.size := by omega
      simp only [lm, Array.getD_eq_getD_getElem?, Array.getElem?_eq_getElem hlt, Option.getD_some] at this
      simp [Array.getD_eq_getD_getElem?, Array.getElem?_eq_getElem hlt, this]
    | succ fuel ih =>
      intro lst a w hsz hsh hf hsr
      refine ⟨fun hr => hfin lst a w (hready lst hsz hr) hsr, fun i hi => ?_⟩
      unfold Region.ready at hi
      rw [List.mem_filter, List.mem_range, Bool.and_eq_true] at hi
      obtain ⟨hin, hnl, hdeps⟩ := hi
      have hlt : i < lst.size := by omega
      have hmi : lm lst i = false := by
        simpa [lm, Array.getD_eq_getD_getElem?, Array.getElem?_eq_getElem hlt] using hnl
      have hoi : ops[i]? = some ops[i] := Array.getElem?_eq_getElem hin
      have hdl : ∀ d ∈ depsA ops[i], lm lst d = true := by
        intro d hd
        simp only [depsA, List.mem_map, List.mem_filter] at hd
        obtain ⟨e, ⟨he, hb⟩, rfl⟩ := hd
        rw [hoi] at hdeps
        simp only [Option.map_some, Option.getD_some] at hdeps
        have := Array.all_eq_true_iff_forall_mem.1 hdeps e (by simpa using he)
        simpa [hb, lm] using this
      have hanc := anc_listed hB hsh i i _ (Nat.le_refl _) hoi hdl
      have hdesc : ∀ j, j < ops.size → (B.getD j 0).testBit i = true → lm lst j = false := by
        intro j hj hb
        cases hmj : lm lst j with
        | false => rfl
        | true =>
          have hoj : ops[j]? = some ops[j] := Array.getElem?_eq_getElem hj
          have := anc_listed hB hsh j j _ (Nat.le_refl _) hoj (hsh j _ hoj hmj) i hb
          rw [hmi] at this; cases this
      have hmk : Sg (lm lst) 0 ops.toList δ st = Sg (mk B i (lm lst)) 0 ops.toList δ st := Sg_congr _ _ _ _ fun j _ hj => by
        have hj' : j < ops.size := by simpa using hj
        unfold mk
        split
        · rename_i hb; exact hanc j hb
        · split
          · rename_i e; rw [e]; exact hmi
          · split
            · rename_i hb; exact hdesc j hj' hb
            · rfl
      obtain ⟨x, u, hδ, hev⟩ := each_at ops.toList δ 0 i ops[i] h1 (by simp)
      have hev := hev (lm lst)
      rw [Nat.zero_add, ← hmk] at hev
      obtain ⟨φ, hsp⟩ := hsr.open
      unfold wpOp
      rw [hoi]
      have key := s_ev1 (K := fun s => s = (Sg (lm lst) 0 ops.toList δ st).upd ops[i].dst x u) (next := wpAny E.P .any ops (fun e a' w' => ∃ st', Q e st' ∧ SR w0 oa st' a' w') fuel (lst.setIfInBounds i true)) (Q := fun e a' w' => ∃ st', Q e st' ∧ SR w0 oa st' a' w') hE (ops := ops) (o := ops[i]) (st := Sg (lm lst) 0 ops.toList δ st) ?_ hsp ?_
      · simp only
        split at key
        · rename_i hw; rw [if_pos hw]; exact .inl key
        · rename_i hw; rw [if_neg hw]; exact key
      · exact hev
      · rintro st' a' w' rfl hs'
        have hup : lm (lst.setIfInBounds i true) = up (lm lst) i := by
          funext j
          simp only [lm, up, Array.getD_eq_getD_getElem?]
          by_cases h : j = i
          · subst h; simp [hlt]
          · rw [if_neg h, Array.getElem?_setIfInBounds_ne (Ne.symm h)]
        refine ih _ a' w' (by simpa using hsz) ?_ ?_ ?_
        · rw [hup]
          intro j o ho hj d hd
          unfold up at hj ⊢
          by_cases hdi : d = i
          · rw [if_pos hdi]
          · rw [if_neg hdi]
            by_cases hji : j = i
            · subst hji
              rw [hoi] at ho
              cases ho
              exact hdl d hd
            · rw [if_neg hji] at hj
              exact hsh j o ho hj d hd
        · rw [hup]
          have : ((List.range ops.size).filter (up (lm lst) i)).length = ((List.range ops.size).filter (lm lst)).length + 1 := count_up _ _ hmi _ hin
          omega
        · rw [hup]
          have hov := Over.at (m := lm lst) ops.toList δ 0 i st ops[i] x u (by simp) hδ (by rw [Nat.zero_add]; exact hmi) fun j o' p hij ho' hp hm => by
            rw [Nat.zero_add] at hm
            rcases pairs_at ops.toList δ 0 i j ops[i] o' (x, u) p h2 hij (by simp) hδ ho' hp with h5 | h5
            · rw [Nat.zero_add, Nat.zero_add] at h5
              have := hdesc j (by simpa using (List.getElem?_eq_some_iff.1 ho').1) h5
              rw [hm] at this; cases this
            · exact h5
          rw [Nat.zero_add] at hov
          exact hov.sr hs'
  have h0 : lm (Array.replicate ops.size false) = fun _ => false := by
    funext j
    simp only [lm, Array.getD_eq_getD_getElem?]
    by_cases h : j < ops.size <;> simp [h]
  refine main ops.size _ a _ (by simp) ?_ (by omega) ?_
  · rw [h0]; intro i o ho hi; cases hi
  · rw [h0, Sg_all]
    exact drew_sr hs
end Go.Proofs.Ytljohhinokaklaa.Am
