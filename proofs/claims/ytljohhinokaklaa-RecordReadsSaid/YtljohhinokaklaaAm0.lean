/- The abstract machine, part 0: values, what they say of memory, and the relation of an abstract state to an activation and a world. Plain definitions and theorems; nothing of a program. -/
import Derived.Below
import Derived.Laws.BytesArg
import Derived.Laws.MakeOwn
import Derived.Laws.OwnMore
import Derived.Laws.Rows
import Derived.Laws.Slices
import Derived.Laws.IdiomCopy
import Derived.Laws.Cells
import Derived.Laws.Tables
import Derived.Laws.Entries
import Derived.Calls
import Derived.Control
import Derived.KernelRfl
set_option linter.unusedVariables false
set_option linter.unusedSimpArgs false
set_option maxRecDepth 4000
namespace Go.Proofs.Ytljohhinokaklaa.Am
open Go Go.RowKit

/-- What is never written again: a value, a slice's elements, a struct's cells, what a pointer leads to. -/
inductive D where
  | v (x : Value)
  | list (l : List D)
  | agg (l : List D)
  | ref (d : D)
instance : Inhabited D := ⟨.v undef⟩
def D.cells : D → List D
  | .agg l => l
  | .v x => [.v x]
  | .list l => [.list l]
  | .ref d => [.ref d]
/-- A value of the abstract machine: what is never written again, or a place in what the call owns. -/
inductive V where
  | d (x : D)
  | nil
  | sl (id sz off len : Nat) (full : Bool)
  | ptr (id off : Nat)
  | ep (id sz i c : Nat)
  | agg (l : List V)
  | tup (l : List V)
  | junk
instance : Inhabited V := ⟨.junk⟩
/-- What the call owns: a row of elements, a box of cells; dead: no more. -/
inductive Ob where
  | row (e : TypeId) (sz : Nat) (l : List D)
  | box (l : List V)
  | dead
structure St where
  tm : List (Nat × V)
  hp : List (Nat × Ob)
  nt : Nat
def gt : List (Nat × V) → Nat → V
  | [], _ => .junk
  | (k, x) :: r, j => if j = k then x else gt r j
def go : List (Nat × Ob) → Nat → Option Ob
  | [], _ => none
  | (k, x) :: r, j => if j = k then some x else go r j
def so (l : List (Nat × Ob)) (j : Nat) (o : Ob) : List (Nat × Ob) := (j, o) :: l
theorem go_so (l : List (Nat × Ob)) (j : Nat) (o : Ob) (k : Nat) : go (so l j o) k = if k = j then some o else go l k := rfl
def blk : Value → Option Nat
  | .slice (some a) _ _ => some a.block
  | .pointer (some a) => some a.block
  | _ => none

/-- A value says d in world w; all that is read lies in blocks that may be read (ok). -/
inductive Rd (w : World) (ok : Nat → Prop) : D → Value → Prop
  | v (x : Value) : Rd w ok (.v x) x
  | agg (l : List D) (cs : Array Value) (hl : cs.size = l.length) (h1 : ∀ (j : Nat) (y : Value), cs[j]? = some y → y.oneCell' = true)
      (h : ∀ (j : Nat) (d : D) (y : Value), l[j]? = some d → cs[j]? = some y → Rd w ok d y) : Rd w ok (.agg l) (.agg cs)
  | nil (A : Option Addr) (c : Nat) : Rd w ok (.list []) (.slice A 0 c)
  | list (l : List D) (sz b o c : Nat) (vals : Nat → Value) (hc : l.length ≤ c) (hok : ok b) (hsz : 0 < sz) (hd : ∀ d ∈ l, d.cells.length = sz)
      (hv : ∀ j, j < l.length * sz → w.cell? ⟨b, o + j, none⟩ = some (vals j)) (h1 : ∀ j, j < l.length * sz → (vals j).oneCell' = true)
      (h : ∀ (i j : Nat) (d x : D), l[i]? = some d → d.cells[j]? = some x → Rd w ok x (vals (i * sz + j))) : Rd w ok (.list l) (.slice (some ⟨b, o, none⟩) l.length c)
  | ref (d : D) (b o : Nat) (vals : Nat → Value) (hok : ok b) (hv : ∀ j, j < d.cells.length → w.cell? ⟨b, o + j, none⟩ = some (vals j)) (h1 : ∀ j, j < d.cells.length → (vals j).oneCell' = true)
      (h : ∀ (j : Nat) (x : D), d.cells[j]? = some x → Rd w ok x (vals j)) : Rd w ok (.ref d) (.pointer (some ⟨b, o, none⟩))

theorem Rd.mono {w w' : World} {ok ok' : Nat → Prop} (hw : ∀ b, ok b → w'.heap[b]? = w.heap[b]?) (hok : ∀ b, ok b → ok' b) {d : D} {y : Value} (h : Rd w ok d y) : Rd w' ok' d y := by
  induction h with
  | v x => exact .v x
  | agg l cs hl h1 h ih => exact .agg l cs hl h1 ih
  | nil A c => exact .nil A c
  | list l sz b o c vals hc hb hsz hd hv h1 h ih =>
    exact .list l sz b o c vals hc (hok _ hb) hsz hd (fun j hj => by rw [World.cell?_of_block (w := w) (hw b hb)]; exact hv j hj) h1 ih
  | ref d b o vals hb hv h1 h ih =>
    exact .ref d b o vals (hok _ hb) (fun j hj => by rw [World.cell?_of_block (w := w) (hw b hb)]; exact hv j hj) h1 ih
/-- No memory in it. -/
inductive Scal : D → Prop
  | v (x : Value) : Scal (.v x)
  | agg (l : List D) (h : ∀ d ∈ l, Scal d) : Scal (.agg l)
theorem Rd.scal {w w' : World} {ok ok' : Nat → Prop} {d : D} {y : Value} (h : Rd w ok d y) : Scal d → Rd w' ok' d y := by
  induction h with
  | v x => exact fun _ => .v x
  | agg l cs hl h1 h ih => exact fun hs => .agg l cs hl h1 fun j d y hd hy => ih j d y hd hy (by cases hs with | agg _ hs => exact hs d (List.mem_of_getElem? hd))
  | nil A c => exact fun hs => by cases hs
  | list l sz b o c vals hc hb hsz hd hv h1 h ih => exact fun hs => by cases hs
  | ref d b o vals hb hv h1 h ih => exact fun hs => by cases hs

/-- A value is the abstract one; φ tells where the things that the call owns are. -/
inductive VR (φ : Nat → Option Value) (w : World) (ok : Nat → Prop) : V → Value → Prop
  | d (x : D) (y : Value) (h : Rd w ok x y) : VR φ w ok (.d x) y
  | nil : VR φ w ok .nil (.slice none 0 0)
  | sl (id sz off len : Nat) (full : Bool) (u : Value) (A : Option Addr) (c : Nat) (hid : φ id = some u) (hc : len ≤ c) (hf : full = true → u = .slice A len c ∧ off = 0)
      (ha : len = 0 ∨ ∃ b n cap, u = .slice (some ⟨b, 0, none⟩) n cap ∧ A = some ⟨b, off * sz, none⟩) : VR φ w ok (.sl id sz off len full) (.slice A len c)
  | ptr (id off b : Nat) (hid : φ id = some (.pointer (some ⟨b, 0, none⟩))) : VR φ w ok (.ptr id off) (.pointer (some ⟨b, off, none⟩))
  | ep (id sz i c b n cap : Nat) (hid : φ id = some (.slice (some ⟨b, 0, none⟩) n cap)) : VR φ w ok (.ep id sz i c) (.pointer (some ⟨b, i * sz + c, none⟩))
  | agg (l : List V) (cs : Array Value) (hl : cs.size = l.length) (h1 : ∀ (j : Nat) (y : Value), cs[j]? = some y → y.oneCell' = true)
      (h : ∀ (j : Nat) (x : V) (y : Value), l[j]? = some x → cs[j]? = some y → VR φ w ok x y) : VR φ w ok (.agg l) (.agg cs)
  | tup (l : List V) (cs : Array Value) (hl : cs.size = l.length)
      (h : ∀ (j : Nat) (x : V) (y : Value), l[j]? = some x → cs[j]? = some y → VR φ w ok x y) : VR φ w ok (.tup l) (.tuple cs)
  | junk (y : Value) : VR φ w ok .junk y
theorem VR.mono {φ φ' : Nat → Option Value} {w w' : World} {ok ok' : Nat → Prop} (hφ : ∀ id v, φ id = some v → φ' id = some v) (hw : ∀ b, ok b → w'.heap[b]? = w.heap[b]?) (hok : ∀ b, ok b → ok' b)
    {x : V} {y : Value} (h : VR φ w ok x y) : VR φ' w' ok' x y := by
  induction h with
  | d x y h => exact .d x y (h.mono hw hok)
  | nil => exact .nil
  | sl id sz off len full u A c hid hc hf ha => exact .sl id sz off len full u A c (hφ _ _ hid) hc hf ha
  | ptr id off b hid => exact .ptr id off b (hφ _ _ hid)
  | ep id sz i c b n cap hid => exact .ep id sz i c b n cap (hφ _ _ hid)
  | agg l cs hl h1 h ih => exact .agg l cs hl h1 ih
  | tup l cs hl h ih => exact .tup l cs hl ih
  | junk y => exact .junk y

/-- The elements' cells are these values. -/
def Rw (w : World) (ok : Nat → Prop) (sz : Nat) (l : List D) (cs : List Value) : Prop :=
  cs.length = l.length * sz ∧ (∀ u ∈ cs, u.oneCell' = true) ∧ (∀ d ∈ l, d.cells.length = sz) ∧
    ∀ (i j : Nat) (d x : D) (u : Value), l[i]? = some d → d.cells[j]? = some x → cs[i * sz + j]? = some u → Rd w ok x u
theorem Rw.mono {w w' : World} {ok ok' : Nat → Prop} (hw : ∀ b, ok b → w'.heap[b]? = w.heap[b]?) (hok : ∀ b, ok b → ok' b) {sz : Nat} {l : List D} {cs : List Value} (h : Rw w ok sz l cs) : Rw w' ok' sz l cs :=
  ⟨h.1, h.2.1, h.2.2.1, fun i j d x u a b c => (h.2.2.2 i j d x u a b c).mono hw hok⟩
theorem Rw.nil {w : World} {ok : Nat → Prop} {sz : Nat} : Rw w ok sz [] [] := ⟨by simp, by simp, by simp, by simp⟩
/-- What is owned is as the abstract state says. -/
def OR (φ : Nat → Option Value) (w : World) (ok : Nat → Prop) (base id : Nat) : Ob → Prop
  | .row e sz l => ∃ u cs, φ id = some u ∧ 0 < sz ∧ w.ownsRow base e sz u l.length cs ∧ Rw w ok sz l cs
  | .box l => ∃ b t cs, φ id = some (.pointer (some ⟨b, 0, none⟩)) ∧ base ≤ b ∧ w.heap[b]? = some (.cells cs t (0, 0)) ∧ cs.size = l.length ∧ (∀ (j : Nat) (y : Value), cs[j]? = some y → y.oneCell' = true) ∧
      ∀ (j : Nat) (x : V) (y : Value), l[j]? = some x → cs[j]? = some y → VR φ w ok x y
  | .dead => True
/-- The blocks that may be read and are not owned. -/
def okB (w0 : World) (oa : Nat → Prop) (φ : Nat → Option Value) (hp : Nat → Option Ob) (w : World) (b : Nat) : Prop :=
  ((oa b ∧ b < w0.heap.size) ∨ (w0.heap.size ≤ b ∧ b < w.heap.size)) ∧ ∀ id o v, hp id = some o → o ≠ .dead → φ id = some v → blk v ≠ some b
/-- The heap's part of the relation. -/
structure HR (w0 : World) (oa : Nat → Prop) (φ : Nat → Option Value) (hp : Nat → Option Ob) (w : World) : Prop where
  below : Below w0.heap.size w0 w
  obj : ∀ id o, hp id = some o → OR φ w (okB w0 oa φ hp w) w0.heap.size id o
  fresh : ∀ id, hp id = none → φ id = none
  inj : ∀ id id' o o' v v', hp id = some o → hp id' = some o' → o ≠ .dead → o' ≠ .dead → id ≠ id' → φ id = some v → φ id' = some v' → blk v = none ∨ blk v ≠ blk v'
/-- An abstract state, and an activation in a world. -/
def SR (w0 : World) (oa : Nat → Prop) (st : St) (a : Act) (w : World) : Prop :=
  ∃ φ, HR w0 oa φ (go st.hp) w ∧ a.tmps.size = st.nt ∧ a.defers = [] ∧ ∀ k, VR φ w (okB w0 oa φ (go st.hp) w) (gt st.tm k) (a.tmps.getD k undef)
theorem okB_lt {w0 w : World} {oa : Nat → Prop} {φ : Nat → Option Value} {hp : Nat → Option Ob} (hb : w0.heap.size ≤ w.heap.size) {b : Nat} (h : okB w0 oa φ hp w b) : b < w.heap.size := by
  rcases h.1 with h | h
  · omega
  · exact h.2

/-- One step of the heap: what is touched (t) is no more as it was; all else is. -/
theorem HR.step {w0 w w' : World} {oa : Nat → Prop} {φ φ' : Nat → Option Value} {hp hp' : Nat → Option Ob} (h : HR w0 oa φ hp w) (t : Nat → Prop)
    (hsz : w.heap.size ≤ w'.heap.size) (hbelow : Below w0.heap.size w0 w')
    (hkeep : ∀ b, b < w.heap.size → (∀ id o v, t id → hp id = some o → o ≠ .dead → φ id = some v → blk v ≠ some b) → w'.heap[b]? = w.heap[b]?)
    (hφ : ∀ id v, φ id = some v → φ' id = some v) (hfresh : ∀ id, hp' id = none → φ' id = none)
    (hold : ∀ id o, hp' id = some o → o ≠ .dead → (hp id = some o ∧ ¬ t id) ∨ ((∀ v b, φ' id = some v → blk v = some b → w.heap.size ≤ b ∨ ∃ id' o' v', t id' ∧ hp id' = some o' ∧ o' ≠ .dead ∧ φ id' = some v' ∧ blk v' = some b) ∧ ¬ (hp id = some o ∧ ¬ t id)))
    (hsome : ∀ id o, hp id = some o → o ≠ .dead → ∃ v, φ id = some v)
    (hobj : ∀ id o, hp' id = some o → ¬ (hp id = some o ∧ ¬ t id) → OR φ' w' (okB w0 oa φ' hp' w') w0.heap.size id o)
    (hinj : ∀ id id' o o' v v', hp' id = some o → hp' id' = some o' → o ≠ .dead → o' ≠ .dead → ¬ (hp id = some o ∧ ¬ t id) → id ≠ id' → φ' id = some v → φ' id' = some v' → blk v = none ∨ blk v ≠ blk v') :
    HR w0 oa φ' hp' w' ∧ (∀ b, okB w0 oa φ hp w b → okB w0 oa φ' hp' w' b ∧ w'.heap[b]? = w.heap[b]?) := by
  have hbs : w0.heap.size ≤ w.heap.size := h.below.size
  have hok : ∀ b, okB w0 oa φ hp w b → okB w0 oa φ' hp' w' b ∧ w'.heap[b]? = w.heap[b]? := by
    intro b hb
    have hlt := okB_lt hbs hb
    refine ⟨⟨?_, ?_⟩, hkeep b hlt fun id o v _ ho hn hv => hb.2 id o v ho hn hv⟩
    · rcases hb.1 with h1 | h1
      · exact .inl h1
      · exact .inr ⟨h1.1, by omega⟩
    · intro id o v ho hn hv he
      rcases hold id o ho hn with ⟨h1, h2⟩ | ⟨h1, _⟩
      · obtain ⟨v0, hv0⟩ := hsome id o h1 hn
        obtain rfl : v0 = v := Option.some.inj ((hφ _ _ hv0).symm.trans hv)
        exact hb.2 id o v0 h1 hn hv0 he
      · rcases h1 v b hv he with h3 | ⟨id', o', v', _, h4, h5, h6, h7⟩
        · omega
        · exact hb.2 id' o' v' h4 h5 h6 h7
  refine ⟨⟨hbelow, ?_, hfresh, ?_⟩, hok⟩
  · intro id o ho
    by_cases hc : hp id = some o ∧ ¬ t id
    · have h0 := h.obj id o hc.1
      cases o with
      | row e sz l =>
        obtain ⟨u, cs, hu, hs, hw, hr⟩ := h0
        refine ⟨u, cs, hφ _ _ hu, hs, ?_, hr.mono (fun b hb => (hok b hb).2) (fun b hb => (hok b hb).1)⟩
        refine ⟨hw.1, ?_⟩
        rcases hw.2 with h2 | ⟨g, cap, cur, rfl, hg, hh, r⟩
        · exact .inl h2
        · refine .inr ⟨g, cap, cur, rfl, hg, ?_, r⟩
          rw [hkeep g (Array.getElem?_eq_some_iff.1 hh).1 ?_]; exact hh
          intro id' o' v' ht ho' hn' hv' he
          have hne : id ≠ id' := fun e => hc.2 (e ▸ ht)
          rcases h.inj id id' _ _ _ _ hc.1 ho' (by simp) hn' hne hu hv' with h3 | h3
          · simp [blk] at h3
          · exact h3 (by rw [he]; simp [blk])
      | box l =>
        obtain ⟨b, ty, cs, hu, hb, hh, hl, h1, hr⟩ := h0
        refine ⟨b, ty, cs, hφ _ _ hu, hb, ?_, hl, h1, fun j x y hx hy => (hr j x y hx hy).mono hφ (fun b hb => (hok b hb).2) (fun b hb => (hok b hb).1)⟩
        rw [hkeep b (Array.getElem?_eq_some_iff.1 hh).1 ?_]; exact hh
        intro id' o' v' ht ho' hn' hv' he
        have hne : id ≠ id' := fun e => hc.2 (e ▸ ht)
        rcases h.inj id id' _ _ _ _ hc.1 ho' (by simp) hn' hne hu hv' with h3 | h3
        · simp [blk] at h3
        · exact h3 (by rw [he]; simp [blk])
      | dead => trivial
    · exact hobj id o ho hc
  · intro id id' o o' v v' ho ho' hn hn' hne hv hv'
    by_cases hc : hp id = some o ∧ ¬ t id
    · by_cases hc' : hp id' = some o' ∧ ¬ t id'
      · obtain ⟨u, hu⟩ := hsome id o hc.1 hn
        obtain ⟨u', hu'⟩ := hsome id' o' hc'.1 hn'
        obtain rfl : u = v := Option.some.inj ((hφ _ _ hu).symm.trans hv)
        obtain rfl : u' = v' := Option.some.inj ((hφ _ _ hu').symm.trans hv')
        exact h.inj id id' o o' u u' hc.1 hc'.1 hn hn' hne hu hu'
      · rcases hinj id' id o' o v' v ho' ho hn' hn hc' (Ne.symm hne) hv' hv with h1 | h1
        · by_cases hb : blk v = none
          · exact .inl hb
          · exact .inr (by rw [h1]; exact hb)
        · exact .inr (Ne.symm h1)
    · exact hinj id id' o o' v v' ho ho' hn hn' hc hne hv hv'
theorem HR.has {w0 w : World} {oa : Nat → Prop} {φ : Nat → Option Value} {hp : Nat → Option Ob} (h : HR w0 oa φ hp w) (id : Nat) (o : Ob) (ho : hp id = some o) (hn : o ≠ .dead) : ∃ v, φ id = some v := by
  have := h.obj id o ho
  cases o with
  | row e sz l => obtain ⟨u, _, hu, _⟩ := this; exact ⟨u, hu⟩
  | box l => obtain ⟨b, _, _, hu, _⟩ := this; exact ⟨_, hu⟩
  | dead => exact absurd rfl hn

end Go.Proofs.Ytljohhinokaklaa.Am
