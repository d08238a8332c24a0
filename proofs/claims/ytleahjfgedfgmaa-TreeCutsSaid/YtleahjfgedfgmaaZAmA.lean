import Derived.Below
import Derived.Laws.BytesArg
import Derived.Laws.MakeOwn
import Derived.Laws.OwnMore
import Derived.Laws.Rows
import Derived.Laws.Slices
import Derived.Laws.IdiomCopy
import Derived.Laws.Cells
import Derived.Laws.Tables
import Derived.Laws.Entries
import Derived.Calls
import Derived.Control
import Derived.KernelRfl
import Derived.Laws.Pointers
import Derived.Laws.Small
import Derived.Laws.StructEq
import Derived.Deep.AppendLies
import Derived.Laws.BytesString
import Derived.Laws.CopyRow
section
set_option linter.unusedVariables false
set_option linter.unusedSimpArgs false
set_option maxRecDepth 4000
namespace Go.Proofs.Ytleahjfgedfgmaa.Am
open Go Go.RowKit
inductive D where
  | v (x : Value)
  | list (l : List D)
  | agg (l : List D)
  | ref (d : D)
instance : Inhabited D:=⟨.v undef⟩
def D.cells : D → List D
  | .agg l=>l
  | .v x=>[.v x]
  | .list l=>[.list l]
  | .ref d=>[.ref d]
inductive V where
  | d (x : D)
  | nil
  | sl (id sz off len : Nat) (full : Bool)
  | ptr (id off : Nat)
  | ep (id sz i c : Nat)
  | slc (id sz off len cap : Nat)
  | mp (id : Nat)
  | bs (id off len : Nat)
  | es (id sz i c len : Nat)
  | agg (l : List V)
  | tup (l : List V)
  | junk
instance : Inhabited V:=⟨.junk⟩
inductive Ob where
  | row (e : TypeId) (sz : Nat) (l : List D)
  | box (l : List V)
  | opq (R : Obj → Prop)
  | rowv (e : TypeId) (l : List V)
  | mp (l : List (Int × D))
  | dead
structure St where
  tm : List (Nat × V)
  hp : List (Nat × Ob)
  nt : Nat
def gt : List (Nat × V) → Nat → V
  | [],_=>.junk
  | (k,x) :: r,j=>if j = k then x else gt r j
def go : List (Nat × Ob) → Nat → Option Ob
  | [],_=>none
  | (k,x) :: r,j=>if j = k then some x else go r j
def so (l : List (Nat × Ob)) (j : Nat) (o : Ob) : List (Nat × Ob):=(j,o) :: l
theorem go_so (l : List (Nat × Ob)) (j : Nat) (o : Ob) (k : Nat) : go (so l j o) k = if k = j then some o else go l k:=rfl
def blk : Value → Option Nat
  | .slice (some a) _ _=>some a.block
  | .pointer (some a)=>some a.block
  | .map (some r)=>some r
  | _=>none
inductive Rd (w : World) (ok : Nat → Prop) : D → Value → Prop
  | v (x : Value) : Rd w ok (.v x) x
  | agg (l : List D) (cs : Array Value) (hl : cs.size = l.length) (h1 : ∀ (j : Nat) (y : Value),cs[j]? = some y → y.oneCell' = true)
      (h : ∀ (j : Nat) (d : D) (y : Value),l[j]? = some d → cs[j]? = some y → Rd w ok d y) : Rd w ok (.agg l) (.agg cs)
  | nil (A : Option Addr) (c : Nat) : Rd w ok (.list []) (.slice A 0 c)
  | list (l : List D) (sz b o c : Nat) (vals : Nat → Value) (hc : l.length ≤ c) (hok : ok b) (hsz : 0 < sz) (hd : ∀ d ∈ l,d.cells.length = sz)
      (hv : ∀ j,j < l.length * sz → w.cell? ⟨b,o + j,none⟩ = some (vals j)) (h1 : ∀ j,j < l.length * sz → (vals j).oneCell' = true)
      (h : ∀ (i j : Nat) (d x : D),l[i]? = some d → d.cells[j]? = some x → Rd w ok x (vals (i * sz + j))) : Rd w ok (.list l) (.slice (some ⟨b,o,none⟩) l.length c)
  | ref (d : D) (b o : Nat) (vals : Nat → Value) (hok : ok b) (hv : ∀ j,j < d.cells.length → w.cell? ⟨b,o + j,none⟩ = some (vals j)) (h1 : ∀ j,j < d.cells.length → (vals j).oneCell' = true)
      (h : ∀ (j : Nat) (x : D),d.cells[j]? = some x → Rd w ok x (vals j)) : Rd w ok (.ref d) (.pointer (some ⟨b,o,none⟩))
theorem Rd.mono {w w' : World} {ok ok' : Nat → Prop} (hw : ∀ b,ok b → w'.heap[b]? = w.heap[b]?) (hok : ∀ b,ok b → ok' b) {d : D} {y : Value} (h : Rd w ok d y) : Rd w' ok' d y:=by
  induction h with
  | v x=>exact .v x
  | agg l cs hl h1 h ih=>exact .agg l cs hl h1 ih
  | nil A c=>exact .nil A c
  | list l sz b o c vals hc hb hsz hd hv h1 h ih =>
    exact .list l sz b o c vals hc (hok _ hb) hsz hd (fun j hj=>by rw [World.cell?_of_block (w:=w) (hw b hb)];exact hv j hj) h1 ih
  | ref d b o vals hb hv h1 h ih =>
    exact .ref d b o vals (hok _ hb) (fun j hj=>by rw [World.cell?_of_block (w:=w) (hw b hb)];exact hv j hj) h1 ih
inductive Scal : D → Prop
  | v (x : Value) : Scal (.v x)
  | agg (l : List D) (h : ∀ d ∈ l,Scal d) : Scal (.agg l)
theorem Rd.scal {w w' : World} {ok ok' : Nat → Prop} {d : D} {y : Value} (h : Rd w ok d y) : Scal d → Rd w' ok' d y:=by
  induction h with
  | v x=>exact fun _=>.v x
  | agg l cs hl h1 h ih=>exact fun hs=>.agg l cs hl h1 fun j d y hd hy=>ih j d y hd hy (by cases hs with|agg _ hs=>exact hs d (List.mem_of_getElem? hd))
  | nil A c=>exact fun hs=>by cases hs
  | list l sz b o c vals hc hb hsz hd hv h1 h ih=>exact fun hs=>by cases hs
  | ref d b o vals hb hv h1 h ih=>exact fun hs=>by cases hs
inductive VR (φ : Nat → Option Value) (w : World) (ok : Nat → Prop) : V → Value → Prop
  | d (x : D) (y : Value) (h : Rd w ok x y) : VR φ w ok (.d x) y
  | nil : VR φ w ok .nil (.slice none 0 0)
  | sl (id sz off len : Nat) (full : Bool) (u : Value) (A : Option Addr) (c : Nat) (hid : φ id = some u) (hc : len ≤ c) (hf : full = true → u = .slice A len c ∧ off = 0)
      (ha : len = 0 ∨ ∃ b n cap,u = .slice (some ⟨b,0,none⟩) n cap ∧ A = some ⟨b,off * sz,none⟩) : VR φ w ok (.sl id sz off len full) (.slice A len c)
  | ptr (id off b : Nat) (hid : φ id = some (.pointer (some ⟨b,0,none⟩))) : VR φ w ok (.ptr id off) (.pointer (some ⟨b,off,none⟩))
  | slc (id sz off len cap : Nat) (b n c : Nat) (hid : φ id = some (.slice (some ⟨b,0,none⟩) n c)) (hc : len ≤ cap) : VR φ w ok (.slc id sz off len cap) (.slice (some ⟨b,off * sz,none⟩) len cap)
  | mp (id b : Nat) (hid : φ id = some (.map (some b))) : VR φ w ok (.mp id) (.map (some b))
  | bs (id off len b : Nat) (hid : φ id = some (.pointer (some ⟨b,0,none⟩))) : VR φ w ok (.bs id off len) (.slice (some ⟨b,off,none⟩) len len)
  | es (id sz i c len b n cap : Nat) (hid : φ id = some (.slice (some ⟨b,0,none⟩) n cap)) : VR φ w ok (.es id sz i c len) (.slice (some ⟨b,i * sz + c,none⟩) len len)
  | ep (id sz i c b n cap : Nat) (hid : φ id = some (.slice (some ⟨b,0,none⟩) n cap)) : VR φ w ok (.ep id sz i c) (.pointer (some ⟨b,i * sz + c,none⟩))
  | agg (l : List V) (cs : Array Value) (hl : cs.size = l.length) (h1 : ∀ (j : Nat) (y : Value),cs[j]? = some y → y.oneCell' = true)
      (h : ∀ (j : Nat) (x : V) (y : Value),l[j]? = some x → cs[j]? = some y → VR φ w ok x y) : VR φ w ok (.agg l) (.agg cs)
  | tup (l : List V) (cs : Array Value) (hl : cs.size = l.length)
      (h : ∀ (j : Nat) (x : V) (y : Value),l[j]? = some x → cs[j]? = some y → VR φ w ok x y) : VR φ w ok (.tup l) (.tuple cs)
  | junk (y : Value) : VR φ w ok .junk y
theorem VR.mono {φ φ' : Nat → Option Value} {w w' : World} {ok ok' : Nat → Prop} (hφ : ∀ id v,φ id = some v → φ' id = some v) (hw : ∀ b,ok b → w'.heap[b]? = w.heap[b]?) (hok : ∀ b,ok b → ok' b)
    {x : V} {y : Value} (h : VR φ w ok x y) : VR φ' w' ok' x y:=by
  induction h with
  | d x y h=>exact .d x y (h.mono hw hok)
  | nil=>exact .nil
  | sl id sz off len full u A c hid hc hf ha=>exact .sl id sz off len full u A c (hφ _ _ hid) hc hf ha
  | ptr id off b hid=>exact .ptr id off b (hφ _ _ hid)
  | ep id sz i c b n cap hid=>exact .ep id sz i c b n cap (hφ _ _ hid)
  | slc id sz off len cap b n c hid hc=>exact .slc id sz off len cap b n c (hφ _ _ hid) hc
  | mp id b hid=>exact .mp id b (hφ _ _ hid)
  | bs id off len b hid=>exact .bs id off len b (hφ _ _ hid)
  | es id sz i c len b n cap hid=>exact .es id sz i c len b n cap (hφ _ _ hid)
  | agg l cs hl h1 h ih=>exact .agg l cs hl h1 ih
  | tup l cs hl h ih=>exact .tup l cs hl ih
  | junk y=>exact .junk y
def Rw (w : World) (ok : Nat → Prop) (sz : Nat) (l : List D) (cs : List Value) : Prop :=
  cs.length = l.length * sz ∧ (∀ u ∈ cs,u.oneCell' = true) ∧ (∀ d ∈ l,d.cells.length = sz) ∧
    ∀ (i j : Nat) (d x : D) (u : Value),l[i]? = some d → d.cells[j]? = some x → cs[i * sz + j]? = some u → Rd w ok x u
theorem Rw.mono {w w' : World} {ok ok' : Nat → Prop} (hw : ∀ b,ok b → w'.heap[b]? = w.heap[b]?) (hok : ∀ b,ok b → ok' b) {sz : Nat} {l : List D} {cs : List Value} (h : Rw w ok sz l cs) : Rw w' ok' sz l cs :=
  ⟨h.1,h.2.1,h.2.2.1,fun i j d x u a b c=>(h.2.2.2 i j d x u a b c).mono hw hok⟩
theorem Rw.nil {w : World} {ok : Nat → Prop} {sz : Nat} : Rw w ok sz [] []:=⟨by simp,by simp,by simp,by simp⟩
def OR (φ : Nat → Option Value) (w : World) (ok : Nat → Prop) (base id : Nat) : Ob → Prop
  | .row e sz l=>∃ u cs,φ id = some u ∧ 0 < sz ∧ w.ownsRow base e sz u l.length cs ∧ Rw w ok sz l cs
  | .box l=>∃ b t cs,φ id = some (.pointer (some ⟨b,0,none⟩)) ∧ base ≤ b ∧ w.heap[b]? = some (.cells cs t (0,0)) ∧ cs.size = l.length ∧ (∀ (j : Nat) (y : Value),cs[j]? = some y → y.oneCell' = true) ∧
      ∀ (j : Nat) (x : V) (y : Value),l[j]? = some x → cs[j]? = some y → VR φ w ok x y
  | .rowv e l=>∃ u cs,φ id = some u ∧ w.ownsRow base e 1 u l.length cs ∧ cs.length = l.length ∧ (∀ y ∈ cs,y.oneCell' = true) ∧ ∀ (j : Nat) (x : V) (y : Value),l[j]? = some x → cs[j]? = some y → VR φ w ok x y
  | .mp l=>∃ b es c,φ id = some (.map (some b)) ∧ w.heap[b]? = some (.map es c) ∧ es.size = l.length ∧ ∀ (j : Nat) (k : Int) (d : D) (en : MapEntry),l[j]? = some (k,d) → es[j]? = some en → en.key = .int .i64 k ∧ Rd w ok d en.val
  | .opq R=>∃ b x,φ id = some (.pointer (some ⟨b,0,none⟩)) ∧ w.heap[b]? = some x ∧ R x
  | .dead=>True
structure OA where
  rd : Nat → Prop
  own : Nat → Prop
  pin : Nat → Option Value
def OA.no (rd : Nat → Prop) : OA:=⟨rd,fun _=>False,fun _=>none⟩
def okB (w0 : World) (oa : OA) (φ : Nat → Option Value) (hp : Nat → Option Ob) (w : World) (b : Nat) : Prop :=
  (((oa.rd b ∨ oa.own b) ∧ b < w0.heap.size) ∨ (w0.heap.size ≤ b ∧ b < w.heap.size)) ∧ ∀ id o v,hp id = some o → o ≠ .dead → φ id = some v → blk v ≠ some b
structure Bel (w0 : World) (oa : OA) (w : World) : Prop where
  os : w.os = w0.os
  tape : w.tape = w0.tape
  output : w.output = w0.output
  size : w0.heap.size ≤ w.heap.size
  block : ∀ k,k < w0.heap.size → ¬ oa.own k → w.heap[k]? = w0.heap[k]?
def ours (w0 : World) (oa : OA) (b : Nat) : Prop:=w0.heap.size ≤ b ∨ oa.own b
theorem ours_ok {w0 w : World} {oa : OA} {b : Nat} (h : ours w0 oa b) (hb : b < w.heap.size) : ((oa.rd b ∨ oa.own b) ∧ b < w0.heap.size) ∨ (w0.heap.size ≤ b ∧ b < w.heap.size):=by
  rcases Nat.lt_or_ge b w0.heap.size with h1|h1
  · exact .inl ⟨h.elim (fun h2=>absurd h1 (by omega)) .inr,h1⟩
  · exact .inr ⟨h1,hb⟩
theorem Bel.refl (w0 : World) (oa : OA) : Bel w0 oa w0:=⟨rfl,rfl,rfl,Nat.le_refl _,fun _ _ _=>rfl⟩
theorem Bel.step {w0 w w' : World} {oa : OA} (h : Bel w0 oa w) (os : w'.os = w.os) (tape : w'.tape = w.tape) (output : w'.output = w.output) (size : w.heap.size ≤ w'.heap.size) (block : ∀ k,k < w.heap.size → ¬ ours w0 oa k → w'.heap[k]? = w.heap[k]?) : Bel w0 oa w' :=
  ⟨os.trans h.os,tape.trans h.tape,output.trans h.output,Nat.le_trans h.size size,fun k hk hn=>(block k (Nat.lt_of_lt_of_le hk h.size) (fun ho=>ho.elim (fun hle=>absurd hk (by omega)) hn)).trans (h.block k hk hn)⟩
theorem Bel.trans {w0 w w' : World} {oa : OA} (h : Bel w0 oa w) (k : Below w.heap.size w w') : Bel w0 oa w':=h.step k.os k.tape k.output k.size fun i hi _=>k.block i hi
theorem Bel.alloc {w0 w : World} {oa : OA} (h : Bel w0 oa w) (o : Obj) : Bel w0 oa (w.alloc o):=h.trans ((Below.refl _ _).alloc (Nat.le_refl _) o)
theorem Bel.grown {w0 w w' : World} {oa : OA} {row : Option Nat} (h : Bel w0 oa w) (hg : w.grownBy w' row) (hr : ∀ k,row = some k → ours w0 oa k) : Bel w0 oa w' :=
  h.step hg.os hg.tape hg.output hg.size fun i hi hn=>hg.block i hi fun e=>hn (hr i e.symm)
theorem Bel.below {w0 w : World} {rd : Nat → Prop} (h : Bel w0 (.no rd) w) : Below w0.heap.size w0 w:=⟨h.os,h.tape,h.output,h.size,fun k hk=>h.block k hk fun f=>f⟩
structure HR (w0 : World) (oa : OA) (φ : Nat → Option Value) (hp : Nat → Option Ob) (w : World) : Prop where
  below : Bel w0 oa w
  obj : ∀ id o,hp id = some o → OR φ w (okB w0 oa φ hp w) 0 id o
  mine : ∀ id o v b,hp id = some o → o ≠ .dead → φ id = some v → blk v = some b → ours w0 oa b
  pin : ∀ id v,oa.pin id = some v → 1000000 ≤ id ∧ hp id ≠ none ∧ ∀ o,hp id = some o → o ≠ .dead → φ id = some v
  fresh : ∀ id,hp id = none → φ id = none
  inj : ∀ id id' o o' v v',hp id = some o → hp id' = some o' → o ≠ .dead → o' ≠ .dead → id ≠ id' → φ id = some v → φ id' = some v' → blk v = none ∨ blk v ≠ blk v'
def SR (w0 : World) (oa : OA) (st : St) (a : Act) (w : World) : Prop :=
  ∃ φ,HR w0 oa φ (go st.hp) w ∧ a.tmps.size = st.nt ∧ a.defers = [] ∧ ∀ k,VR φ w (okB w0 oa φ (go st.hp) w) (gt st.tm k) (a.tmps.getD k undef)
theorem okB_lt {w0 w : World} {oa : OA} {φ : Nat → Option Value} {hp : Nat → Option Ob} (hb : w0.heap.size ≤ w.heap.size) {b : Nat} (h : okB w0 oa φ hp w b) : b < w.heap.size:=by
  rcases h.1 with h|h
  · omega
  · exact h.2
theorem HR.step {w0 w w' : World} {oa : OA} {φ φ' : Nat → Option Value} {hp hp' : Nat → Option Ob} (h : HR w0 oa φ hp w) (t : Nat → Prop)
    (hsz : w.heap.size ≤ w'.heap.size) (hbelow : Bel w0 oa w')
    (hkeep : ∀ b,b < w.heap.size → (∀ id o v,t id → hp id = some o → o ≠ .dead → φ id = some v → blk v ≠ some b) → w'.heap[b]? = w.heap[b]?)
    (hφ : ∀ id v,φ id = some v → φ' id = some v) (hfresh : ∀ id,hp' id = none → φ' id = none)
    (hold : ∀ id o,hp' id = some o → o ≠ .dead → (hp id = some o ∧ ¬ t id) ∨ ((∀ v b,φ' id = some v → blk v = some b → w.heap.size ≤ b ∨ ∃ id' o' v',t id' ∧ hp id' = some o' ∧ o' ≠ .dead ∧ φ id' = some v' ∧ blk v' = some b) ∧ ¬ (hp id = some o ∧ ¬ t id)))
    (hsome : ∀ id o,hp id = some o → o ≠ .dead → ∃ v,φ id = some v)
    (hobj : ∀ id o,hp' id = some o → ¬ (hp id = some o ∧ ¬ t id) → OR φ' w' (okB w0 oa φ' hp' w') 0 id o)
    (hpin : ∀ id,1000000 ≤ id → hp id ≠ none → hp' id ≠ none ∧ ∀ o,hp' id = some o → o ≠ .dead → hp id ≠ some .dead)
    (hinj : ∀ id id' o o' v v',hp' id = some o → hp' id' = some o' → o ≠ .dead → o' ≠ .dead → ¬ (hp id = some o ∧ ¬ t id) → id ≠ id' → φ' id = some v → φ' id' = some v' → blk v = none ∨ blk v ≠ blk v') :
    HR w0 oa φ' hp' w' ∧ (∀ b,okB w0 oa φ hp w b → okB w0 oa φ' hp' w' b ∧ w'.heap[b]? = w.heap[b]?):=by
  have hbs : w0.heap.size ≤ w.heap.size:=h.below.size
  have hok : ∀ b,okB w0 oa φ hp w b → okB w0 oa φ' hp' w' b ∧ w'.heap[b]? = w.heap[b]?:=by
    intro b hb
    have hlt:=okB_lt hbs hb
    refine ⟨⟨?_,?_⟩,hkeep b hlt fun id o v _ ho hn hv=>hb.2 id o v ho hn hv⟩
    · rcases hb.1 with h1|h1
      · exact .inl h1
      · exact .inr ⟨h1.1,by omega⟩
    · intro id o v ho hn hv he
      rcases hold id o ho hn with ⟨h1,h2⟩|⟨h1,_⟩
      · obtain ⟨v0,hv0⟩:=hsome id o h1 hn
        obtain rfl : v0 = v:=Option.some.inj ((hφ _ _ hv0).symm.trans hv)
        exact hb.2 id o v0 h1 hn hv0 he
      · rcases h1 v b hv he with h3|⟨id',o',v',_,h4,h5,h6,h7⟩
        · omega
        · exact hb.2 id' o' v' h4 h5 h6 h7
  have hmine : ∀ id o v b,hp' id = some o → o ≠ .dead → φ' id = some v → blk v = some b → ours w0 oa b:=by
    intro id o v b ho hn hv hb
    rcases hold id o ho hn with ⟨h1,h2⟩|⟨h1,_⟩
    · obtain ⟨v0,hv0⟩:=hsome id o h1 hn
      obtain rfl : v0 = v:=Option.some.inj ((hφ _ _ hv0).symm.trans hv)
      exact h.mine id o v0 b h1 hn hv0 hb
    · rcases h1 v b hv hb with h3|⟨id',o',v',_,h4,h5,h6,h7⟩
      · exact .inl (by omega)
      · exact h.mine id' o' v' b h4 h5 h6 h7
  have hpin' : ∀ id v,oa.pin id = some v → 1000000 ≤ id ∧ hp' id ≠ none ∧ ∀ o,hp' id = some o → o ≠ .dead → φ' id = some v:=by
    intro id v hv
    obtain ⟨g1,g2,g3⟩:=h.pin id v hv
    obtain ⟨k1,k2⟩:=hpin id g1 g2
    refine ⟨g1,k1,fun o ho hn=>?_⟩
    obtain ⟨o0,ho0⟩:=Option.ne_none_iff_exists'.1 g2
    exact hφ _ _ (g3 o0 ho0 fun e=>k2 o ho hn (by rw [ho0,e]))
  refine ⟨⟨hbelow,?_,hmine,hpin',hfresh,?_⟩,hok⟩
  · intro id o ho
    by_cases hc : hp id = some o ∧ ¬ t id
    · have h0:=h.obj id o hc.1
      cases o with
      | row e sz l =>
        obtain ⟨u,cs,hu,hs,hw,hr⟩:=h0
        refine ⟨u,cs,hφ _ _ hu,hs,?_,hr.mono (fun b hb=>(hok b hb).2) (fun b hb=>(hok b hb).1)⟩
        refine ⟨hw.1,?_⟩
        rcases hw.2 with h2|⟨g,cap,cur,rfl,hg,hh,r⟩
        · exact .inl h2
        · refine .inr ⟨g,cap,cur,rfl,hg,?_,r⟩
          rw [hkeep g (Array.getElem?_eq_some_iff.1 hh).1 ?_];exact hh
          intro id' o' v' ht ho' hn' hv' he
          have hne : id ≠ id':=fun e=>hc.2 (e ▸ ht)
          rcases h.inj id id' _ _ _ _ hc.1 ho' (by simp) hn' hne hu hv' with h3|h3
          · simp [blk] at h3
          · exact h3 (by rw [he];simp [blk])
      | box l =>
        obtain ⟨b,ty,cs,hu,hb,hh,hl,h1,hr⟩:=h0
        refine ⟨b,ty,cs,hφ _ _ hu,hb,?_,hl,h1,fun j x y hx hy=>(hr j x y hx hy).mono hφ (fun b hb=>(hok b hb).2) (fun b hb=>(hok b hb).1)⟩
        rw [hkeep b (Array.getElem?_eq_some_iff.1 hh).1 ?_];exact hh
        intro id' o' v' ht ho' hn' hv' he
        have hne : id ≠ id':=fun e=>hc.2 (e ▸ ht)
        rcases h.inj id id' _ _ _ _ hc.1 ho' (by simp) hn' hne hu hv' with h3|h3
        · simp [blk] at h3
        · exact h3 (by rw [he];simp [blk])
      | opq R =>
        obtain ⟨b,x,hu,hh,hr⟩:=h0
        refine ⟨b,x,hφ _ _ hu,?_,hr⟩
        rw [hkeep b (Array.getElem?_eq_some_iff.1 hh).1 ?_];exact hh
        intro id' o' v' ht ho' hn' hv' he
        have hne : id ≠ id':=fun e=>hc.2 (e ▸ ht)
        rcases h.inj id id' _ _ _ _ hc.1 ho' (by simp) hn' hne hu hv' with h3|h3
        · simp [blk] at h3
        · exact h3 (by rw [he];simp [blk])
      | rowv e l =>
        obtain ⟨u,cs,hu,hw,hl,h1,hr⟩:=h0
        refine ⟨u,cs,hφ _ _ hu,?_,hl,h1,fun j x y hx hy=>(hr j x y hx hy).mono hφ (fun b hb=>(hok b hb).2) (fun b hb=>(hok b hb).1)⟩
        refine ⟨hw.1,?_⟩
        rcases hw.2 with h2|⟨g,cap,cur,rfl,hg,hh,r⟩
        · exact .inl h2
        · refine .inr ⟨g,cap,cur,rfl,hg,?_,r⟩
          rw [hkeep g (Array.getElem?_eq_some_iff.1 hh).1 ?_];exact hh
          intro id' o' v' ht ho' hn' hv' he
          have hne : id ≠ id':=fun e=>hc.2 (e ▸ ht)
          rcases h.inj id id' _ _ _ _ hc.1 ho' (by simp) hn' hne hu hv' with h3|h3
          · simp [blk] at h3
          · exact h3 (by rw [he];simp [blk])
      | mp l =>
        obtain ⟨b,es,c,hu,hh,hl,hr⟩:=h0
        refine ⟨b,es,c,hφ _ _ hu,?_,hl,fun j k d en hx hy=>⟨(hr j k d en hx hy).1,(hr j k d en hx hy).2.mono (fun b hb=>(hok b hb).2) (fun b hb=>(hok b hb).1)⟩⟩
        rw [hkeep b (Array.getElem?_eq_some_iff.1 hh).1 ?_];exact hh
        intro id' o' v' ht ho' hn' hv' he
        have hne : id ≠ id':=fun e=>hc.2 (e ▸ ht)
        rcases h.inj id id' _ _ _ _ hc.1 ho' (by simp) hn' hne hu hv' with h3|h3
        · simp [blk] at h3
        · exact h3 (by rw [he];simp [blk])
      | dead=>trivial
    · exact hobj id o ho hc
  · intro id id' o o' v v' ho ho' hn hn' hne hv hv'
    by_cases hc : hp id = some o ∧ ¬ t id
    · by_cases hc' : hp id' = some o' ∧ ¬ t id'
      · obtain ⟨u,hu⟩:=hsome id o hc.1 hn
        obtain ⟨u',hu'⟩:=hsome id' o' hc'.1 hn'
        obtain rfl : u = v:=Option.some.inj ((hφ _ _ hu).symm.trans hv)
        obtain rfl : u' = v':=Option.some.inj ((hφ _ _ hu').symm.trans hv')
        exact h.inj id id' o o' u u' hc.1 hc'.1 hn hn' hne hu hu'
      · rcases hinj id' id o' o v' v ho' ho hn' hn hc' (Ne.symm hne) hv' hv with h1|h1
        · by_cases hb : blk v = none
          · exact .inl hb
          · exact .inr (by rw [h1];exact hb)
        · exact .inr (Ne.symm h1)
    · exact hinj id id' o o' v v' ho ho' hn hn' hc hne hv hv'
theorem HR.has {w0 w : World} {oa : OA} {φ : Nat → Option Value} {hp : Nat → Option Ob} (h : HR w0 oa φ hp w) (id : Nat) (o : Ob) (ho : hp id = some o) (hn : o ≠ .dead) : ∃ v,φ id = some v:=by
  have:=h.obj id o ho
  cases o with
  | row e sz l=>obtain ⟨u,_,hu,_⟩:=this;exact ⟨u,hu⟩
  | box l=>obtain ⟨b,_,_,hu,_⟩:=this;exact ⟨_,hu⟩
  | opq R=>obtain ⟨b,_,hu,_⟩:=this;exact ⟨_,hu⟩
  | rowv e l=>obtain ⟨u,_,hu,_⟩:=this;exact ⟨u,hu⟩
  | mp l=>obtain ⟨b,_,_,hu,_⟩:=this;exact ⟨_,hu⟩
  | dead=>exact absurd rfl hn
end Go.Proofs.Ytleahjfgedfgmaa.Am
end
section
set_option linter.unusedVariables false
set_option linter.unusedSimpArgs false
namespace Go.Proofs.Ytleahjfgedfgmaa.Am
open Go Go.RowKit
structure SRp (w0 : World) (oa : OA) (φ : Nat → Option Value) (st : St) (a : Act) (w : World) : Prop where
  hr : HR w0 oa φ (go st.hp) w
  sz : a.tmps.size = st.nt
  df : a.defers = []
  tm : ∀ k,VR φ w (okB w0 oa φ (go st.hp) w) (gt st.tm k) (a.tmps.getD k undef)
theorem SR.open {w0 : World} {oa : OA} {st : St} {a : Act} {w : World} (h : SR w0 oa st a w) : ∃ φ,SRp w0 oa φ st a w:=let ⟨φ,h1,h2,h3,h4⟩:=h;⟨φ,h1,h2,h3,h4⟩
theorem SRp.sr {w0 : World} {oa : OA} {φ : Nat → Option Value} {st : St} {a : Act} {w : World} (h : SRp w0 oa φ st a w) : SR w0 oa st a w:=⟨φ,h.hr,h.sz,h.df,h.tm⟩
def St.put (st : St) (d : Option Tmp) (x : V) : St :=
  match d with
  | some k=>{ st with tm:=(k,x) :: st.tm }
  | none=>st
def St.upd (st : St) (d : Option Tmp) (x : V) (ups : List (Nat × Ob)) : St:=St.put { st with hp:=ups ++ st.hp } d x
def dOk (d : Option Tmp) (nt : Nat) : Prop:=match d with|some k=>k < nt|none=>True
theorem getD_set (a : Array Value) (k j : Nat) (y : Value) (hk : k < a.size) : (a.setIfInBounds k y).getD j undef = if j = k then y else a.getD j undef:=by
  simp only [Array.getD_eq_getD_getElem?]
  by_cases h : j = k
  · subst h;simp [hk]
  · rw [if_neg h,Array.getElem?_setIfInBounds_ne (Ne.symm h)]
theorem SRp.put {w0 : World} {oa : OA} {φ : Nat → Option Value} {st : St} {a : Act} {w : World} (h : SRp w0 oa φ st a w) (d : Option Tmp) (hd : dOk d st.nt) {x : V} {y : Value}
    (hv : VR φ w (okB w0 oa φ (go st.hp) w) x y) : SRp w0 oa φ (st.put d x) (a.put d y) w:=by
  cases d with
  | none=>exact h
  | some k =>
    refine ⟨h.hr,by simpa [Act.put,St.put] using h.sz,h.df,fun j=>?_⟩
    show VR _ _ _ (gt ((k,x) :: st.tm) j) ((a.tmps.setIfInBounds k y).getD j undef)
    rw [getD_set _ _ _ _ (by rw [h.sz];exact hd)]
    simp only [gt]
    split
    · exact hv
    · exact h.tm j
theorem SRp.heap {w0 : World} {oa : OA} {φ φ' : Nat → Option Value} {st : St} {a : Act} {w w' : World} (h : SRp w0 oa φ st a w) {hp' : List (Nat × Ob)} (hφ : ∀ id v,φ id = some v → φ' id = some v)
    (hn : HR w0 oa φ' (go hp') w' ∧ (∀ b,okB w0 oa φ (go st.hp) w b → okB w0 oa φ' (go hp') w' b ∧ w'.heap[b]? = w.heap[b]?)) : SRp w0 oa φ' { st with hp:=hp' } a w' :=
  ⟨hn.1,h.sz,h.df,fun k=>(h.tm k).mono hφ (fun b hb=>(hn.2 b hb).2) (fun b hb=>(hn.2 b hb).1)⟩
def cV0 : Value → V
  | .slice none 0 0=>.nil
  | x=>.d (.v x)
def cV : Value → V
  | .agg cs=>if cs.all (·.oneCell') then .agg (cs.toList.map cV0) else .junk
  | x=>cV0 x
def St.ev (st : St) : Operand → V
  | .tmp t=>gt st.tm t
  | .const v=>cV v
  | _=>.junk
theorem vr_c0 {φ : Nat → Option Value} {w : World} {ok : Nat → Prop} (x : Value) : VR φ w ok (cV0 x) x:=by
  unfold cV0
  split
  · exact .nil
  · exact .d _ _ (.v x)
theorem vr_c {φ : Nat → Option Value} {w : World} {ok : Nat → Prop} (x : Value) : VR φ w ok (cV x) x:=by
  unfold cV
  split
  · rename_i cs
    split
    · rename_i hall
      refine .agg _ _ (by simp) (fun j y hy=>?_) (fun j x y hx hy=>?_)
      · exact Array.all_eq_true_iff_forall_mem.1 hall y (Array.mem_of_getElem? hy)
      · have : (cs.toList.map cV0)[j]? = some (cV0 y):=by simp [hy]
        rw [this] at hx;cases hx;exact vr_c0 y
    · exact .junk _
  · exact vr_c0 _
theorem SRp.ev {w0 : World} {oa : OA} {φ : Nat → Option Value} {st : St} {a : Act} {w : World} (h : SRp w0 oa φ st a w) (x : Operand) : VR φ w (okB w0 oa φ (go st.hp) w) (st.ev x) (a.eval x):=by
  cases x with
  | tmp t=>exact h.tm t
  | const v=>exact vr_c v
  | global g=>exact .junk _
  | func f=>exact .junk _
def Does (P : Program) (o : Oper) (st : St) (K : St → Prop) : Prop :=
  ∀ w0 oa φ a w,SRp w0 oa φ st a w → ∀ (next : Act → World → Prop) (Q : Exit → Act → World → Prop),(∀ st' a' w',K st' → SR w0 oa st' a' w' → next a' w') → o.wp P a w next Q
theorem does_run {P : Program} {o : Oper} {st : St} {K : St → Prop} (h : ∀ w0 oa φ a w,SRp w0 oa φ st a w → ∃ y w' st',(execOp a.eval o).run P w = .ok (.value y) w' ∧ K st' ∧ SR w0 oa st' (a.put o.dst y) w') : Does P o st K:=by
  intro w0 oa φ a w hs next Q hn
  obtain ⟨y,w',st',hr,hk,hs'⟩:=h w0 oa φ a w hs
  unfold Oper.wp
  rw [hr]
  exact hn st' _ _ hk hs'
theorem does_skip {P : Program} {o : Oper} {st : St} {K : St → Prop} (h : ∀ w0 oa φ a w,SRp w0 oa φ st a w → ∃ w' st',(execOp a.eval o).run P w = .ok .skip w' ∧ K st' ∧ SR w0 oa st' (a.put o.dst undef) w') : Does P o st K:=by
  intro w0 oa φ a w hs next Q hn
  obtain ⟨w',st',hr,hk,hs'⟩:=h w0 oa φ a w hs
  unfold Oper.wp
  rw [hr]
  exact hn st' _ _ hk hs'
theorem does_val {P : Program} {o : Oper} {st : St} {K : St → Prop} (x : V) (hd : dOk o.dst st.nt)
    (h : ∀ w0 oa φ a w,SRp w0 oa φ st a w → ∃ y,(execOp a.eval o).run P w = .ok (.value y) w ∧ VR φ w (okB w0 oa φ (go st.hp) w) x y) (hk : K (st.put o.dst x)) : Does P o st K :=
  does_run fun w0 oa φ a w hs=>let ⟨y,hr,hv⟩:=h w0 oa φ a w hs;⟨y,w,_,hr,hk,(hs.put _ hd hv).sr⟩
def isAggD : TypeDesc → Bool
  | .struct _|.array _ _=>true
  | _=>false
def tk (P : Program) (t : TypeId) : Option (Bool × Nat):=(P.underlying t).bind fun d=>(P.info? t).map fun i=>(isAggD d,i.size)
def el (P : Program) (t : TypeId) : Option (TypeId × Nat × Nat) :=
  match P.underlying t with
  | some (.slice e)=>(P.info? e).map fun i=>(e,i.size,i.bytes)
  | _=>none
def ar (P : Program) (t : TypeId) : Option (Nat × Nat) :=
  match P.underlying t with
  | some (.array n e)=>(P.info? e).map fun i=>(n,i.size)
  | _=>none
def zc (P : Program) (t : TypeId) : Option (List Value):=(P.info? t).bind fun i=>i.zero.map fun z=>z.cells.toList
def fo (P : Program) (s : TypeId) (f : Nat) : Option (Nat × TypeId) :=
  match P.underlying s with
  | some (.struct fs)=>(fs[f]?).map fun x=>(x.offset,x.type)
  | _=>none
def ik (P : Program) (t : TypeId) : Option IntKind :=
  match P.underlying t with
  | some (.int k)=>some k
  | _=>none
theorem run_size {P : Program} {t : TypeId} {i : TypeInfo} (h : P.info? t = some i) (w : World) : (sizeOf t).run P w = .ok i.size w:=by simp [sizeOf,typeInfo,h]
theorem run_isAgg {P : Program} {t : TypeId} {d : TypeDesc} (h : P.underlying t = some d) (w : World) : (isAgg t).run P w = .ok (isAggD d) w:=by
  unfold isAgg
  rw [Sem.run_bind,run_underlying h]
  cases d <;> rfl
theorem tk_open {P : Program} {t : TypeId} {b : Bool} {n : Nat} (h : tk P t = some (b,n)) : ∃ d i,P.underlying t = some d ∧ P.info? t = some i ∧ isAggD d = b ∧ i.size = n:=by
  unfold tk at h
  obtain ⟨d,hd,h⟩:=Option.bind_eq_some_iff.1 h
  obtain ⟨i,hi,h⟩:=Option.map_eq_some_iff.1 h
  cases h
  exact ⟨d,i,hd,hi,rfl,rfl⟩
theorem el_open {P : Program} {t e : TypeId} {sz by' : Nat} (h : el P t = some (e,sz,by')) : ∃ i,P.underlying t = some (.slice e) ∧ P.info? e = some i ∧ i.size = sz ∧ i.bytes = by':=by
  unfold el at h
  split at h
  · rename_i e' he
    obtain ⟨i,hi,h⟩:=Option.map_eq_some_iff.1 h
    cases h
    exact ⟨i,he,hi,rfl,rfl⟩
  · cases h
theorem ar_open {P : Program} {t : TypeId} {n sz : Nat} (h : ar P t = some (n,sz)) : ∃ e i,P.underlying t = some (.array n e) ∧ P.info? e = some i ∧ i.size = sz:=by
  unfold ar at h
  split at h
  · rename_i n' e' he
    obtain ⟨i,hi,h⟩:=Option.map_eq_some_iff.1 h
    cases h
    exact ⟨e',i,he,hi,rfl⟩
  · cases h
theorem zc_open {P : Program} {t : TypeId} {z : List Value} (h : zc P t = some z) : ∃ i v,P.info? t = some i ∧ i.zero = some v ∧ v.cells.toList = z:=by
  unfold zc at h
  obtain ⟨i,hi,h⟩:=Option.bind_eq_some_iff.1 h
  obtain ⟨v,hv,h⟩:=Option.map_eq_some_iff.1 h
  exact ⟨i,v,hi,hv,h⟩
theorem fo_open {P : Program} {s : TypeId} {f off : Nat} {t : TypeId} (h : fo P s f = some (off,t)) : ∃ fs fl,P.underlying s = some (.struct fs) ∧ fs[f]? = some fl ∧ fl.offset = off ∧ fl.type = t:=by
  unfold fo at h
  split at h
  · rename_i fs he
    obtain ⟨fl,hi,h⟩:=Option.map_eq_some_iff.1 h
    cases h
    exact ⟨fs,fl,he,hi,rfl,rfl⟩
  · cases h
theorem ik_open {P : Program} {t : TypeId} {k : IntKind} (h : ik P t = some k) : P.underlying t = some (.int k):=by
  unfold ik at h
  split at h
  · cases h;assumption
  · cases h
def e_move (x : Operand) (o : Oper) (st : St) (K : V → List (Nat × Ob) → Prop) : Prop:=dOk o.dst st.nt ∧ K (st.ev x) []
theorem s_move {P : Program} {x : Operand} {o : Oper} {st : St} {K : St → Prop} (ho : o.op = .move x) (h : e_move x o st fun x ups=>K (st.upd o.dst x ups)) : Does P o st K :=
  does_val _ h.1 (fun w0 oa φ a w hs=>⟨a.eval x,by simp [execOp,ho],hs.ev x⟩) h.2
theorem s_assign {P : Program} {x : Operand} {o : Oper} {st : St} {K : St → Prop} (ho : o.op = .assign x) (h : e_move x o st fun x ups=>K (st.upd o.dst x ups)) : Does P o st K :=
  does_val _ h.1 (fun w0 oa φ a w hs=>⟨a.eval x,by simp [execOp,ho],hs.ev x⟩) h.2
theorem vr_v {φ : Nat → Option Value} {w : World} {ok : Nat → Prop} {x y : Value} (h : VR φ w ok (.d (.v x)) y) : y = x:=by cases h with|d _ _ h=>cases h;rfl
def e_pick (c x y : Operand) (o : Oper) (st : St) (K : V → List (Nat × Ob) → Prop) : Prop :=
  dOk o.dst st.nt ∧ match st.ev c with
  | .d (.v (.bool b))=>(b = true → K (st.ev x) []) ∧ (b = false → K (st.ev y) [])
  | _=>False
theorem s_pick {P : Program} {c x y : Operand} {o : Oper} {st : St} {K : St → Prop} (ho : o.op = .pick c x y) (h : e_pick c x y o st fun x ups=>K (st.upd o.dst x ups)) : Does P o st K:=by
  obtain ⟨hd,h⟩:=h
  split at h
  · rename_i b hb
    cases b with
    | true =>
      refine does_val (st.ev x) hd (fun w0 oa φ a w hs=>⟨a.eval x,?_,hs.ev x⟩) (h.1 rfl)
      have hc:=hs.ev c
      rw [hb] at hc
      simp [execOp,ho,vr_v hc,asBool]
    | false =>
      refine does_val (st.ev y) hd (fun w0 oa φ a w hs=>⟨a.eval y,?_,hs.ev y⟩) (h.2 rfl)
      have hc:=hs.ev c
      rw [hb] at hc
      simp [execOp,ho,vr_v hc,asBool]
  · exact h.elim
def binV (op : BinOp) : Value → Value → Option Value
  | .int k a,.int k' b =>
    match op with
    | .shl=>if 0 ≤ b then some (.int k (k.wrap (a * 2 ^ (min b.toNat k.bits)))) else none
    | .shr=>if 0 ≤ b then some (.int k (a.fdiv (2 ^ (min b.toNat k.bits)))) else none
    | .add=>if k = k' then some (.int k (k.wrap (a + b))) else none
    | .sub=>if k = k' then some (.int k (k.wrap (a - b))) else none
    | .mul=>if k = k' then some (.int k (k.wrap (a * b))) else none
    | .quo=>if k = k' ∧ b ≠ 0 then some (.int k (k.wrap (a.tdiv b))) else none
    | .rem=>if k = k' ∧ b ≠ 0 then some (.int k (a.tmod b)) else none
    | .and=>if k = k' then some (.int k (bits .and k a b)) else none
    | .or=>if k = k' then some (.int k (bits .or k a b)) else none
    | .xor=>if k = k' then some (.int k (bits .xor k a b)) else none
    | .andNot=>if k = k' then some (.int k (bits .andNot k a b)) else none
    | .eql=>if k = k' then some (.bool (decide (a = b))) else none
    | .neq=>if k = k' then some (.bool (decide (a ≠ b))) else none
    | .lss=>if k = k' then some (.bool (decide (a < b))) else none
    | .leq=>if k = k' then some (.bool (decide (a ≤ b))) else none
    | .gtr=>if k = k' then some (.bool (decide (b < a))) else none
    | .geq=>if k = k' then some (.bool (decide (b ≤ a))) else none
  | .string a,.string b =>
    match op with
    | .eql=>some (.bool (a.toList == b.toList))
    | .neq=>some (.bool (!(a.toList == b.toList)))
    | _=>none
  | _,_=>none
theorem binV_run {P : Program} {op : BinOp} {t : TypeId} {u v r : Value} (x y : Operand) (h : binV op u v = some r) (w : World) : ((eqGuard op t x y u v).bind fun _=>binOp op t u v).run P w = .ok r w:=by
  cases u <;> cases v <;> try (simp [binV] at h;done)
  · rename_i k a k' b
    have hg : eqGuard op t x y (.int k a) (.int k' b) = pure ():=eqGuard_at_int op t x y _ k a
    rw [hg]
    show (binOp op t (.int k a) (.int k' b)).run P w = _
    cases op <;> simp only [binV] at h
    case shl=>split at h <;> simp at h;subst h;rename_i hb;simp [binOp,Op.shift,show ¬ b < 0 by omega]
    case shr=>split at h <;> simp at h;subst h;rename_i hb;simp [binOp,Op.shift,show ¬ b < 0 by omega]
    all_goals
      split at h
      case isFalse=>cases h
      rename_i hk
      first|subst hk|(obtain ⟨hk,hb⟩:=hk;subst hk)
      simp only [Option.some.injEq] at h
      subst h
      first
        | (simp [binOp,Op.intArith];done)
        | (simp [binOp,Op.intDiv,hb];done)
        | (simp [binOp,intBits_and,intBits_or,intBits_xor,intBits_andNot];done)
        | (simp [binOp,Op.intCmp];done)
        | (simp [binOp,Op.intCmp,bne,BEq.beq];done)
  · rename_i a b
    have hg : eqGuard op t x y (.string a) (.string b) = pure ():=eqGuard_at_string op t x y _ a
    rw [hg]
    show (binOp op t (.string a) (.string b)).run P w = _
    cases op <;> simp [binV] at h <;> subst h <;> simp [binOp,Op.stringOp]
end Go.Proofs.Ytleahjfgedfgmaa.Am
end
section
set_option linter.unusedVariables false
set_option linter.unusedSimpArgs false
namespace Go.Proofs.Ytleahjfgedfgmaa.Am
open Go Go.RowKit
def EqS (P : Program) (t : TypeId) (n : Nat) : Prop :=
  ∀ (xs ys : List Int) (w : World) (x y : Operand),xs.length = n → ys.length = n →
    (eqGuard .eql t x y (.agg (xs.map (Value.int .i64)).toArray) (.agg (ys.map (Value.int .i64)).toArray)).run P w = .ok () w ∧
    (eqGuard .neq t x y (.agg (xs.map (Value.int .i64)).toArray) (.agg (ys.map (Value.int .i64)).toArray)).run P w = .ok () w ∧
    (Op.equal t (.agg (xs.map (Value.int .i64)).toArray) (.agg (ys.map (Value.int .i64)).toArray)).run P w = .ok (decide (xs = ys)) w
def scs : List V → Option (List Int)
  | []=>some []
  | x :: r=>match x with
    | .d (.v (.int .i64 n))=>(scs r).map (n :: ·)
    | _=>none
theorem scs_vr {φ : Nat → Option Value} {w : World} {ok : Nat → Prop} : ∀ {l : List V} {xs : List Int} {cs : List Value},scs l = some xs → cs.length = l.length → (∀ (j : Nat) (x : V) (y : Value),l[j]? = some x → cs[j]? = some y → VR φ w ok x y) → cs = xs.map (Value.int .i64)
  | [],xs,cs,h,hl,_=>by
    simp only [scs,Option.some.injEq] at h
    subst h
    exact List.eq_nil_of_length_eq_zero (by simpa using hl)
  | x :: r,xs,cs,h,hl,hv=>by
    simp only [scs] at h
    split at h
    · rename_i n
      obtain ⟨ys,hys,rfl⟩:=Option.map_eq_some_iff.1 h
      match cs,hl with
      | c :: cr,hl =>
        have h1:=vr_v (hv 0 _ c rfl rfl)
        have h2:=scs_vr (cs:=cr) hys (by simpa using hl) fun j a b ha hb=>hv (j + 1) a b (by simpa using ha) (by simpa using hb)
        rw [h1,h2];rfl
    · cases h
theorem scs_len : ∀ {l : List V} {xs : List Int},scs l = some xs → xs.length = l.length
  | [],xs,h=>by simp only [scs,Option.some.injEq] at h;subst h;rfl
  | x :: r,xs,h=>by
    simp only [scs] at h
    split at h
    · obtain ⟨ys,hys,rfl⟩:=Option.map_eq_some_iff.1 h
      simp [scs_len hys]
    · cases h
theorem scs_arr {φ : Nat → Option Value} {w : World} {ok : Nat → Prop} {l : List V} {xs : List Int} {y : Value} (h : scs l = some xs) (hv : VR φ w ok (.agg l) y) : y = .agg (xs.map (Value.int .i64)).toArray:=by
  cases hv with
  | agg _ cs hl h1 hh =>
    have:=scs_vr (cs:=cs.toList) h (by simpa using hl) fun j x y hx hy=>hh j x y hx (by simpa using hy)
    rw [← this]
theorem vr_ref {φ : Nat → Option Value} {w : World} {ok : Nat → Prop} {x : D} {y : Value} (h : VR φ w ok (.d (.ref x)) y) : ∃ (b o : Nat) (vals : Nat → Value),y = .pointer (some ⟨b,o,none⟩) ∧ ok b ∧ (∀ j,j < x.cells.length → w.cell? ⟨b,o + j,none⟩ = some (vals j)) ∧
    (∀ j,j < x.cells.length → (vals j).oneCell' = true) ∧ ∀ (j : Nat) (z : D),x.cells[j]? = some z → Rd w ok z (vals j):=by
  cases h with
  | d _ _ h=>cases h with
    | ref _ b o vals hok hv h1 h=>exact ⟨b,o,vals,rfl,hok,hv,h1,h⟩
theorem vr_ptr {φ : Nat → Option Value} {w : World} {ok : Nat → Prop} {id off : Nat} {y : Value} (h : VR φ w ok (.ptr id off) y) : ∃ b,φ id = some (.pointer (some ⟨b,0,none⟩)) ∧ y = .pointer (some ⟨b,off,none⟩):=by
  cases h with
  | ptr _ _ b h=>exact ⟨b,h,rfl⟩
theorem vr_ep {φ : Nat → Option Value} {w : World} {ok : Nat → Prop} {id sz i c : Nat} {y : Value} (h : VR φ w ok (.ep id sz i c) y) : ∃ b n cap,φ id = some (.slice (some ⟨b,0,none⟩) n cap) ∧ y = .pointer (some ⟨b,i * sz + c,none⟩):=by
  cases h with
  | ep _ _ _ _ b n cap h=>exact ⟨b,n,cap,h,rfl⟩
theorem vr_agg {φ : Nat → Option Value} {w : World} {ok : Nat → Prop} {l : List V} {y : Value} (h : VR φ w ok (.agg l) y) : ∃ cs,y = .agg cs ∧ cs.size = l.length ∧ (∀ (j : Nat) (y : Value),cs[j]? = some y → y.oneCell' = true) ∧
    ∀ (j : Nat) (x : V) (y : Value),l[j]? = some x → cs[j]? = some y → VR φ w ok x y:=by
  cases h with
  | agg _ cs hl h1 h=>exact ⟨cs,rfl,hl,h1,h⟩
theorem vr_tup {φ : Nat → Option Value} {w : World} {ok : Nat → Prop} {l : List V} {y : Value} (h : VR φ w ok (.tup l) y) : ∃ cs,y = .tuple cs ∧ cs.size = l.length ∧
    ∀ (j : Nat) (x : V) (y : Value),l[j]? = some x → cs[j]? = some y → VR φ w ok x y:=by
  cases h with
  | tup _ cs hl h=>exact ⟨cs,rfl,hl,h⟩
theorem guard_bind {P : Program} {op : BinOp} {t : TypeId} {x y : Operand} {u v : Value} (h : eqGuard op t x y u v = pure ()) (X : Sem Value) (w : World) : ((eqGuard op t x y u v).bind fun _=>X).run P w = X.run P w:=by
  rw [h];rfl
def isPtrT (P : Program) (t : TypeId) : Bool:=match P.underlying t with|some (.pointer _)=>true|_=>false
theorem isPtrT_open {P : Program} {t : TypeId} (h : isPtrT P t = true) : P.underlying t = some (.pointer (P.pointee t)):=by
  unfold isPtrT at h
  split at h
  · rename_i e he;simp [Program.pointee,he]
  · cases h
def isBoolT (P : Program) (t : TypeId) : Bool:=match P.underlying t with|some .bool=>true|_=>false
theorem isBoolT_open {P : Program} {t : TypeId} (h : isBoolT P t = true) : P.underlying t = some .bool:=by
  unfold isBoolT at h
  split at h
  · assumption
  · cases h
def binW (P : Program) (Es : TypeId → Nat → Prop) (op : BinOp) (t : TypeId) (x y : V) (K : Value → Prop) : Prop :=
  match x with
  | .d (.v u)=>match y with
    | .d (.v v)=>match u with
      | .bool a=>match v with
        | .bool b=>isBoolT P t = true ∧ (match op with|.eql=>K (.bool (a == b))|.neq=>K (.bool (!(a == b)))|_=>False)
        | _=>False
      | .pointer none=>match v with
        | .pointer none=>isPtrT P t = true ∧ (match op with|.eql=>K (.bool true)|.neq=>K (.bool false)|_=>False)
        | _=>False
      | _=>match binV op u v with
        | some r=>K r
        | none=>False
    | _=>False
  | .agg l=>match y with
    | .agg m=>match scs l with
      | some xs=>match scs m with
        | some ys=>Es t l.length ∧ l.length = m.length ∧ (match op with|.eql=>K (.bool (decide (xs = ys)))|.neq=>K (.bool (!(decide (xs = ys))))|_=>False)
        | none=>False
      | none=>False
    | _=>False
  | .d (.ref _)=>match y with
    | .d (.v (.pointer none))=>isPtrT P t = true ∧ (match op with|.eql=>K (.bool false)|.neq=>K (.bool true)|_=>False)
    | _=>False
  | .ptr _ _=>match y with
    | .d (.v (.pointer none))=>isPtrT P t = true ∧ (match op with|.eql=>K (.bool false)|.neq=>K (.bool true)|_=>False)
    | _=>False
  | _=>False
def e_bin (P : Program) (Es : TypeId → Nat → Prop) (op : BinOp) (t : TypeId) (x y : Operand) (o : Oper) (st : St) (K : V → List (Nat × Ob) → Prop) : Prop :=
  dOk o.dst st.nt ∧ binW P Es op t (st.ev x) (st.ev y) fun r=>K (.d (.v r)) []
theorem run_binop {P : Program} {o : Oper} {a : Act} {op : BinOp} {t u : TypeId} {x y : Operand} (ho : o.op = .binOp op t x y u) (w : World) :
    (execOp a.eval o).run P w = (((eqGuard op t x y (a.eval x) (a.eval y)).bind fun _=>binOp op t (a.eval x) (a.eval y)).run P w).andThen fun r w=>.ok (.value r) w:=by
  cases hr : (eqGuard op t x y (a.eval x) (a.eval y)).run P w <;> simp [execOp,ho,Sem.run_bind',hr]
theorem bin_ok {P : Program} {o : Oper} {st : St} {K : Value → Prop} {op : BinOp} {t u : TypeId} {x y : Operand} (ho : o.op = .binOp op t x y u) {r : Value} {w0 : World} {oa : OA} {φ : Nat → Option Value} {a : Act} {w : World} (hs : SRp w0 oa φ st a w)
    (h : ((eqGuard op t x y (a.eval x) (a.eval y)).bind fun _=>binOp op t (a.eval x) (a.eval y)).run P w = .ok r w) : ∃ y,(execOp a.eval o).run P w = .ok (.value y) w ∧ VR φ w (okB w0 oa φ (go st.hp) w) (.d (.v r)) y :=
  ⟨r,by rw [run_binop ho,h];rfl,.d _ _ (.v _)⟩
theorem s_bin {P : Program} {Es : TypeId → Nat → Prop} (hEs : ∀ t n,Es t n → EqS P t n) {op : BinOp} {t u : TypeId} {x y : Operand} {o : Oper} {st : St} {K : St → Prop}
    (ho : o.op = .binOp op t x y u) (h : e_bin P Es op t x y o st fun x ups=>K (st.upd o.dst x ups)) : Does P o st K:=by
  obtain ⟨hd,h⟩:=h
  unfold binW at h
  split at h
  · rename_i u hx
    split at h
    · rename_i v hy
      have key : ∀ r : Value,(∀ w,((eqGuard op t x y u v).bind fun _=>binOp op t u v).run P w = .ok r w) → K (st.put o.dst (.d (.v r))) → Does P o st K:=by
        intro r hr hk
        refine does_val _ hd (fun w0 oa φ a w hs=>?_) hk
        have e1:=hs.ev x;rw [hx] at e1
        have e2:=hs.ev y;rw [hy] at e2
        exact bin_ok (K:=fun _=>True) ho hs (by rw [vr_v e1,vr_v e2];exact hr w)
      split at h
      · split at h
        · obtain ⟨hu,h⟩:=h
          have hu:=isBoolT_open hu
          split at h
          · exact key _ (fun w=>by rw [guard_bind (eqGuard_at_bool _ _ _ _ _ _)];simp only [binOp];simp [run_equal_bool w t _ _ hu]) h
          · exact key _ (fun w=>by rw [guard_bind (eqGuard_at_bool _ _ _ _ _ _)];simp only [binOp];simp [run_equal_bool w t _ _ hu]) h
          · exact h.elim
        · exact h.elim
      · split at h
        · obtain ⟨hu,h⟩:=h
          have hu:=isPtrT_open hu
          split at h
          · exact key _ (fun w=>by rw [guard_bind (eqGuard_at_pointer _ _ _ _ _ _),run_eql_pointer_nil w t _ hu];rfl) h
          · exact key _ (fun w=>by rw [guard_bind (eqGuard_at_pointer _ _ _ _ _ _),run_neq_pointer_nil w t _ hu];rfl) h
          · exact h.elim
        · exact h.elim
      · split at h
        · rename_i r hr
          exact key r (fun w=>binV_run x y hr w) h
        · exact h.elim
    · exact h.elim
  · rename_i l hx
    split at h
    · rename_i m hy
      split at h
      · rename_i xs hxs
        split at h
        · rename_i ys hys
          obtain ⟨hE,hlm,h⟩:=h
          have key : ∀ r : Value,(∀ w,((eqGuard op t x y (.agg (xs.map (Value.int .i64)).toArray) (.agg (ys.map (Value.int .i64)).toArray)).bind fun _=>binOp op t (.agg (xs.map (Value.int .i64)).toArray) (.agg (ys.map (Value.int .i64)).toArray)).run P w = .ok r w) →
              K (st.put o.dst (.d (.v r))) → Does P o st K:=by
            intro r hr hk
            refine does_val _ hd (fun w0 oa φ a w hs=>?_) hk
            have e1:=hs.ev x;rw [hx] at e1
            have e2:=hs.ev y;rw [hy] at e2
            exact bin_ok (K:=fun _=>True) ho hs (by rw [scs_arr hxs e1,scs_arr hys e2];exact hr w)
          have hE:=fun w=>hEs t _ hE xs ys w x y (scs_len hxs) (by rw [scs_len hys,hlm])
          split at h
          · exact key _ (fun w=>by rw [Sem.run_bind',(hE w).1];simp [binOp,(hE w).2.2]) h
          · exact key _ (fun w=>by rw [Sem.run_bind',(hE w).2.1];simp [binOp,(hE w).2.2]) h
          · exact h.elim
        · exact h.elim
      · exact h.elim
    · exact h.elim
  · rename_i d hx
    split at h
    · rename_i hy
      obtain ⟨hu,h⟩:=h
      have hu:=isPtrT_open hu
      split at h
      · refine does_val _ hd (fun w0 oa φ a w hs=>?_) h
        have e1:=hs.ev x;rw [hx] at e1
        have e2:=hs.ev y;rw [hy] at e2
        obtain ⟨b,o',vals,e1,_⟩:=vr_ref e1
        exact bin_ok (K:=fun _=>True) ho hs (by rw [e1,vr_v e2,guard_bind (eqGuard_at_pointer _ _ _ _ _ _),run_eql_pointer_nil w t _ hu];rfl)
      · refine does_val _ hd (fun w0 oa φ a w hs=>?_) h
        have e1:=hs.ev x;rw [hx] at e1
        have e2:=hs.ev y;rw [hy] at e2
        obtain ⟨b,o',vals,e1,_⟩:=vr_ref e1
        exact bin_ok (K:=fun _=>True) ho hs (by rw [e1,vr_v e2,guard_bind (eqGuard_at_pointer _ _ _ _ _ _),run_neq_pointer_nil w t _ hu];rfl)
      · exact h.elim
    · exact h.elim
  · rename_i id off hx
    split at h
    · rename_i hy
      obtain ⟨hu,h⟩:=h
      have hu:=isPtrT_open hu
      split at h
      · refine does_val _ hd (fun w0 oa φ a w hs=>?_) h
        have e1:=hs.ev x;rw [hx] at e1
        have e2:=hs.ev y;rw [hy] at e2
        obtain ⟨b,_,e1⟩:=vr_ptr e1
        exact bin_ok (K:=fun _=>True) ho hs (by rw [e1,vr_v e2,guard_bind (eqGuard_at_pointer _ _ _ _ _ _),run_eql_pointer_nil w t _ hu];rfl)
      · refine does_val _ hd (fun w0 oa φ a w hs=>?_) h
        have e1:=hs.ev x;rw [hx] at e1
        have e2:=hs.ev y;rw [hy] at e2
        obtain ⟨b,_,e1⟩:=vr_ptr e1
        exact bin_ok (K:=fun _=>True) ho hs (by rw [e1,vr_v e2,guard_bind (eqGuard_at_pointer _ _ _ _ _ _),run_neq_pointer_nil w t _ hu];rfl)
      · exact h.elim
    · exact h.elim
  · exact h.elim
def e_un (op : UnOp) (x : Operand) (o : Oper) (st : St) (K : V → List (Nat × Ob) → Prop) : Prop :=
  dOk o.dst st.nt ∧ match op,st.ev x with
  | .not,.d (.v (.bool b))=>K (.d (.v (.bool (!b)))) []
  | .neg,.d (.v (.int k n))=>K (.d (.v (.int k (k.wrap (0 - n))))) []
  | _,_=>False
theorem s_un {P : Program} {op : UnOp} {t : TypeId} {x : Operand} {o : Oper} {st : St} {K : St → Prop} (ho : o.op = .unOp op t x) (h : e_un op x o st fun x ups=>K (st.upd o.dst x ups)) : Does P o st K:=by
  obtain ⟨hd,h⟩:=h
  split at h
  · rename_i b hx
    refine does_val _ hd (fun w0 oa φ a w hs=>⟨_,?_,.d _ _ (.v _)⟩) h
    have e1:=hs.ev x;rw [hx] at e1
    simp [execOp,ho,vr_v e1,Op.unary]
  · rename_i k n hx
    refine does_val _ hd (fun w0 oa φ a w hs=>⟨_,?_,.d _ _ (.v _)⟩) h
    have e1:=hs.ev x;rw [hx] at e1
    simp [execOp,ho,vr_v e1,Op.unary,Op.intArith]
  · exact h.elim
def e_conv (P : Program) (src dst : TypeId) (x : Operand) (o : Oper) (st : St) (K : V → List (Nat × Ob) → Prop) : Prop :=
  dOk o.dst st.nt ∧ (P.underlying src).isSome = true ∧ match ik P dst,st.ev x with
  | some k,.d (.v (.int _ n))=>K (.d (.v (.int k (k.wrap n)))) []
  | _,_=>False
theorem s_conv {P : Program} {src dst : TypeId} {x : Operand} {o : Oper} {st : St} {K : St → Prop} (ho : o.op = .convert src dst x) (h : e_conv P src dst x o st fun x ups=>K (st.upd o.dst x ups)) : Does P o st K:=by
  obtain ⟨hd,hsrc,h⟩:=h
  split at h
  · rename_i k k0 n hk hx
    refine does_val _ hd (fun w0 oa φ a w hs=>⟨_,?_,.d _ _ (.v _)⟩) h
    have e1:=hs.ev x;rw [hx] at e1
    have hk:=ik_open hk
    obtain ⟨ds,hds⟩:=Option.isSome_iff_exists.1 hsrc
    simp [execOp,ho,vr_v e1,convert,run_underlying hds,run_underlying hk,Conv.intToInt]
  · exact h.elim
def e_extract (x : Operand) (i : Nat) (o : Oper) (st : St) (K : V → List (Nat × Ob) → Prop) : Prop :=
  dOk o.dst st.nt ∧ match st.ev x with
  | .tup l=>match l[i]? with
    | some y=>K y []
    | none=>False
  | _=>False
theorem s_extract {P : Program} {x : Operand} {i : Nat} {o : Oper} {st : St} {K : St → Prop} (ho : o.op = .extract x i) (h : e_extract x i o st fun x ups=>K (st.upd o.dst x ups)) : Does P o st K:=by
  obtain ⟨hd,h⟩:=h
  split at h
  · rename_i l hx
    split at h
    · rename_i y hy
      refine does_run fun w0 oa φ a w hs=>?_
      have e1:=hs.ev x;rw [hx] at e1
      obtain ⟨cs,e1,hl,hh⟩:=vr_tup e1
      obtain ⟨z,hz⟩ : ∃ z,cs[i]? = some z:=⟨cs[i]'(by rw [hl];exact (List.getElem?_eq_some_iff.1 hy).1),by simp⟩
      refine ⟨z,w,_,?_,h,(hs.put _ hd (hh i y z hy hz)).sr⟩
      simp [execOp,ho,e1,Instr.extract,hz]
    · exact h.elim
  · exact h.elim
def toD1 (hp : List (Nat × Ob)) : V → Option D
  | .d x=>match x with
    | .agg _=>none
    | x=>some x
  | .nil=>some (.list [])
  | .sl id sz off len _=>match go hp id with
    | some (.row _ sz' l)=>if sz = sz' ∧ off + len ≤ l.length then some (.list ((l.drop off).take len)) else none
    | _=>none
  | .slc id sz off len _=>match go hp id with
    | some (.row _ sz' l)=>if sz = sz' ∧ off + len ≤ l.length then some (.list ((l.drop off).take len)) else none
    | _=>none
  | _=>none
def slOf : V → Option (Nat × Nat × Nat × Nat)
  | .sl id sz off len _=>some (id,sz,off,len)
  | .slc id sz off len _=>some (id,sz,off,len)
  | _=>none
theorem vr_slOf {φ : Nat → Option Value} {w : World} {ok : Nat → Prop} {x : V} {id sz off len : Nat} {y : Value} (h : slOf x = some (id,sz,off,len)) (hv : VR φ w ok x y) : VR φ w ok (.sl id sz off len false) y:=by
  cases x with
  | sl a b c d e =>
    simp only [slOf,Option.some.injEq,Prod.mk.injEq] at h
    obtain ⟨rfl,rfl,rfl,rfl⟩:=h
    cases hv with|sl _ _ _ _ _ u A c hid hc hf ha=>exact .sl _ _ _ _ _ u A c hid hc (fun h=>by cases h) ha
  | slc a b c d e =>
    simp only [slOf,Option.some.injEq,Prod.mk.injEq] at h
    obtain ⟨rfl,rfl,rfl,rfl⟩:=h
    cases hv with|slc _ _ _ _ _ b n c hid hc=>exact .sl _ _ _ _ _ _ _ _ hid hc (fun h=>by cases h) (.inr ⟨b,n,c,rfl,rfl⟩)
  | _=>simp [slOf] at h
def toDs (hp : List (Nat × Ob)) : List V → Option (List D)
  | []=>some []
  | x :: r=>match toD1 hp x with
    | some d=>(toDs hp r).map (d :: ·)
    | none=>none
def elems (hp : List (Nat × Ob)) : V → Option (List D)
  | .d (.list l)=>some l
  | .nil=>some []
  | .sl id sz off len _=>match go hp id with
    | some (.row _ sz' l)=>if sz = sz' ∧ off + len ≤ l.length then some ((l.drop off).take len) else none
    | _=>none
  | .slc id sz off len _=>match go hp id with
    | some (.row _ sz' l)=>if sz = sz' ∧ off + len ≤ l.length then some ((l.drop off).take len) else none
    | _=>none
  | .bs id off len=>match go hp id with
    | some (.box l)=>if off + len ≤ l.length then toDs [] ((l.drop off).take len) else none
    | _=>none
  | _=>none
def toD (hp : List (Nat × Ob)) : V → Option D
  | .agg l=>(toDs hp l).map .agg
  | x=>toD1 hp x
def pu1 : V → Bool
  | .d _|.nil=>true
  | _=>false
def pu : V → Bool
  | .agg l=>l.all pu1
  | x=>pu1 x
theorem row_slice {w : World} {ok : Nat → Prop} {base e sz : Nat} {u : Value} {l : List D} {cs : List Value} (hsz : 0 < sz) (ho : w.ownsRow base e sz u l.length cs) (hr : Rw w ok sz l cs) (ok' : Nat → Prop) (hok : ∀ b,ok b → ok' b) (hb : ∀ b,blk u = some b → ok' b)
    {off len : Nat} (hle : off + len ≤ l.length) {A : Option Addr} {c : Nat} (hc : len ≤ c) (ha : len = 0 ∨ ∃ b n cap,u = .slice (some ⟨b,0,none⟩) n cap ∧ A = some ⟨b,off * sz,none⟩) : Rd w ok' (.list ((l.drop off).take len)) (.slice A len c):=by
  have hlen : ((l.drop off).take len).length = len:=by rw [List.length_take,List.length_drop];omega
  by_cases h0 : len = 0
  · subst h0
    simp only [List.take_zero]
    exact .nil A c
  · rcases ha with ha|⟨b,n,cap,rfl,rfl⟩
    · exact absurd ha h0
    · have hcell:=ho.cells (g:=b) rfl
      have hcl : cs.length = l.length * sz:=hr.1
      have hlt : ∀ j,j < len * sz → off * sz + j < cs.length:=by
        intro j hj
        rw [hcl]
        calc off * sz + j < off * sz + len * sz:=by omega
          _ = (off + len) * sz:=by rw [Nat.add_mul]
          _ ≤ l.length * sz:=Nat.mul_le_mul_right _ hle
      have hget : ∀ j,j < len * sz → cs[off * sz + j]? = some (cs.getD (off * sz + j) undef):=by
        intro j hj
        simp [List.getD_eq_getElem?_getD,hlt j hj]
      have:=Rd.list (w:=w) (ok:=ok') ((l.drop off).take len) sz b (off * sz) c (fun j=>cs.getD (off * sz + j) undef) (by rw [hlen];exact hc) (hb b rfl) hsz
        (fun d hd=>hr.2.2.1 d (List.mem_of_mem_drop (List.mem_of_mem_take hd)))
        (fun j hj=>by
          rw [hlen] at hj
          have:=hcell (off * sz + j) _ (hget j hj)
          rwa [Addr.add_lit,Nat.zero_add] at this)
        (fun j hj=>by rw [hlen] at hj;exact hr.2.1 _ (List.mem_of_getElem? (hget j hj)))
        (fun i j d x hd hx=>by
          have hi : i < len:=by
            have:=(List.getElem?_eq_some_iff.1 hd).1
            rw [hlen] at this;exact this
          have hj : j < sz:=by
            have:=hr.2.2.1 d (List.mem_of_mem_drop (List.mem_of_mem_take (List.mem_of_getElem? hd)))
            rw [← this];exact (List.getElem?_eq_some_iff.1 hx).1
          have hd' : l[off + i]? = some d:=by
            rw [List.getElem?_take,if_pos hi,List.getElem?_drop] at hd
            exact hd
          have hj2 : i * sz + j < len * sz:=by
            calc i * sz + j < i * sz + sz:=by omega
              _ = (i + 1) * sz:=by rw [Nat.add_mul,Nat.one_mul]
              _ ≤ len * sz:=Nat.mul_le_mul_right _ hi
          have e : off * sz + (i * sz + j) = (off + i) * sz + j:=by rw [Nat.add_mul,Nat.add_assoc]
          refine (hr.2.2.2 (off + i) j d x _ hd' hx ?_).mono (fun _ _=>rfl) hok
          rw [← e];exact hget _ hj2)
      rw [hlen] at this
      exact this
theorem blk_own (u : Value) : ∀ b,blk u = some b → u.ownBlock = some b ∨ (∃ a,u = .pointer (some a)) ∨ ∃ a,u = .map (some a):=by
  intro b h
  unfold blk at h
  split at h
  · exact .inl h
  · exact .inr (.inl ⟨_,rfl⟩)
  · exact .inr (.inr ⟨_,rfl⟩)
  · cases h
theorem toD1_sl {hp : List (Nat × Ob)} {id sz off len : Nat} {full : Bool} {d : D} (h : toD1 hp (.sl id sz off len full) = some d) : ∃ e l,go hp id = some (.row e sz l) ∧ off + len ≤ l.length ∧ d = .list ((l.drop off).take len):=by
  simp only [toD1] at h
  split at h
  · rename_i e sz' l hg
    split at h
    · rename_i hc
      obtain ⟨rfl,hc⟩:=hc
      cases h
      exact ⟨e,l,hg,hc,rfl⟩
    · cases h
  · cases h
theorem toD1_rd {w0 w : World} {oa : OA} {φ : Nat → Option Value} {hp : List (Nat × Ob)} (hr : HR w0 oa φ (go hp) w) {x : V} {y : Value} (hv : VR φ w (okB w0 oa φ (go hp) w) x y) {d : D} (h : toD1 hp x = some d) :
    Rd w (fun b=>b < w.heap.size) d y ∧ (pu1 x = true → Rd w (okB w0 oa φ (go hp) w) d y):=by
  have hok : ∀ b,okB w0 oa φ (go hp) w b → b < w.heap.size:=fun b hb=>okB_lt hr.below.size hb
  cases x with
  | d x =>
    cases x with
    | agg l=>simp [toD1] at h
    | v x=>simp only [toD1,Option.some.injEq] at h;subst h;cases hv with|d _ _ hv=>exact ⟨hv.mono (fun _ _=>rfl) hok,fun _=>hv⟩
    | list x=>simp only [toD1,Option.some.injEq] at h;subst h;cases hv with|d _ _ hv=>exact ⟨hv.mono (fun _ _=>rfl) hok,fun _=>hv⟩
    | ref x=>simp only [toD1,Option.some.injEq] at h;subst h;cases hv with|d _ _ hv=>exact ⟨hv.mono (fun _ _=>rfl) hok,fun _=>hv⟩
  | nil=>simp only [toD1,Option.some.injEq] at h;subst h;cases hv;exact ⟨.nil _ _,fun _=>.nil _ _⟩
  | sl id sz off len full =>
    obtain ⟨e,l,hg,hle,rfl⟩:=toD1_sl h
    obtain ⟨u,cs,hu,hsz,ho,hrw⟩:=hr.obj id _ hg
    refine ⟨?_,fun h=>by simp [pu1] at h⟩
    cases hv with
    | sl _ _ _ _ _ u' A c hid hc hf ha =>
      obtain rfl : u = u':=Option.some.inj (hu.symm.trans hid)
      refine row_slice hsz ho hrw _ hok ?_ hle hc ha
      intro b hb
      rcases blk_own u b hb with h1|⟨a,rfl⟩|⟨a,rfl⟩
      · exact (ho.lt b h1).2
      · rcases ho.2 with ⟨h2,_⟩|⟨_,_,_,h2,_⟩ <;> simp at h2
      · rcases ho.2 with ⟨h2,_⟩|⟨_,_,_,h2,_⟩ <;> simp at h2
  | slc id sz off len cap =>
    obtain ⟨e,l,hg,hle,rfl⟩:=toD1_sl (full:=true) h
    obtain ⟨u,cs,hu,hsz,ho,hrw⟩:=hr.obj id _ hg
    refine ⟨?_,fun h=>by simp [pu1] at h⟩
    cases hv with
    | slc _ _ _ _ _ b n c hid hc =>
      obtain rfl:=Option.some.inj (hu.symm.trans hid)
      refine row_slice hsz ho hrw _ hok ?_ hle hc (.inr ⟨b,n,c,rfl,rfl⟩)
      intro b2 hb
      rcases blk_own _ b2 hb with h1|⟨a,h1⟩|⟨a,h1⟩
      · exact (ho.lt b2 h1).2
      · rcases ho.2 with ⟨h2,_⟩|⟨_,_,_,h2,_⟩ <;> simp at h1
      · rcases ho.2 with ⟨h2,_⟩|⟨_,_,_,h2,_⟩ <;> simp at h1
  | _=>simp [toD1] at h
end Go.Proofs.Ytleahjfgedfgmaa.Am
end
section
set_option linter.unusedVariables false
set_option linter.unusedSimpArgs false
namespace Go.Proofs.Ytleahjfgedfgmaa.Am
open Go Go.RowKit
def lenV : V → Option Nat
  | .d (.list l)=>some l.length
  | .nil=>some 0
  | .sl _ _ _ n _=>some n
  | .slc _ _ _ n _=>some n
  | .bs _ _ n=>some n
  | .es _ _ _ _ n=>some n
  | _=>none
theorem lenV_vr {φ : Nat → Option Value} {w : World} {ok : Nat → Prop} {x : V} {n : Nat} {y : Value} (h : lenV x = some n) (hv : VR φ w ok x y) : ∃ A c,y = .slice A n c ∧ n ≤ c:=by
  cases x with
  | d x=>cases x with
    | list l =>
      simp only [lenV,Option.some.injEq] at h
      subst h
      cases hv with
      | d _ _ hv=>cases hv with
        | nil A c=>exact ⟨A,c,rfl,Nat.zero_le _⟩
        | list _ sz b o c vals hc=>exact ⟨_,c,rfl,hc⟩
    | _=>simp [lenV] at h
  | nil=>simp only [lenV,Option.some.injEq] at h;subst h;cases hv;exact ⟨_,_,rfl,Nat.le_refl _⟩
  | sl id sz off len full=>simp only [lenV,Option.some.injEq] at h;subst h;cases hv with|sl _ _ _ _ _ u A c _ hc=>exact ⟨A,c,rfl,hc⟩
  | slc id sz off len cap=>simp only [lenV,Option.some.injEq] at h;subst h;cases hv with|slc _ _ _ _ _ b n c _ hc=>exact ⟨_,cap,rfl,hc⟩
  | bs id off len=>simp only [lenV,Option.some.injEq] at h;subst h;cases hv;exact ⟨_,_,rfl,Nat.le_refl _⟩
  | es id sz i c len=>simp only [lenV,Option.some.injEq] at h;subst h;cases hv;exact ⟨_,_,rfl,Nat.le_refl _⟩
  | _=>simp [lenV] at h
def slT (P : Program) (t : TypeId) : Bool:=match P.underlying t with|some (.slice _)=>true|_=>false
theorem slT_open {P : Program} {t : TypeId} (h : slT P t = true) : P.underlying t = some (.slice (P.elem t)):=by
  unfold slT at h
  split at h
  · rename_i e he;simp [Program.elem,he]
  · cases h
def e_len (P : Program) (t : TypeId) (x : Operand) (o : Oper) (st : St) (K : V → List (Nat × Ob) → Prop) : Prop :=
  dOk o.dst st.nt ∧ slT P t = true ∧ match lenV (st.ev x) with
  | some n=>K (.d (.v (.int .i64 n))) []
  | none=>False
theorem s_len {P : Program} {t : TypeId} {x : Operand} {o : Oper} {st : St} {K : St → Prop} (ho : o.op = .call { callee:=.builtin .len,args:=#[x],argTypes:=#[t] }) (h : e_len P t x o st fun x ups=>K (st.upd o.dst x ups)) : Does P o st K:=by
  obtain ⟨hd,ht,h⟩:=h
  split at h
  · rename_i n hn
    refine does_val _ hd (fun w0 oa φ a w hs=>⟨_,?_,.d _ _ (.v _)⟩) h
    obtain ⟨A,c,e1,_⟩:=lenV_vr hn (hs.ev x)
    simp [execOp,ho,resolve,invoke,builtin,e1,run_len_slice w t _ A n c (slT_open ht),goInt]
  · exact h.elim
def e_cap (P : Program) (t : TypeId) (x : Operand) (o : Oper) (st : St) (K : V → List (Nat × Ob) → Prop) : Prop :=
  dOk o.dst st.nt ∧ slT P t = true ∧ match st.ev x with
  | .slc _ _ _ _ c=>K (.d (.v (.int .i64 c))) []
  | _=>False
theorem s_cap {P : Program} {t : TypeId} {x : Operand} {o : Oper} {st : St} {K : St → Prop} (ho : o.op = .call { callee:=.builtin .cap,args:=#[x],argTypes:=#[t] }) (h : e_cap P t x o st fun x ups=>K (st.upd o.dst x ups)) : Does P o st K:=by
  obtain ⟨hd,ht,h⟩:=h
  split at h
  · rename_i id sz off len c hx
    refine does_val _ hd (fun w0 oa φ a w hs=>⟨_,?_,.d _ _ (.v _)⟩) h
    have e1:=hs.ev x;rw [hx] at e1
    generalize hY : a.eval x = Y at e1
    cases e1 with
    | slc _ _ _ _ _ b n c2 hid hc =>
      simp [execOp,ho,resolve,invoke,builtin,hY,run_cap_slice w t _ _ len c (slT_open ht),goInt]
  · exact h.elim
theorem min2_min (k : IntKind) (x y : Int) : Builtin.min2 (.int k x) (.int k y) = pure (.int k (min x y)):=by
  simp only [Builtin.min2]
  congr 2
  simp only [Int.min_def]
  split <;> split <;> omega
theorem max2_max (k : IntKind) (x y : Int) : Builtin.max2 (.int k x) (.int k y) = pure (.int k (max x y)):=by
  simp only [Builtin.max2]
  congr 2
  simp only [Int.max_def]
  split <;> split <;> omega
def e_mm (mx : Bool) (xs : Array Operand) (o : Oper) (st : St) (K : V → List (Nat × Ob) → Prop) : Prop :=
  dOk o.dst st.nt ∧ match xs.toList with
  | [x,y]=>match st.ev x,st.ev y with
    | .d (.v (.int k a)),.d (.v (.int k' b))=>k = k' ∧ K (.d (.v (.int k (if mx = true then max a b else min a b)))) []
    | _,_=>False
  | [x,y,z]=>match st.ev x,st.ev y,st.ev z with
    | .d (.v (.int k a)),.d (.v (.int k' b)),.d (.v (.int k'' c))=>k = k' ∧ k = k'' ∧ K (.d (.v (.int k (if mx = true then max (max a b) c else min (min a b) c)))) []
    | _,_,_=>False
  | _=>False
theorem s_mm {P : Program} {mx : Bool} {xs : Array Operand} {ts : Array TypeId} {o : Oper} {st : St} {K : St → Prop} (ho : o.op = .call { callee:=.builtin (if mx then .max else .min),args:=xs,argTypes:=ts }) (h : e_mm mx xs o st fun x ups=>K (st.upd o.dst x ups)) : Does P o st K:=by
  obtain ⟨hd,h⟩:=h
  obtain ⟨xs⟩:=xs
  dsimp only at h
  split at h
  · rename_i x y
    split at h
    · rename_i k a k' b hx hy
      obtain ⟨rfl,h⟩:=h
      refine does_val _ hd (fun w0 oa φ ac w hs=>⟨_,?_,.d _ _ (.v _)⟩) h
      have e1:=hs.ev x;rw [hx] at e1
      have e2:=hs.ev y;rw [hy] at e2
      cases mx <;> simp [execOp,ho,resolve,invoke,builtin,vr_v e1,vr_v e2,Builtin.max_,Builtin.min_,max2_max,min2_min]
    · exact h.elim
  · rename_i x y z
    split at h
    · rename_i k a k' b k'' c hx hy hz
      obtain ⟨rfl,rfl,h⟩:=h
      refine does_val _ hd (fun w0 oa φ ac w hs=>⟨_,?_,.d _ _ (.v _)⟩) h
      have e1:=hs.ev x;rw [hx] at e1
      have e2:=hs.ev y;rw [hy] at e2
      have e3:=hs.ev z;rw [hz] at e3
      cases mx <;> simp [execOp,ho,resolve,invoke,builtin,vr_v e1,vr_v e2,vr_v e3,Builtin.max_,Builtin.min_,max2_max,min2_min]
    · exact h.elim
  · exact h.elim
def nth (l : List D) (i : Nat) : D:=l.getD i (.v undef)
theorem nth_get {l : List D} {i : Nat} (h : i < l.length) : l[i]? = some (nth l i):=by simp [nth,List.getD_eq_getElem?_getD,h]
def e_nil (x : Operand) (o : Oper) (st : St) (K : V → List (Nat × Ob) → Prop) : Prop :=
  dOk o.dst st.nt ∧ match st.ev x with
  | .ptr id off=>K (.ptr id off) []
  | .ep id sz i c=>K (.ep id sz i c) []
  | .d (.ref d)=>K (.d (.ref d)) []
  | _=>False
theorem s_nil {P : Program} {x : Operand} {o : Oper} {st : St} {K : St → Prop} (ho : o.op = .nilCheck x) (h : e_nil x o st fun x ups=>K (st.upd o.dst x ups)) : Does P o st K:=by
  obtain ⟨hd,h⟩:=h
  split at h
  · rename_i id off hx
    refine does_val _ hd (fun w0 oa φ a w hs=>⟨a.eval x,?_,by have:=hs.ev x;rwa [hx] at this⟩) h
    have e1:=hs.ev x;rw [hx] at e1
    obtain ⟨b,_,e1⟩:=vr_ptr e1
    simp [execOp,ho,e1]
  · rename_i id sz i c hx
    refine does_val _ hd (fun w0 oa φ a w hs=>⟨a.eval x,?_,by have:=hs.ev x;rwa [hx] at this⟩) h
    have e1:=hs.ev x;rw [hx] at e1
    obtain ⟨b,_,_,_,e1⟩:=vr_ep e1
    simp [execOp,ho,e1]
  · rename_i d hx
    refine does_val _ hd (fun w0 oa φ a w hs=>⟨a.eval x,?_,by have:=hs.ev x;rwa [hx] at this⟩) h
    have e1:=hs.ev x;rw [hx] at e1
    obtain ⟨b,o',vals,e1,_⟩:=vr_ref e1
    simp [execOp,ho,e1]
  · exact h.elim
def e_index (P : Program) (t : TypeId) (x i : Operand) (o : Oper) (st : St) (K : V → List (Nat × Ob) → Prop) : Prop :=
  dOk o.dst st.nt ∧ match st.ev i with
  | .d (.v (.int _ n))=>match st.ev x with
    | .d (.list l)=>match el P t with
      | some (_,sz,_)=>0 ≤ n ∧ n < l.length ∧ (nth l n.toNat).cells.length = sz ∧ K (.d (.ref (nth l n.toNat))) []
      | none=>False
    | .sl id sz off len _=>match el P t with
      | some (_,sz',_)=>0 ≤ n ∧ n < len ∧ sz = sz' ∧ K (.ep id sz (off + n.toNat) 0) []
      | none=>False
    | .ptr id off=>match ar P t with
      | some (m,sz)=>0 ≤ n ∧ n < m ∧ K (.ptr id (off + n.toNat * sz)) []
      | none=>False
    | .slc id sz off len _=>match el P t with
      | some (_,sz',_)=>0 ≤ n ∧ n < len ∧ sz = sz' ∧ K (.ep id sz (off + n.toNat) 0) []
      | none=>False
    | .ep id sz j c=>match ar P t with
      | some (m,s1)=>0 ≤ n ∧ n < m ∧ K (.ep id sz j (c + n.toNat * s1)) []
      | none=>False
    | _=>False
  | _=>False
theorem s_index {P : Program} {t : TypeId} {x i : Operand} {o : Oper} {st : St} {K : St → Prop} (ho : o.op = .indexAddr t x i) (h : e_index P t x i o st fun x ups=>K (st.upd o.dst x ups)) : Does P o st K:=by
  obtain ⟨hd,h⟩:=h
  split at h
  · rename_i k n hi
    split at h
    · rename_i l hx
      split at h
      · rename_i e sz by' he
        obtain ⟨h0,h1,hc,h⟩:=h
        obtain ⟨inf,hu,hinf,rfl,_⟩:=el_open he
        have hn : n.toNat < l.length:=by omega
        refine does_run fun w0 oa φ a w hs=>?_
        have e1:=hs.ev x;rw [hx] at e1
        have e2:=hs.ev i;rw [hi] at e2
        cases hY : a.eval x with
        | slice A m c =>
          rw [hY] at e1
          cases e1 with
          | d _ _ e1 =>
            cases e1 with
            | nil=>simp at hn
            | list _ sz b o' c vals hc' hok hsz hdd hv hone hh =>
              have hcl : (nth l n.toNat).cells.length = sz:=hdd _ (List.mem_of_getElem? (nth_get hn))
              have hszz : sz = inf.size:=by rw [← hcl,hc]
              subst hszz
              have hj2 : ∀ j,j < inf.size → n.toNat * inf.size + j < l.length * inf.size:=fun j hj=>by
                calc n.toNat * inf.size + j < n.toNat * inf.size + inf.size:=by omega
                  _ = (n.toNat + 1) * inf.size:=by rw [Nat.add_mul,Nat.one_mul]
                  _ ≤ l.length * inf.size:=Nat.mul_le_mul_right _ hn
              refine ⟨.pointer (some ⟨b,o' + n.toNat * inf.size,none⟩),w,_,?_,h,(hs.put _ hd (.d _ _ (.ref _ _ _ (fun j=>vals (n.toNat * inf.size + j)) hok ?_ ?_ ?_))).sr⟩
              · have hr:=run_indexAt_slice (P:=P) w t ⟨b,o',none⟩ l.length c k n (slT_open (by simp [slT,hu]))
                have hel : P.elem t = e:=by simp [Program.elem,hu]
                rw [hel,run_size hinf,if_pos ⟨h0,h1⟩] at hr
                simp [execOp,ho,hY,vr_v e2,hr,Addr.add_lit]
              · intro j hj
                rw [hcl] at hj
                rw [Nat.add_assoc]
                exact hv _ (hj2 j hj)
              · intro j hj
                rw [hcl] at hj
                exact hone _ (hj2 j hj)
              · intro j z hz
                exact hh n.toNat j _ z (nth_get hn) hz
        | _=>rw [hY] at e1;cases e1 with|d _ _ e1=>cases e1
      · exact h.elim
    · rename_i id sz off len full hx
      split at h
      · rename_i e sz' by' he
        obtain ⟨h0,h1,rfl,h⟩:=h
        obtain ⟨inf,hu,hinf,rfl,_⟩:=el_open he
        refine does_run fun w0 oa φ a w hs=>?_
        have e1:=hs.ev x;rw [hx] at e1
        have e2:=hs.ev i;rw [hi] at e2
        cases hY : a.eval x with
        | slice A m c =>
          rw [hY] at e1
          cases e1 with
          | sl _ _ _ _ _ u _ _ hid hc hf ha =>
            rcases ha with ha|⟨b,m',cap,rfl,rfl⟩
            · omega
            · refine ⟨.pointer (some ⟨b,(off + n.toNat) * inf.size + 0,none⟩),w,_,?_,h,(hs.put _ hd (.ep _ _ _ _ b m' cap hid)).sr⟩
              have hr:=run_indexAt_slice (P:=P) w t ⟨b,off * inf.size,none⟩ len c k n (slT_open (by simp [slT,hu]))
              have hel : P.elem t = e:=by simp [Program.elem,hu]
              rw [hel,run_size hinf,if_pos ⟨h0,h1⟩] at hr
              simp [execOp,ho,hY,vr_v e2,hr,Addr.add_lit,Nat.add_mul]
        | _=>rw [hY] at e1;cases e1
      · exact h.elim
    · rename_i id off hx
      split at h
      · rename_i m sz he
        obtain ⟨h0,h1,h⟩:=h
        obtain ⟨e,inf,hu,hinf,rfl⟩:=ar_open he
        refine does_run fun w0 oa φ a w hs=>?_
        have e1:=hs.ev x;rw [hx] at e1
        have e2:=hs.ev i;rw [hi] at e2
        obtain ⟨b,hb,e1⟩:=vr_ptr e1
        refine ⟨.pointer (some ⟨b,off + n.toNat * inf.size,none⟩),w,_,?_,h,(hs.put _ hd (.ptr _ _ b hb)).sr⟩
        have hel : P.elem t = e:=by simp [Program.elem,hu]
        have hal : P.arrayLen t = m:=by simp [Program.arrayLen,hu]
        have hr:=run_indexAt_array (P:=P) w t ⟨b,off,none⟩ k n (by rw [hel,hal];exact hu)
        rw [hel,hal,run_size hinf,if_pos ⟨h0,h1⟩] at hr
        simp [execOp,ho,e1,vr_v e2,hr,Addr.add_lit]
      · exact h.elim
    · rename_i id sz off len cp hx
      split at h
      · rename_i e sz' by' he
        obtain ⟨h0,h1,rfl,h⟩:=h
        obtain ⟨inf,hu,hinf,rfl,_⟩:=el_open he
        refine does_run fun w0 oa φ a w hs=>?_
        have e1:=hs.ev x;rw [hx] at e1
        have e2:=hs.ev i;rw [hi] at e2
        cases hY : a.eval x with
        | slice A m c =>
          rw [hY] at e1
          cases e1 with
          | slc _ _ _ _ _ b m' cap hid hc =>
            refine ⟨.pointer (some ⟨b,(off + n.toNat) * inf.size + 0,none⟩),w,_,?_,h,(hs.put _ hd (.ep _ _ _ _ b m' cap hid)).sr⟩
            have hr:=run_indexAt_slice (P:=P) w t ⟨b,off * inf.size,none⟩ len cp k n (slT_open (by simp [slT,hu]))
            have hel : P.elem t = e:=by simp [Program.elem,hu]
            rw [hel,run_size hinf,if_pos ⟨h0,h1⟩] at hr
            simp [execOp,ho,hY,vr_v e2,hr,Addr.add_lit,Nat.add_mul]
        | _=>rw [hY] at e1;cases e1
      · exact h.elim
    · rename_i id sz j c hx
      split at h
      · rename_i m s1 he
        obtain ⟨h0,h1,h⟩:=h
        obtain ⟨e,inf,hu,hinf,rfl⟩:=ar_open he
        refine does_run fun w0 oa φ a w hs=>?_
        have e1:=hs.ev x;rw [hx] at e1
        have e2:=hs.ev i;rw [hi] at e2
        cases hY : a.eval x with
        | pointer A =>
          rw [hY] at e1
          cases e1 with
          | ep _ _ _ _ b m' cap hb =>
            refine ⟨.pointer (some ⟨b,j * sz + (c + n.toNat * inf.size),none⟩),w,_,?_,h,(hs.put _ hd (.ep _ _ _ _ b m' cap hb)).sr⟩
            have hel : P.elem t = e:=by simp [Program.elem,hu]
            have hal : P.arrayLen t = m:=by simp [Program.arrayLen,hu]
            have hr:=run_indexAt_array (P:=P) w t ⟨b,j * sz + c,none⟩ k n (by rw [hel,hal];exact hu)
            rw [hel,hal,run_size hinf,if_pos ⟨h0,h1⟩] at hr
            simp [execOp,ho,hY,vr_v e2,hr,Addr.add_lit,Nat.add_assoc]
        | _=>rw [hY] at e1;cases e1
      · exact h.elim
    · exact h.elim
  · exact h.elim
def subD (b : Bool) (n off : Nat) (l : List D) : Option D :=
  if b = true then (if off + n ≤ l.length then some (.agg ((l.drop off).take n)) else none) else l[off]?
def e_field (P : Program) (s : TypeId) (x : Operand) (f : Nat) (o : Oper) (st : St) (K : V → List (Nat × Ob) → Prop) : Prop :=
  dOk o.dst st.nt ∧ match fo P s f with
  | some (off,t)=>match tk P t with
    | some (b,n)=>n ≠ 0 ∧ match st.ev x with
      | .ptr id c=>K (.ptr id (c + off)) []
      | .ep id sz i c=>K (.ep id sz i (c + off)) []
      | .d (.ref (.agg l))=>match subD b n off l with
        | some d=>(b = true ∨ d.cells = [d]) ∧ K (.d (.ref d)) []
        | none=>False
      | _=>False
    | none=>False
  | none=>False
theorem s_field {P : Program} {s : TypeId} {x : Operand} {f : Nat} {o : Oper} {st : St} {K : St → Prop} (ho : o.op = .fieldAddr s x f) (h : e_field P s x f o st fun x ups=>K (st.upd o.dst x ups)) : Does P o st K:=by
  obtain ⟨hd,h⟩:=h
  split at h
  · rename_i off t hf
    split at h
    · rename_i b n ht
      obtain ⟨hn,h⟩:=h
      obtain ⟨fs,fl,hs,hfl,rfl,rfl⟩:=fo_open hf
      obtain ⟨d,inf,hu,hinf,hb,rfl⟩:=tk_open ht
      have hrun : ∀ (bb oo : Nat) (w : World),(Instr.fieldAt s (.pointer (some ⟨bb,oo,none⟩)) f).run P w = .ok (.pointer (some ⟨bb,oo + fl.offset,none⟩)) w:=by
        intro bb oo w
        simp [Instr.fieldAt,run_underlying hs,hfl,Instr.sureAddr,fieldPlace,run_size hinf,hn,Addr.add_lit]
      split at h
      · rename_i id c hx
        refine does_run fun w0 oa φ a w hss=>?_
        have e1:=hss.ev x;rw [hx] at e1
        obtain ⟨bb,hbb,e1⟩:=vr_ptr e1
        exact ⟨_,w,_,by (simp [execOp,ho,e1,hrun] <;> rfl),h,(hss.put _ hd (.ptr _ _ bb hbb)).sr⟩
      · rename_i id sz i c hx
        refine does_run fun w0 oa φ a w hss=>?_
        have e1:=hss.ev x;rw [hx] at e1
        obtain ⟨bb,m,cap,hbb,e1⟩:=vr_ep e1
        exact ⟨_,w,_,by (simp [execOp,ho,e1,hrun] <;> rfl),h,(hss.put _ hd (by rw [Nat.add_assoc];exact .ep _ _ _ _ bb m cap hbb)).sr⟩
      · rename_i l hx
        split at h
        · rename_i d' hd'
          obtain ⟨hcell,h⟩:=h
          refine does_run fun w0 oa φ a w hss=>?_
          have e1:=hss.ev x;rw [hx] at e1
          obtain ⟨bb,oo,vals,e1,hok,hv,h1,hh⟩:=vr_ref e1
          simp only [D.cells] at hv h1 hh
          refine ⟨_,w,_,by (simp [execOp,ho,e1,hrun] <;> rfl),h,(hss.put _ hd (.d _ _ (.ref _ _ _ (fun j=>vals (fl.offset + j)) hok ?_ ?_ ?_))).sr⟩
          all_goals
            unfold subD at hd'
            split at hd'
            · split at hd'
              · rename_i hle
                cases hd'
                intro j
                first
                  | (intro hj
                     simp only [D.cells,List.length_take,List.length_drop] at hj
                     first|(rw [Nat.add_assoc];exact hv _ (by omega))|exact h1 _ (by omega))
                  | (intro z hz
                     simp only [D.cells] at hz
                     rw [List.getElem?_take] at hz
                     split at hz
                     · rw [List.getElem?_drop] at hz
                       exact hh _ z hz
                     · cases hz)
              · cases hd'
            · rename_i hbf
              have hc1 : d'.cells = [d']:=hcell.resolve_left hbf
              have hlt:=(List.getElem?_eq_some_iff.1 hd').1
              intro j
              first
                | (intro hj
                   rw [hc1] at hj
                   simp only [List.length_singleton] at hj
                   have : j = 0:=by omega
                   subst this
                   first|(rw [Nat.add_assoc];exact hv _ hlt)|exact h1 _ hlt)
                | (intro z hz
                   rw [hc1] at hz
                   cases j with
                   | zero=>cases hz;exact hh _ _ hd'
                   | succ j=>simp at hz)
        · exact h.elim
      · exact h.elim
    · exact h.elim
  · exact h.elim
end Go.Proofs.Ytleahjfgedfgmaa.Am
end
section
set_option linter.unusedVariables false
set_option linter.unusedSimpArgs false
namespace Go.Proofs.Ytleahjfgedfgmaa.Am
open Go Go.RowKit
def ldV (b : Bool) (n : Nat) (l : List V) : Option V :=
  if b = true then (if n ≤ l.length then some (.agg (l.take n)) else none) else l.head?
structure Win (φ : Nat → Option Value) (w : World) (ok : Nat → Prop) (bb o : Nat) (l : List V) (f : Nat → Value) : Prop where
  cell : ∀ j,j < l.length → w.cell? ⟨bb,o + j,none⟩ = some (f j)
  one : ∀ j,j < l.length → (f j).oneCell' = true
  vr : ∀ j x,l[j]? = some x → VR φ w ok x (f j)
theorem Win.drop {φ : Nat → Option Value} {w : World} {ok : Nat → Prop} {bb o : Nat} {l : List V} {f : Nat → Value} (h : Win φ w ok bb o l f) (k : Nat) : Win φ w ok bb (o + k) (l.drop k) (fun j=>f (k + j)):=by
  refine ⟨fun j hj=>?_,fun j hj=>?_,fun j x hx=>?_⟩
  · rw [List.length_drop] at hj
    rw [Nat.add_assoc]
    exact h.cell _ (by omega)
  · rw [List.length_drop] at hj
    exact h.one _ (by omega)
  · rw [List.getElem?_drop] at hx
    exact h.vr _ x hx
theorem win_load {P : Program} {φ : Nat → Option Value} {w : World} {ok : Nat → Prop} {bb o : Nat} {l : List V} {f : Nat → Value} (h : Win φ w ok bb o l f) {t : TypeId} {b : Bool} {n : Nat} (ht : tk P t = some (b,n)) {v : V} (hv : ldV b n l = some v) :
    ∃ y,(loadVar t ⟨bb,o,none⟩).run P w = .ok y w ∧ VR φ w ok v y:=by
  obtain ⟨d,inf,hu,hinf,hb,hn⟩:=tk_open ht
  unfold ldV at hv
  split at hv
  · rename_i hb1
    split at hv
    · rename_i hle
      cases hv
      refine ⟨.agg ((List.range n).map f).toArray,?_,?_⟩
      · have hl:=run_loadCells (P:=P) w ⟨bb,o,none⟩ n f (fun j hj=>by rw [Addr.add_lit];exact h.cell j (by omega))
        simp [loadVar,run_isAgg hu,hb,hb1,run_size hinf,hn,hl]
      · refine .agg _ _ (by simp;omega) (fun j y hy=>?_) (fun j x y hx hy=>?_)
        · have hj : j < n:=by
            have:=(Array.getElem?_eq_some_iff.1 hy).1
            simpa using this
          simp [hj] at hy
          subst hy
          exact h.one j (by omega)
        · have hj : j < n:=by
            have:=(Array.getElem?_eq_some_iff.1 hy).1
            simpa using this
          simp [hj] at hy
          subst hy
          rw [List.getElem?_take,if_pos hj] at hx
          exact h.vr j x hx
    · cases hv
  · rename_i hb1
    cases l with
    | nil=>cases hv
    | cons x r =>
      cases hv
      refine ⟨f 0,?_,h.vr 0 _ rfl⟩
      have hc:=h.cell 0 (by simp)
      simp only [Nat.add_zero] at hc
      simp [loadVar,run_isAgg hu,hb,hb1,hc]
theorem box_win {w0 w : World} {oa : OA} {φ : Nat → Option Value} {hp : Nat → Option Ob} (hr : HR w0 oa φ hp w) {id : Nat} {l : List V} (hg : hp id = some (.box l)) : ∃ bb f,φ id = some (.pointer (some ⟨bb,0,none⟩)) ∧ Win φ w (okB w0 oa φ hp w) bb 0 l f:=by
  obtain ⟨bb,t,cs,hu,hb,hh,hl,h1,hv⟩:=hr.obj id _ hg
  have hget : ∀ j,j < l.length → cs[j]? = some (cs.getD j undef):=fun j hj=>by
    have : j < cs.size:=by omega
    simp [Array.getD_eq_getD_getElem?,this]
  refine ⟨bb,fun j=>cs.getD j undef,hu,⟨fun j hj=>?_,fun j hj=>h1 j _ (hget j hj),fun j x hx=>hv j x _ hx (hget j (List.getElem?_eq_some_iff.1 hx).1)⟩⟩
  rw [cell_of_row w bb (0 + j) cs t (0,0) hh,Nat.zero_add]
  exact hget j hj
theorem row_win {w0 w : World} {oa : OA} {φ : Nat → Option Value} {hp : Nat → Option Ob} (hr : HR w0 oa φ hp w) {id e sz : Nat} {l : List D} (hg : hp id = some (.row e sz l)) {bb n cap : Nat} (hu : φ id = some (.slice (some ⟨bb,0,none⟩) n cap)) {i : Nat} (hi : i < l.length) :
    ∃ f,Win φ w (okB w0 oa φ hp w) bb (i * sz) ((nth l i).cells.map .d) f:=by
  obtain ⟨u,cs,hu',hsz,ho,hrw⟩:=hr.obj id _ hg
  obtain rfl : u = _:=Option.some.inj (hu'.symm.trans hu)
  have hcell:=ho.cells (g:=bb) rfl
  have hcl : (nth l i).cells.length = sz:=hrw.2.2.1 _ (List.mem_of_getElem? (nth_get hi))
  have hlt : ∀ j,j < sz → i * sz + j < cs.length:=fun j hj=>by
    rw [hrw.1]
    calc i * sz + j < i * sz + sz:=by omega
      _ = (i + 1) * sz:=by rw [Nat.add_mul,Nat.one_mul]
      _ ≤ l.length * sz:=Nat.mul_le_mul_right _ hi
  have hget : ∀ j,j < sz → cs[i * sz + j]? = some (cs.getD (i * sz + j) undef):=fun j hj=>by simp [List.getD_eq_getElem?_getD,hlt j hj]
  refine ⟨fun j=>cs.getD (i * sz + j) undef,⟨fun j hj=>?_,fun j hj=>?_,fun j x hx=>?_⟩⟩
  · simp only [List.length_map,hcl] at hj
    have:=hcell (i * sz + j) _ (hget j hj)
    rwa [Addr.add_lit,Nat.zero_add] at this
  · simp only [List.length_map,hcl] at hj
    exact hrw.2.1 _ (List.mem_of_getElem? (hget j hj))
  · rw [List.getElem?_map] at hx
    obtain ⟨z,hz,rfl⟩:=Option.map_eq_some_iff.1 hx
    have hj : j < sz:=by rw [← hcl];exact (List.getElem?_eq_some_iff.1 hz).1
    exact .d _ _ (hrw.2.2.2 i j _ z _ (nth_get hi) hz (hget j hj))
theorem ref_win {φ : Nat → Option Value} {w : World} {ok : Nat → Prop} {d : D} {y : Value} (h : VR φ w ok (.d (.ref d)) y) : ∃ bb o f,y = .pointer (some ⟨bb,o,none⟩) ∧ Win φ w ok bb o (d.cells.map .d) f:=by
  obtain ⟨bb,o,vals,rfl,hok,hv,h1,hh⟩:=vr_ref h
  refine ⟨bb,o,vals,rfl,⟨fun j hj=>hv j (by simpa using hj),fun j hj=>h1 j (by simpa using hj),fun j x hx=>?_⟩⟩
  rw [List.getElem?_map] at hx
  obtain ⟨z,hz,rfl⟩:=Option.map_eq_some_iff.1 hx
  exact .d _ _ (hh j z hz)
def e_load (P : Program) (t : TypeId) (x : Operand) (o : Oper) (st : St) (K : V → List (Nat × Ob) → Prop) : Prop :=
  dOk o.dst st.nt ∧ match tk P t with
  | some (b,n)=>match st.ev x with
    | .ptr id off=>match go st.hp id with
      | some (.box l)=>match ldV b n (l.drop off) with
        | some v=>K v []
        | none=>False
      | _=>False
    | .ep id sz i c=>match go st.hp id with
      | some (.row _ sz' l)=>sz = sz' ∧ i < l.length ∧ match ldV b n (((nth l i).cells.map .d).drop c) with
        | some v=>K v []
        | none=>False
      | _=>False
    | .d (.ref d)=>match ldV b n (d.cells.map .d) with
      | some v=>K v []
      | none=>False
    | _=>False
  | none=>False
theorem s_load {P : Program} {t : TypeId} {x : Operand} {o : Oper} {st : St} {K : St → Prop} (ho : o.op = .load t x) (h : e_load P t x o st fun x ups=>K (st.upd o.dst x ups)) : Does P o st K:=by
  obtain ⟨hd,h⟩:=h
  have hrun : ∀ (a : Act) (w : World) (bb off : Nat) (y : Value),a.eval x = .pointer (some ⟨bb,off,none⟩) → (loadVar t ⟨bb,off,none⟩).run P w = .ok y w → (execOp a.eval o).run P w = .ok (.value y) w:=by
    intro a w bb off y h1 h2
    simp [execOp,ho,h1,Instr.loadAt,Instr.sureAddr,h2]
  split at h
  · rename_i b n ht
    split at h
    · rename_i id off hx
      split at h
      · rename_i l hg
        split at h
        · rename_i v hv
          refine does_val v hd (fun w0 oa φ a w hs=>?_) h
          have e1:=hs.ev x;rw [hx] at e1
          obtain ⟨bb,hb,e1⟩:=vr_ptr e1
          obtain ⟨bb',f,hu,hw⟩:=box_win hs.hr hg
          obtain rfl : bb = bb':=by have:=hb.symm.trans hu;simpa using this
          obtain ⟨y,hy,hvy⟩:=win_load (hw.drop off) ht hv
          exact ⟨y,hrun a w _ _ y e1 (by simpa using hy),hvy⟩
        · exact h.elim
      · exact h.elim
    · rename_i id sz i c hx
      split at h
      · rename_i e sz' l hg
        obtain ⟨rfl,hi,h⟩:=h
        split at h
        · rename_i v hv
          refine does_val v hd (fun w0 oa φ a w hs=>?_) h
          have e1:=hs.ev x;rw [hx] at e1
          obtain ⟨bb,m,cap,hb,e1⟩:=vr_ep e1
          obtain ⟨f,hw⟩:=row_win hs.hr hg hb hi
          obtain ⟨y,hy,hvy⟩:=win_load (hw.drop c) ht hv
          exact ⟨y,hrun a w _ _ y e1 hy,hvy⟩
        · exact h.elim
      · exact h.elim
    · rename_i d hx
      split at h
      · rename_i v hv
        refine does_val v hd (fun w0 oa φ a w hs=>?_) h
        have e1:=hs.ev x;rw [hx] at e1
        obtain ⟨bb,o',f,e1,hw⟩:=ref_win e1
        obtain ⟨y,hy,hvy⟩:=win_load hw ht hv
        exact ⟨y,hrun a w _ _ y e1 hy,hvy⟩
      · exact h.elim
    · exact h.elim
  · exact h.elim
def e_fld (P : Program) (s : TypeId) (x : Operand) (f : Nat) (o : Oper) (st : St) (K : V → List (Nat × Ob) → Prop) : Prop :=
  dOk o.dst st.nt ∧ match fo P s f with
  | some (off,t)=>match tk P t with
    | some (b,n)=>match st.ev x with
      | .agg l=>match ldV b n (l.drop off) with
        | some v=>K v []
        | none=>False
      | _=>False
    | none=>False
  | none=>False
theorem s_fld {P : Program} {s : TypeId} {x : Operand} {f : Nat} {o : Oper} {st : St} {K : St → Prop} (ho : o.op = .field s x f) (h : e_fld P s x f o st fun x ups=>K (st.upd o.dst x ups)) : Does P o st K:=by
  obtain ⟨hd,h⟩:=h
  split at h
  · rename_i off t hf
    split at h
    · rename_i b n ht
      split at h
      · rename_i l hx
        split at h
        · rename_i v hv
          obtain ⟨fs,fl,hs,hfl,rfl,rfl⟩:=fo_open hf
          obtain ⟨d,inf,hu,hinf,hb,rfl⟩:=tk_open ht
          refine does_val v hd (fun w0 oa φ a w hss=>?_) h
          have e1:=hss.ev x;rw [hx] at e1
          obtain ⟨cs,e1,hl,h1,hh⟩:=vr_agg e1
          unfold ldV at hv
          split at hv
          · rename_i hb1
            split at hv
            · rename_i hle
              cases hv
              rw [List.length_drop] at hle
              refine ⟨.agg (cs.extract fl.offset (fl.offset + inf.size)),by simp [execOp,ho,e1,Instr.field,run_underlying hs,hfl,asAgg,part,run_isAgg hu,hb,hb1,run_size hinf],?_⟩
              refine .agg _ _ (by simp;omega) (fun j y hy=>?_) (fun j x y hx hy=>?_)
              · rw [Array.getElem?_extract] at hy
                split at hy
                · exact h1 _ y hy
                · cases hy
              · rw [Array.getElem?_extract] at hy
                split at hy
                · rw [List.getElem?_take] at hx
                  split at hx
                  · rw [List.getElem?_drop] at hx
                    exact hh _ x y hx hy
                  · cases hx
                · cases hy
            · cases hv
          · rename_i hb1
            rw [List.head?_drop] at hv
            have hlt:=(List.getElem?_eq_some_iff.1 hv).1
            have hc : cs[fl.offset]? = some (cs[fl.offset]'(by omega)):=by simp
            refine ⟨_,?_,hh _ v _ hv hc⟩
            simp [execOp,ho,e1,Instr.field,run_underlying hs,hfl,asAgg,part,run_isAgg hu,hb,hb1,hc]
        · exact h.elim
      · exact h.elim
    · exact h.elim
  · exact h.elim
def oint (st : St) : Option Operand → Option (Option Int)
  | none=>some none
  | some x=>match st.ev x with
    | .d (.v (.int _ n))=>some (some n)
    | _=>none
theorem oint_ok {w0 : World} {oa : OA} {φ : Nat → Option Value} {st : St} {a : Act} {w : World} (hs : SRp w0 oa φ st a w) {x : Option Operand} {r : Option Int} (h : oint st x = some r) : (r = none ∧ x.map a.eval = none) ∨ ∃ n k,r = some n ∧ x.map a.eval = some (.int k n):=by
  cases x with
  | none=>simp only [oint,Option.some.injEq] at h;exact .inl ⟨h.symm,rfl⟩
  | some x =>
    simp only [oint] at h
    split at h
    · rename_i k n hx
      cases h
      have e1:=hs.ev x;rw [hx] at e1
      exact .inr ⟨n,k,rfl,by simp [vr_v e1]⟩
    · cases h
def cutOk (len : Nat) (lo hi mx : Option Int) : Prop :=
  0 ≤ lo.getD 0 ∧ lo.getD 0 ≤ hi.getD len ∧ hi.getD len ≤ mx.getD len ∧ mx.getD len ≤ len ∧ (mx.isSome = true → hi.isSome = true)
theorem run_cut {P : Program} {t e : TypeId} {inf : TypeInfo} (hu : P.underlying t = some (.slice e)) (hinf : P.info? e = some inf) (A : Option Addr) (len c : Nat) (hlc : len ≤ c) {lo hi mx : Option Int} (h : cutOk len lo hi mx) {vl vh vm : Option Value}
    (hl : (lo = none ∧ vl = none) ∨ ∃ n k,lo = some n ∧ vl = some (.int k n)) (hh : (hi = none ∧ vh = none) ∨ ∃ n k,hi = some n ∧ vh = some (.int k n)) (hm : (mx = none ∧ vm = none) ∨ ∃ n k,mx = some n ∧ vm = some (.int k n)) (w : World) :
    (Instr.sliceAt t (.slice A len c) vl vh vm).run P w = .ok (sliced A (lo.getD 0).toNat (hi.getD len).toNat (match mx with|some m=>m.toNat|none=>c) inf.size) w:=by
  have hel : P.elem t = e:=by simp [Program.elem,hu]
  have hu' : P.underlying t = some (.slice (P.elem t)):=by rw [hel];exact hu
  obtain ⟨h0,h1,h2,h3,h4⟩:=h
  rw [run_sliceAt_slice w t _ _ _ _ hu']
  rcases hl with ⟨rfl,rfl⟩|⟨l,kl,rfl,rfl⟩ <;> rcases hh with ⟨rfl,rfl⟩|⟨hh,kh,rfl,rfl⟩ <;> rcases hm with ⟨rfl,rfl⟩|⟨m,km,rfl,rfl⟩ <;> simp only [Option.getD_some,Option.getD_none,Option.isSome_some,Option.isSome_none] at h0 h1 h2 h3 h4 ⊢
  · rw [run_slice_all w t A len c hu',hel,run_size hinf];rfl
  · simp at h4
  · rw [run_slice_h w t A len c hu' kh hh (by omega) (by omega),hel,run_size hinf];rfl
  · rw [run_slice_hm w t A len c hu' kh km hh m (by omega) (by omega) (by omega),hel,run_size hinf];rfl
  · rw [run_slice_l w t A len c hu' kl l (by omega) (by omega),hel,run_size hinf];rfl
  · simp at h4
  · rw [run_slice_lh w t A len c hu' kl kh l hh (by omega) (by omega) (by omega),hel,run_size hinf];rfl
  · rw [run_slice_lhm w t A len c hu' kl kh km l hh m (by omega) (by omega) (by omega) (by omega),hel,run_size hinf];rfl
def cutC (len cap : Nat) (lo hi mx : Option Int) : Prop :=
  0 ≤ lo.getD 0 ∧ lo.getD 0 ≤ hi.getD len ∧ hi.getD len ≤ mx.getD cap ∧ mx.getD cap ≤ cap ∧ (mx.isSome = true → hi.isSome = true) ∧ (lo.getD 0 = 0 ∨ lo.getD 0 < mx.getD cap)
theorem run_cutC {P : Program} {t e : TypeId} {inf : TypeInfo} (hu : P.underlying t = some (.slice e)) (hinf : P.info? e = some inf) (A : Option Addr) (len c : Nat) (hlc : len ≤ c) {lo hi mx : Option Int} (h : cutC len c lo hi mx) {vl vh vm : Option Value}
    (hl : (lo = none ∧ vl = none) ∨ ∃ n k,lo = some n ∧ vl = some (.int k n)) (hh : (hi = none ∧ vh = none) ∨ ∃ n k,hi = some n ∧ vh = some (.int k n)) (hm : (mx = none ∧ vm = none) ∨ ∃ n k,mx = some n ∧ vm = some (.int k n)) (w : World) :
    (Instr.sliceAt t (.slice A len c) vl vh vm).run P w = .ok (sliced A (lo.getD 0).toNat (hi.getD len).toNat (mx.getD c).toNat inf.size) w:=by
  have hel : P.elem t = e:=by simp [Program.elem,hu]
  have hu' : P.underlying t = some (.slice (P.elem t)):=by rw [hel];exact hu
  obtain ⟨h0,h1,h2,h3,h4,_⟩:=h
  rw [run_sliceAt_slice w t _ _ _ _ hu']
  rcases hl with ⟨rfl,rfl⟩|⟨l,kl,rfl,rfl⟩ <;> rcases hh with ⟨rfl,rfl⟩|⟨hh,kh,rfl,rfl⟩ <;> rcases hm with ⟨rfl,rfl⟩|⟨m,km,rfl,rfl⟩ <;> simp only [Option.getD_some,Option.getD_none,Option.isSome_some,Option.isSome_none] at h0 h1 h2 h3 h4 ⊢
  · rw [run_slice_all w t A len c hu',hel,run_size hinf];rfl
  · simp at h4
  · rw [run_slice_h w t A len c hu' kh hh (by omega) (by omega),hel,run_size hinf];rfl
  · rw [run_slice_hm w t A len c hu' kh km hh m (by omega) (by omega) (by omega),hel,run_size hinf];rfl
  · rw [run_slice_l w t A len c hu' kl l (by omega) (by omega),hel,run_size hinf];rfl
  · simp at h4
  · rw [run_slice_lh w t A len c hu' kl kh l hh (by omega) (by omega) (by omega),hel,run_size hinf];rfl
  · rw [run_slice_lhm w t A len c hu' kl kh km l hh m (by omega) (by omega) (by omega) (by omega),hel,run_size hinf];rfl
theorem rd_cut {w : World} {ok : Nat → Prop} {l : List D} {A : Option Addr} {n c : Nat} (h : Rd w ok (.list l) (.slice A n c)) {i j m sz : Nat} (hij : i ≤ j) (hj : j ≤ l.length) (hm : j ≤ m) (hsz : j ≠ i → ∀ d ∈ l,d.cells.length = sz) :
    Rd w ok (.list ((l.take j).drop i)) (sliced A i j m sz):=by
  have hlen : ((l.take j).drop i).length = j - i:=by rw [List.length_drop,List.length_take];omega
  unfold sliced
  by_cases h0 : j = i
  · subst h0
    have : (l.take j).drop j = []:=List.eq_nil_of_length_eq_zero (by rw [hlen];omega)
    rw [this,Nat.sub_self]
    exact .nil _ _
  · rw [if_neg (by omega)]
    cases h with
    | nil=>simp at hj;omega
    | list _ sz' b o _ vals hc hok hs hd hv h1 hh =>
      have hl0 : 0 < l.length:=by omega
      have hszz : sz' = sz:=by rw [← hd (l[0]'hl0) (List.getElem_mem hl0),hsz h0 _ (List.getElem_mem hl0)]
      subst hszz
      have hin : ∀ k,k < (j - i) * sz' → i * sz' + k < l.length * sz':=fun k hk=>by
        calc i * sz' + k < i * sz' + (j - i) * sz':=by omega
          _ = j * sz':=by rw [← Nat.add_mul];congr 1;omega
          _ ≤ l.length * sz':=Nat.mul_le_mul_right _ hj
      have hA : (some (⟨b,o,none⟩ : Addr)).map (·.add (i * sz')) = some ⟨b,o + i * sz',none⟩:=by simp [Addr.add_lit]
      rw [hA]
      have:=Rd.list (w:=w) (ok:=ok) ((l.take j).drop i) sz' b (o + i * sz') (m - i) (fun k=>vals (i * sz' + k)) (by rw [hlen];omega) hok hs (fun d hd'=>hd d (List.mem_of_mem_take (List.mem_of_mem_drop hd')))
        (fun k hk=>by rw [hlen] at hk;rw [Nat.add_assoc];exact hv _ (hin k hk)) (fun k hk=>by rw [hlen] at hk;exact h1 _ (hin k hk))
        (fun a b' d x hda hx=>by
          have e : i * sz' + (a * sz' + b') = (i + a) * sz' + b':=by rw [Nat.add_mul,Nat.add_assoc]
          rw [e]
          rw [List.getElem?_drop] at hda
          rw [List.getElem?_take] at hda
          split at hda
          · exact hh _ _ d x hda hx
          · cases hda)
      rw [hlen] at this
      exact this
def e_cut (P : Program) (t : TypeId) (x : Operand) (lo hi mx : Option Operand) (o : Oper) (st : St) (K : V → List (Nat × Ob) → Prop) : Prop :=
  dOk o.dst st.nt ∧ match el P t with
  | some (_,sz,_)=>match oint st lo with
    | some lo=>match oint st hi with
      | some hi=>match oint st mx with
        | some mx=>match st.ev x with
          | .d (.list l)=>cutOk l.length lo hi mx ∧ (∀ d ∈ l,d.cells.length = sz) ∧ K (.d (.list ((l.take (hi.getD l.length).toNat).drop (lo.getD 0).toNat))) []
          | .nil=>cutOk 0 lo hi mx ∧ K (.d (.list [])) []
          | .sl id sz' off len full=>sz = sz' ∧ cutOk len lo hi mx ∧ K (.sl id sz' (off + (lo.getD 0).toNat) ((hi.getD len).toNat - (lo.getD 0).toNat) (full && lo.isNone && hi.isNone && mx.isNone)) []
          | .slc id sz' off len cap=>sz = sz' ∧ cutC len cap lo hi mx ∧ K (.slc id sz' (off + (lo.getD 0).toNat) ((hi.getD len).toNat - (lo.getD 0).toNat) ((mx.getD cap).toNat - (lo.getD 0).toNat)) []
          | _=>False
        | none=>False
      | none=>False
    | none=>False
  | none=>match ar P t with
    | some (m,sz)=>sz = 1 ∧ lo = none ∧ hi = none ∧ mx = none ∧ match st.ev x with
      | .ptr id off=>K (.bs id off m) []
      | .ep id sz2 i c=>K (.es id sz2 i c m) []
      | _=>False
    | none=>False
theorem s_cut {P : Program} {t : TypeId} {x : Operand} {lo hi mx : Option Operand} {o : Oper} {st : St} {K : St → Prop} (ho : o.op = .slice t x lo hi mx) (h : e_cut P t x lo hi mx o st fun x ups=>K (st.upd o.dst x ups)) : Does P o st K:=by
  obtain ⟨hd,h⟩:=h
  split at h
  · rename_i e sz by' he
    obtain ⟨inf,hu,hinf,hsz,_⟩:=el_open he
    split at h
    · rename_i lo' hlo
      split at h
      · rename_i hi' hhi
        split at h
        · rename_i mx' hmx
          split at h
          · rename_i l hx
            obtain ⟨hc,hcl,h⟩:=h
            refine does_val _ hd (fun w0 oa φ a w hs=>?_) h
            have e1:=hs.ev x;rw [hx] at e1
            obtain ⟨A,c,e2,hle⟩:=lenV_vr (x:=.d (.list l)) rfl e1
            refine ⟨_,by simp [execOp,ho,e2];rw [run_cut hu hinf A l.length c hle hc (oint_ok hs hlo) (oint_ok hs hhi) (oint_ok hs hmx)];rfl,?_⟩
            rw [e2] at e1
            cases e1 with
            | d _ _ e1 =>
              obtain ⟨h0,h1,h2,h3,h4⟩:=hc
              refine .d _ _ (rd_cut e1 (by omega) (by omega) ?_ (fun _ d hd=>by rw [hcl d hd,hsz]))
              cases mx' with
              | none=>simp only [Option.getD_none] at h2;show (hi'.getD l.length).toNat ≤ c;omega
              | some m=>simp only [Option.getD_some] at h2;show (hi'.getD l.length).toNat ≤ m.toNat;omega
          · rename_i hx
            obtain ⟨hc,h⟩:=h
            refine does_val _ hd (fun w0 oa φ a w hs=>?_) h
            have e1:=hs.ev x;rw [hx] at e1
            cases hY : a.eval x with
            | slice A n c =>
              rw [hY] at e1
              cases e1
              refine ⟨_,by simp [execOp,ho,hY];rw [run_cut hu hinf none 0 0 (Nat.le_refl _) hc (oint_ok hs hlo) (oint_ok hs hhi) (oint_ok hs hmx)];rfl,?_⟩
              obtain ⟨h0,h1,h2,h3,h4⟩:=hc
              have : (hi'.getD ((0 : Nat) : Int)).toNat - (lo'.getD 0).toNat = 0:=by omega
              unfold sliced
              rw [this]
              exact .d _ _ (.nil _ _)
            | _=>rw [hY] at e1;cases e1
          · rename_i id sz' off len full hx
            obtain ⟨rfl,hc,h⟩:=h
            refine does_val _ hd (fun w0 oa φ a w hs=>?_) h
            have e1:=hs.ev x;rw [hx] at e1
            cases hY : a.eval x with
            | slice A n c =>
              rw [hY] at e1
              cases e1 with
              | sl _ _ _ _ _ u _ _ hid hlc hf ha =>
                refine ⟨_,by simp [execOp,ho,hY];rw [run_cut hu hinf A len c hlc hc (oint_ok hs hlo) (oint_ok hs hhi) (oint_ok hs hmx)];rfl,?_⟩
                obtain ⟨h0,h1,h2,h3,h4⟩:=hc
                unfold sliced
                refine .sl _ _ _ _ _ u _ _ hid ?_ ?_ ?_
                · cases mx' with
                  | none=>simp only [Option.getD_none] at h2 h3;show _ ≤ c - _;omega
                  | some m=>simp only [Option.getD_some] at h2 h3;show _ ≤ m.toNat - _;omega
                · intro hfull
                  simp only [Bool.and_eq_true,Option.isNone_iff_eq_none] at hfull
                  obtain ⟨⟨⟨hfl,rfl⟩,rfl⟩,rfl⟩:=hfull
                  obtain ⟨rfl,rfl⟩:=hf hfl
                  simp only [Option.getD_none,Int.toNat_zero,Int.toNat_natCast,Nat.sub_zero,Nat.zero_mul,Nat.add_zero]
                  refine ⟨?_,trivial⟩
                  cases A <;> simp [Addr.add]
                · by_cases hz : (hi'.getD (len : Int)).toNat - (lo'.getD 0).toNat = 0
                  · exact .inl hz
                  · refine .inr ?_
                    rcases ha with ha|⟨b,m',cap,rfl,rfl⟩
                    · omega
                    · refine ⟨b,m',cap,rfl,?_⟩
                      rw [if_neg]
                      · simp [Addr.add_lit,Nat.add_mul,hsz]
                      · cases mx' with
                        | none=>simp only [Option.getD_none] at h2 h3;show ¬ c = _;omega
                        | some m=>simp only [Option.getD_some] at h2 h3;show ¬ m.toNat = _;omega
            | _=>rw [hY] at e1;cases e1
          · rename_i id sz' off len cap hx
            obtain ⟨rfl,hc,h⟩:=h
            refine does_val _ hd (fun w0 oa φ a w hs=>?_) h
            have e1:=hs.ev x;rw [hx] at e1
            cases hY : a.eval x with
            | slice A n c =>
              rw [hY] at e1
              cases e1 with
              | slc _ _ _ _ _ b m' c' hid hlc =>
                refine ⟨_,by simp [execOp,ho,hY];rw [run_cutC hu hinf _ len cap hlc hc (oint_ok hs hlo) (oint_ok hs hhi) (oint_ok hs hmx)];rfl,?_⟩
                obtain ⟨h0,h1,h2,h3,h4,h5⟩:=hc
                unfold sliced
                have hadd : (if (mx'.getD (cap : Int)).toNat = (lo'.getD 0).toNat then (some ⟨b,off * sz,none⟩ : Option Addr) else (some ⟨b,off * sz,none⟩ : Option Addr).map fun z=>z.add ((lo'.getD 0).toNat * inf.size)) = some ⟨b,(off + (lo'.getD 0).toNat) * sz,none⟩:=by
                  by_cases hz : lo'.getD 0 = 0
                  · rw [hz];simp [Addr.add_lit]
                  · rw [if_neg (by omega)];simp [Addr.add_lit,Nat.add_mul,hsz]
                rw [hadd]
                exact .slc _ _ _ _ _ b m' c' hid (by omega)
            | _=>rw [hY] at e1;cases e1
          · exact h.elim
        · exact h.elim
      · exact h.elim
    · exact h.elim
  · split at h
    case h_2=>exact h.elim
    rename_i m sz ha
    obtain ⟨rfl,rfl,rfl,rfl,h⟩:=h
    obtain ⟨e,inf,hu,hinf,hsz⟩:=ar_open ha
    have hel : P.elem t = e:=by simp [Program.elem,hu]
    have hal : P.arrayLen t = m:=by simp [Program.arrayLen,hu]
    have hr:=fun (w : World) (A : Addr)=>run_sliceAt_array_all (P:=P) w t A (by rw [hel,hal];exact hu)
    simp only [hel,hal,run_size hinf,Result.andThen,slicedAt,Nat.zero_mul,Nat.sub_zero] at hr
    split at h
    · rename_i id off hx
      refine does_val _ hd (fun w0 oa φ a w hs=>?_) h
      have e1:=hs.ev x;rw [hx] at e1
      obtain ⟨b,hb,e1⟩:=vr_ptr e1
      refine ⟨.slice (some ⟨b,off,none⟩) m m,?_,.bs _ _ _ b hb⟩
      simp [execOp,ho,e1,hr,Addr.add_lit]
    · rename_i id sz2 i c hx
      refine does_val _ hd (fun w0 oa φ a w hs=>?_) h
      have e1:=hs.ev x;rw [hx] at e1
      cases hY : a.eval x with
      | pointer A =>
        rw [hY] at e1
        cases e1 with
        | ep _ _ _ _ b m' cap hb =>
          refine ⟨.slice (some ⟨b,i * sz2 + c,none⟩) m m,?_,.es _ _ _ _ _ b m' cap hb⟩
          simp [execOp,ho,hY,hr,Addr.add_lit]
      | _=>rw [hY] at e1;cases e1
    · exact h.elim
def e_s2a (P : Program) (t : TypeId) (x : Operand) (o : Oper) (st : St) (K : V → List (Nat × Ob) → Prop) : Prop :=
  dOk o.dst st.nt ∧ match ar P t with
  | some (m,sz)=>sz = 1 ∧ match st.ev x with
    | .d (.list l)=>l.length = m ∧ 0 < m ∧ (∀ d ∈ l,d.cells = [d]) ∧ K (.d (.ref (.agg l))) []
    | _=>False
  | none=>False
theorem s_s2a {P : Program} {t : TypeId} {x : Operand} {o : Oper} {st : St} {K : St → Prop} (ho : o.op = .sliceToArrayPointer t x) (h : e_s2a P t x o st fun x ups=>K (st.upd o.dst x ups)) : Does P o st K:=by
  obtain ⟨hd,h⟩:=h
  split at h
  case h_2=>exact h.elim
  rename_i m sz ha
  obtain ⟨rfl,h⟩:=h
  obtain ⟨e,inf,hu,hinf,hsz⟩:=ar_open ha
  split at h
  case h_2=>exact h.elim
  rename_i l hx
  obtain ⟨hl,hm,hone,h⟩:=h
  refine does_val _ hd (fun w0 oa φ a w hs=>?_) h
  have e1:=hs.ev x;rw [hx] at e1
  generalize hY : a.eval x = Y at e1
  cases e1 with
  | d _ _ e1 =>
    cases e1 with
    | nil A c=>simp at hl;omega
    | list _ sz b o2 c vals hc hok hszp hcl hv h1 hh =>
      have hs1 : sz = 1:=by
        have h0 : 0 < l.length:=by omega
        have:=hcl _ (List.getElem_mem h0)
        rw [hone _ (List.getElem_mem h0)] at this
        simpa using this.symm
      subst hs1
      refine ⟨.pointer (some ⟨b,o2,none⟩),?_,.d _ _ (.ref _ b o2 vals hok (fun j hj=>hv j (by simpa [D.cells] using hj)) (fun j hj=>h1 j (by simpa [D.cells] using hj)) fun j q hq=>?_)⟩
      · simp [execOp,ho,hY,Instr.arrayAt,run_underlying hu,hl]
      · have hq' : l[j]? = some q:=hq
        have:=hh j 0 q q hq' (by rw [hone q (List.mem_of_getElem? hq')];rfl)
        simpa using this
end Go.Proofs.Ytleahjfgedfgmaa.Am
end
section
set_option linter.unusedVariables false
set_option linter.unusedSimpArgs false
namespace Go.Proofs.Ytleahjfgedfgmaa.Am
open Go Go.RowKit
def upd (φ : Nat → Option Value) (n : Nat) (v : Value) : Nat → Option Value:=fun k=>if k = n then some v else φ k
theorem below_own {w : World} {base e sz n : Nat} {v : Value} {cs : List Value} (h : w.ownsRow base e sz v n cs) (b : Nat) (hb : blk v = some b) : base ≤ b ∧ b < w.heap.size:=by
  rcases h.2 with ⟨rfl,_⟩|⟨g,cap,cur,rfl,hg,hh,_⟩
  · simp [blk] at hb
  · simp only [blk,Option.some.injEq] at hb
    subst hb
    exact ⟨hg,(Array.getElem?_eq_some_iff.1 hh).1⟩
theorem own_lower {w : World} {base base' e sz n : Nat} {v : Value} {cs : List Value} (h : w.ownsRow base e sz v n cs) (hb : base' ≤ base) : w.ownsRow base' e sz v n cs:=by
  refine ⟨h.1,?_⟩
  rcases h.2 with h2|⟨g,cap,cur,hv,hg,r⟩
  · exact .inl h2
  · exact .inr ⟨g,cap,cur,hv,by omega,r⟩
theorem HR.blk_lt {w0 w : World} {oa : OA} {φ : Nat → Option Value} {hp : Nat → Option Ob} (h : HR w0 oa φ hp w) {id : Nat} {o : Ob} {v : Value} {b : Nat} (ho : hp id = some o) (hn : o ≠ .dead) (hv : φ id = some v) (hb : blk v = some b) : ours w0 oa b ∧ b < w.heap.size:=by
  refine ⟨h.mine id o v b ho hn hv hb,?_⟩
  have:=h.obj id o ho
  cases o with
  | row e sz l =>
    obtain ⟨u,cs,hu,_,hw,_⟩:=this
    obtain rfl : u = v:=Option.some.inj (hu.symm.trans hv)
    exact (below_own hw b hb).2
  | box l =>
    obtain ⟨b',t,cs,hu,hb',hh,_⟩:=this
    obtain rfl : _ = v:=Option.some.inj (hu.symm.trans hv)
    simp only [blk,Option.some.injEq] at hb
    subst hb
    exact (Array.getElem?_eq_some_iff.1 hh).1
  | opq R =>
    obtain ⟨b',x,hu,hh,_⟩:=this
    obtain rfl : _ = v:=Option.some.inj (hu.symm.trans hv)
    simp only [blk,Option.some.injEq] at hb
    subst hb
    exact (Array.getElem?_eq_some_iff.1 hh).1
  | rowv e l =>
    obtain ⟨u,cs,hu,hw,_⟩:=this
    obtain rfl : u = v:=Option.some.inj (hu.symm.trans hv)
    exact (below_own hw b hb).2
  | mp l =>
    obtain ⟨b',es,c,hu,hh,_⟩:=this
    obtain rfl : _ = v:=Option.some.inj (hu.symm.trans hv)
    simp only [blk,Option.some.injEq] at hb
    subst hb
    exact (Array.getElem?_eq_some_iff.1 hh).1
  | dead=>exact absurd rfl hn
theorem HR.new {w0 w w' : World} {oa : OA} {φ : Nat → Option Value} {hp : List (Nat × Ob)} (h : HR w0 oa φ (go hp) w) (n : Nat) (hn : go hp n = none) (o : Ob) (u : Value)
    (hsz : w.heap.size ≤ w'.heap.size) (hbelow : Bel w0 oa w') (hkeep : ∀ b,b < w.heap.size → w'.heap[b]? = w.heap[b]?) (hnew : ∀ b,blk u = some b → w.heap.size ≤ b)
    (hobj : ∀ ok : Nat → Prop,(∀ b,okB w0 oa φ (go hp) w b → ok b) → OR (upd φ n u) w' ok 0 n o) :
    HR w0 oa (upd φ n u) (go (so hp n o)) w' ∧ (∀ b,okB w0 oa φ (go hp) w b → okB w0 oa (upd φ n u) (go (so hp n o)) w' b ∧ w'.heap[b]? = w.heap[b]?):=by
  have hφn : φ n = none:=h.fresh n hn
  have hφ : ∀ id v,φ id = some v → upd φ n u id = some v:=by
    intro id v hv
    unfold upd
    split
    · rename_i e;subst e;rw [hφn] at hv;cases hv
    · exact hv
  have hold : ∀ id o',go (so hp n o) id = some o' → o' ≠ .dead → (go hp id = some o' ∧ ¬ False) ∨ ((∀ v b,upd φ n u id = some v → blk v = some b → w.heap.size ≤ b ∨ ∃ id' o'' v',False ∧ go hp id' = some o'' ∧ o'' ≠ .dead ∧ φ id' = some v' ∧ blk v' = some b) ∧ ¬ (go hp id = some o' ∧ ¬ False)):=by
    intro id o' ho' _
    rw [go_so] at ho'
    split at ho'
    · rename_i e
      subst e
      refine .inr ⟨fun v b hv hb=>?_,fun hc=>by rw [hn] at hc;cases hc.1⟩
      simp only [upd,if_true,Option.some.injEq] at hv
      subst hv
      exact .inl (hnew b hb)
    · exact .inl ⟨ho',fun h=>h⟩
  have key:=HR.step (hp':=go (so hp n o)) (φ':=upd φ n u) (w':=w') h (fun _=>False) hsz hbelow (fun b hb _=>hkeep b hb) hφ ?_ hold h.has
  have hok2 : ∀ b,okB w0 oa φ (go hp) w b → okB w0 oa (upd φ n u) (go (so hp n o)) w' b:=by
    intro b hb
    have hlt:=okB_lt h.below.size hb
    refine ⟨?_,?_⟩
    · rcases hb.1 with h1|h1
      · exact .inl h1
      · exact .inr ⟨h1.1,by omega⟩
    · intro id o' v ho' hne hv he
      rw [go_so] at ho'
      split at ho'
      · rename_i e
        subst e
        simp only [upd,if_true,Option.some.injEq] at hv
        subst hv
        have:=hnew b he
        omega
      · rename_i e
        simp only [upd,if_neg e] at hv
        exact hb.2 id o' v ho' hne hv he
  refine key ?_ ?_ ?_
  · intro id o' ho' hc
    rw [go_so] at ho'
    split at ho'
    · rename_i e
      subst e
      cases ho'
      exact hobj _ hok2
    · exact absurd ⟨ho',fun h=>h⟩ hc
  · intro id _ hne
    have hid : id ≠ n:=fun e=>hne (e ▸ hn)
    rw [go_so,if_neg hid]
    exact ⟨hne,fun o' ho' hd e=>by rw [ho'] at e;cases e;exact hd rfl⟩
  · intro id id' o1 o2 v v' ho1 ho2 hn1 hn2 hc hne hv hv'
    rw [go_so] at ho1 ho2
    split at ho1
    · rename_i e
      subst e
      rw [if_neg (Ne.symm hne)] at ho2
      simp only [upd,if_true,Option.some.injEq] at hv
      simp only [upd,if_neg (Ne.symm hne)] at hv'
      subst hv
      by_cases hb : blk u = none
      · exact .inl hb
      · refine .inr fun he=>?_
        obtain ⟨b,hb⟩:=Option.ne_none_iff_exists'.1 hb
        have h1:=hnew b hb
        have h2:=(h.blk_lt ho2 hn2 hv' (he ▸ hb)).2
        omega
    · exact absurd ⟨ho1,fun h=>h⟩ hc
  · intro id hid
    rw [go_so] at hid
    split at hid
    · cases hid
    · rename_i e
      simp only [upd,if_neg e]
      exact h.fresh id hid
theorem SRp.newbox {w0 : World} {oa : OA} {φ : Nat → Option Value} {st : St} {a : Act} {w : World} (h : SRp w0 oa φ st a w) (n : Nat) (hn : go st.hp n = none) (l : List V) (cs : Array Value) (t : TypeId) (hl : cs.size = l.length)
    (h1 : ∀ (j : Nat) (y : Value),cs[j]? = some y → y.oneCell' = true) (hv : ∀ (j : Nat) (x : V) (y : Value),l[j]? = some x → cs[j]? = some y → VR φ w (okB w0 oa φ (go st.hp) w) x y) :
    ∃ φ',SRp w0 oa φ' { st with hp:=so st.hp n (.box l) } a (w.alloc (.cells cs t)) ∧ VR φ' (w.alloc (.cells cs t)) (okB w0 oa φ' (go (so st.hp n (.box l))) (w.alloc (.cells cs t))) (.ptr n 0) (.pointer (some ⟨w.heap.size,0,none⟩)):=by
  have hφn : φ n = none:=h.hr.fresh n hn
  have hφ : ∀ id v,φ id = some v → upd φ n (.pointer (some ⟨w.heap.size,0,none⟩)) id = some v:=by
    intro id v hv
    unfold upd
    split
    · rename_i e;subst e;rw [hφn] at hv;cases hv
    · exact hv
  refine ⟨upd φ n (.pointer (some ⟨w.heap.size,0,none⟩)),h.heap hφ (h.hr.new n hn (.box l) (.pointer (some ⟨w.heap.size,0,none⟩)) (by simp) (h.hr.below.alloc _) (fun b hb=>heap_alloc_old w _ b hb) ?_ ?_),.ptr _ _ _ (by simp [upd])⟩
  · intro b hb
    simp only [blk,Option.some.injEq] at hb
    omega
  · intro ok hok
    exact ⟨w.heap.size,t,cs,by simp [upd],Nat.zero_le _,heap_alloc_new w _,hl,h1,fun j x y hx hy=>(hv j x y hx hy).mono hφ (fun b hb=>heap_alloc_old w _ b (okB_lt h.hr.below.size hb)) hok⟩
theorem SRp.newrow {w0 : World} {oa : OA} {φ : Nat → Option Value} {st : St} {a : Act} {w w' : World} (h : SRp w0 oa φ st a w) (n : Nat) (hn : go st.hp n = none) (e sz : Nat) (l : List D) (u : Value) (cs : List Value) (hsz : 0 < sz)
    (hb : Below w.heap.size w w') (hown : w'.ownsRow w.heap.size e sz u l.length cs) (hr : Rw w' (okB w0 oa φ (go st.hp) w) sz l cs) :
    ∃ φ',SRp w0 oa φ' { st with hp:=so st.hp n (.row e sz l) } a w' ∧ VR φ' w' (okB w0 oa φ' (go (so st.hp n (.row e sz l))) w') (.sl n sz 0 l.length true) u:=by
  have hφn : φ n = none:=h.hr.fresh n hn
  have hφ : ∀ id v,φ id = some v → upd φ n u id = some v:=by
    intro id v hv
    unfold upd
    split
    · rename_i e;subst e;rw [hφn] at hv;cases hv
    · exact hv
  refine ⟨upd φ n u,h.heap hφ (h.hr.new n hn (.row e sz l) u hb.size (h.hr.below.trans hb) (fun b hlt=>hb.block b hlt) (fun b hbb=>(below_own hown b hbb).1) ?_),?_⟩
  · intro ok hok
    exact ⟨u,cs,by simp [upd],hsz,own_lower hown (Nat.zero_le _),hr.mono (fun _ _=>rfl) hok⟩
  · rcases hown.2 with ⟨rfl,h0⟩|⟨g,cap,cur,rfl,hg,hh,hnc,_⟩
    · rw [h0]
      exact .sl _ _ _ _ _ (.slice none 0 0) none 0 (by simp [upd]) (Nat.le_refl _) (fun _=>⟨rfl,rfl⟩) (.inl rfl)
    · exact .sl _ _ _ _ _ (.slice (some ⟨g,0,none⟩) l.length cap) _ cap (by simp [upd]) hnc (fun _=>⟨rfl,rfl⟩) (.inr ⟨g,_,cap,rfl,by simp⟩)
def cellsV : V → Option (List V)
  | .agg l=>some l
  | .tup _=>none
  | .junk=>none
  | .d (.agg _)=>none
  | x=>some [x]
theorem cellsV_vr {φ : Nat → Option Value} {w : World} {ok : Nat → Prop} {x : V} {xs : List V} {y : Value} (h : cellsV x = some xs) (hv : VR φ w ok x y) (hsc : ∀ z,x = .d (.v z) → z.oneCell' = true) : y.cells.size = xs.length ∧ (∀ (j : Nat) (u : Value),y.cells[j]? = some u → u.oneCell' = true) ∧
    ∀ (j : Nat) (z : V) (u : Value),xs[j]? = some z → y.cells[j]? = some u → VR φ w ok z u:=by
  have one : ∀ (v : Value),v.oneCell' = true → v.cells = #[v]:=by intro v hv;cases v <;> simp [Value.oneCell'] at hv <;> rfl
  have fin : ∀ (x : V) (v : Value),v.oneCell' = true → VR φ w ok x v → v.cells.size = [x].length ∧ (∀ (j : Nat) (u : Value),v.cells[j]? = some u → u.oneCell' = true) ∧ ∀ (j : Nat) (z : V) (u : Value),[x][j]? = some z → v.cells[j]? = some u → VR φ w ok z u:=by
    intro x v h1 hv
    rw [one v h1]
    refine ⟨rfl,fun j u hu=>?_,fun j z u hz hu=>?_⟩
    · cases j with
      | zero=>simp at hu;subst hu;exact h1
      | succ j=>simp at hu
    · cases j with
      | zero=>simp at hu hz;subst hu;subst hz;exact hv
      | succ j=>simp at hu
  cases x with
  | agg l =>
    simp only [cellsV,Option.some.injEq] at h
    subst h
    obtain ⟨cs,rfl,hl,h1,hh⟩:=vr_agg hv
    exact ⟨hl,h1,hh⟩
  | tup l=>simp [cellsV] at h
  | junk=>simp [cellsV] at h
  | nil=>simp only [cellsV,Option.some.injEq] at h;subst h;cases hv;exact fin _ _ rfl .nil
  | sl id sz off len full=>simp only [cellsV,Option.some.injEq] at h;subst h;have hv2:=hv;cases hv;exact fin _ _ rfl hv2
  | ptr id off=>simp only [cellsV,Option.some.injEq] at h;subst h;have hv2:=hv;cases hv;exact fin _ _ rfl hv2
  | ep id sz i c=>simp only [cellsV,Option.some.injEq] at h;subst h;have hv2:=hv;cases hv;exact fin _ _ rfl hv2
  | slc id sz off len cap=>simp only [cellsV,Option.some.injEq] at h;subst h;have hv2:=hv;cases hv;exact fin _ _ rfl hv2
  | mp id=>simp only [cellsV,Option.some.injEq] at h;subst h;have hv2:=hv;cases hv;exact fin _ _ rfl hv2
  | bs id off len=>simp only [cellsV,Option.some.injEq] at h;subst h;have hv2:=hv;cases hv;exact fin _ _ rfl hv2
  | es id sz i c len=>simp only [cellsV,Option.some.injEq] at h;subst h;have hv2:=hv;cases hv;exact fin _ _ rfl hv2
  | d x =>
    cases x with
    | agg l=>simp [cellsV] at h
    | v z=>simp only [cellsV,Option.some.injEq] at h;subst h;have:=vr_v hv;subst this;exact fin _ _ (hsc _ rfl) hv
    | list l=>simp only [cellsV,Option.some.injEq] at h;subst h;have hv2:=hv;cases hv with|d _ _ hv=>cases hv <;> exact fin _ _ rfl hv2
    | ref z=>simp only [cellsV,Option.some.injEq] at h;subst h;have hv2:=hv;cases hv with|d _ _ hv=>cases hv;exact fin _ _ rfl hv2
def one1 : V → Bool
  | .d (.v z)=>z.oneCell'
  | _=>true
theorem one1_ok {x : V} (h : one1 x = true) : ∀ z,x = .d (.v z) → z.oneCell' = true:=by
  intro z hz;subst hz;exact h
def e_alloc (P : Program) (t : TypeId) (o : Oper) (st : St) (K : V → List (Nat × Ob) → Prop) : Prop :=
  dOk o.dst st.nt ∧ match o.dst with
  | some n=>go st.hp n = none ∧ match zc P t with
    | some z=>(z.all (·.oneCell') = true) ∧ K (.ptr n 0) [(n,(.box (z.map cV0)))]
    | none=>False
  | none=>False
theorem s_alloc {P : Program} {t : TypeId} {o : Oper} {st : St} {K : St → Prop} (ho : o.op = .alloc t) (h : e_alloc P t o st fun x ups=>K (st.upd o.dst x ups)) : Does P o st K:=by
  obtain ⟨hd,h⟩:=h
  split at h
  · rename_i n hdst
    obtain ⟨hn,h⟩:=h
    split at h
    · rename_i z hz
      obtain ⟨h1,h⟩:=h
      obtain ⟨inf,zv,hinf,hzv,rfl⟩:=zc_open hz
      refine does_run fun w0 oa φ a w hs=>?_
      obtain ⟨φ',hs',hv⟩:=hs.newbox n hn (zv.cells.toList.map cV0) zv.cells t (by simp) (fun j y hy=>List.all_eq_true.1 h1 y (List.mem_of_getElem? (by simpa using hy)))
        (fun j x y hx hy=>by
          have : (zv.cells.toList.map cV0)[j]? = some (cV0 y):=by simp [hy]
          rw [this] at hx;cases hx;exact vr_c0 y)
      refine ⟨_,_,_,?_,h,(hs'.put o.dst hd hv).sr⟩
      simp [execOp,ho,Instr.alloc,zeroValue,typeInfo,hinf,hzv,newVar,newRow]
    · exact h.elim
  · exact h.elim
def e_box (t : TypeId) (x : Operand) (o : Oper) (st : St) (K : V → List (Nat × Ob) → Prop) : Prop :=
  dOk o.dst st.nt ∧ match o.dst with
  | some n=>go st.hp n = none ∧ one1 (st.ev x) = true ∧ match cellsV (st.ev x) with
    | some l=>K (.ptr n 0) [(n,(.box l))]
    | none=>False
  | none=>False
theorem s_box {P : Program} {t : TypeId} {x : Operand} {o : Oper} {st : St} {K : St → Prop} (ho : o.op = .box t x) (h : e_box t x o st fun x ups=>K (st.upd o.dst x ups)) : Does P o st K:=by
  obtain ⟨hd,h⟩:=h
  split at h
  · rename_i n hdst
    obtain ⟨hn,h1,h⟩:=h
    split at h
    · rename_i l hl
      refine does_run fun w0 oa φ a w hs=>?_
      obtain ⟨e1,e2,e3⟩:=cellsV_vr hl (hs.ev x) (one1_ok h1)
      obtain ⟨φ',hs',hv⟩:=hs.newbox n hn l (a.eval x).cells t e1 e2 e3
      refine ⟨_,_,_,?_,h,(hs'.put o.dst hd hv).sr⟩
      simp [execOp,ho,Instr.box,newVar,newRow]
    · exact h.elim
  · exact h.elim
theorem zero_cells {z : Array Value} {m : Nat} (hz : 0 < z.size) : (madeCells z (m * z.size)).toList.length = m * z.size ∧ ∀ i j,j < z.size → i < m → (madeCells z (m * z.size))[i * z.size + j]? = some (z[j]!):=by
  refine ⟨by simp [madeCells],fun i j hj hi=>?_⟩
  have hlt : i * z.size + j < m * z.size:=by
    calc i * z.size + j < i * z.size + z.size:=by omega
      _ = (i + 1) * z.size:=by rw [Nat.add_mul,Nat.one_mul]
      _ ≤ m * z.size:=Nat.mul_le_mul_right _ hi
  have hm : (i * z.size + j) % z.size = j:=by rw [Nat.add_comm,Nat.add_mul_mod_self_right,Nat.mod_eq_of_lt hj]
  simp [madeCells,hlt,hm]
def cD0 : Value → D
  | .slice none 0 0=>.list []
  | x=>.v x
theorem rd_c0 {w : World} {ok : Nat → Prop} (x : Value) : Rd w ok (cD0 x) x:=by
  unfold cD0
  split
  · exact .nil _ _
  · exact .v x
theorem cells_c0 (x : Value) : (cD0 x).cells = [cD0 x]:=by
  unfold cD0
  split <;> rfl
def zD (b : Bool) (z : List Value) : D:=if b = true then .agg (z.map cD0) else match z with|[x]=>cD0 x|_=>.agg []
theorem zD_cells {b : Bool} {z : List Value} (h : b = true ∨ z.length = 1) : (zD b z).cells = z.map cD0:=by
  unfold zD
  split
  · rfl
  · rename_i hb
    have h:=h.resolve_left hb
    match z,h with
    | [x],_=>exact cells_c0 x
theorem rw_zeros {w : World} {ok : Nat → Prop} {z : Array Value} {m : Nat} {b : Bool} (hz : 0 < z.size) (h1 : z.toList.all (·.oneCell') = true) (hb : b = true ∨ z.toList.length = 1) : Rw w ok z.size (List.replicate m (zD b z.toList)) (madeCells z (m * z.size)).toList:=by
  obtain ⟨hl,hg⟩:=zero_cells (m:=m) hz
  have hcells:=zD_cells hb
  refine ⟨by rw [hl,List.length_replicate],fun u hu=>?_,fun d hd=>?_,fun i j d x u hd hx hu=>?_⟩
  · obtain ⟨k,hk,rfl⟩:=List.mem_iff_getElem.1 hu
    have hk' : k < m * z.size:=by simpa [madeCells] using hk
    have hq : k % z.size < z.size:=Nat.mod_lt _ hz
    have : (madeCells z (m * z.size)).toList[k] = z[k % z.size]:=by simp [madeCells,hq]
    rw [this]
    exact List.all_eq_true.1 h1 _ (by simp)
  · rw [List.eq_of_mem_replicate hd,hcells]
    simp
  · have hi : i < m:=by
      have:=(List.getElem?_eq_some_iff.1 hd).1
      simpa using this
    have hd' : d = zD b z.toList:=List.eq_of_mem_replicate (List.mem_of_getElem? hd)
    subst hd'
    rw [hcells,List.getElem?_map] at hx
    obtain ⟨y,hy,rfl⟩:=Option.map_eq_some_iff.1 hx
    have hj : j < z.size:=by simpa using (List.getElem?_eq_some_iff.1 hy).1
    have hu' : (madeCells z (m * z.size))[i * z.size + j]? = some u:=by simpa using hu
    rw [hg i j hj hi] at hu'
    have hyj : z[j]! = y:=by
      have h2 : z[j]? = some y:=by simpa using hy
      rw [Array.getElem?_eq_getElem hj] at h2
      rw [getElem!_pos z j hj]
      exact Option.some.inj h2
    rw [hyj] at hu'
    obtain rfl:=Option.some.inj hu'
    exact rd_c0 _
def e_make (P : Program) (t : TypeId) (x c : Operand) (o : Oper) (st : St) (K : V → List (Nat × Ob) → Prop) : Prop :=
  dOk o.dst st.nt ∧ match o.dst with
  | some n=>go st.hp n = none ∧ match el P t with
    | some (e,sz,by')=>match zc P e with
      | some z=>match tk P e with
        | some (b,_)=>match st.ev x with
          | .d (.v (.int _ m))=>match st.ev c with
            | .d (.v (.int _ cp))=>0 ≤ m ∧ m ≤ cp ∧ (by' : Int) * cp ≤ 281474976710656 ∧ cp ≤ 9223372036854775807 ∧ 0 < sz ∧ z.length = sz ∧ z.all (·.oneCell') = true ∧ (b = true ∨ z.length = 1) ∧
                K (.sl n sz 0 m.toNat true) [(n,(.row e sz (List.replicate m.toNat (zD b z))))]
            | _=>False
          | _=>False
        | none=>False
      | none=>False
    | none=>False
  | none=>False
theorem s_make {P : Program} {t : TypeId} {x c : Operand} {o : Oper} {st : St} {K : St → Prop} (ho : o.op = .makeSlice t x c) (h : e_make P t x c o st fun x ups=>K (st.upd o.dst x ups)) : Does P o st K:=by
  obtain ⟨hd,h⟩:=h
  split at h
  · rename_i n hdst
    obtain ⟨hn,h⟩:=h
    split at h
    · rename_i e sz by' he
      split at h
      · rename_i z hz
        split at h
        · rename_i b q ht
          split at h
          · rename_i k m hx
            split at h
            · rename_i k' cp hc
              obtain ⟨h0,hmc,hby,h63,hsz,hzl,h1,hb,h⟩:=h
              obtain ⟨inf,hu,hinf,rfl,rfl⟩:=el_open he
              obtain ⟨inf',zv,hinf',hzv,rfl⟩:=zc_open hz
              obtain rfl : inf = inf':=Option.some.inj (hinf.symm.trans hinf')
              have hzs : zv.cells.size = inf.size:=by simpa using hzl
              refine does_run fun w0 oa φ a w hs=>?_
              have e1:=hs.ev x;rw [hx] at e1
              have e2:=hs.ev c;rw [hc] at e2
              have hr:=run_make (P:=P) w t e inf zv hu hinf hzv k k' m cp h0 hmc hby h63
              obtain ⟨mm,rfl⟩:=Int.eq_ofNat_of_zero_le h0
              obtain ⟨cc,rfl⟩:=Int.eq_ofNat_of_zero_le (Int.le_trans h0 hmc)
              have hmc' : mm ≤ cc:=by omega
              simp only [Int.toNat_natCast] at hr h ⊢
              have hz0 : 0 < zv.cells.size:=by omega
              have hmade : (madeCells zv.cells (cc * inf.size)).toList.take (mm * inf.size) = (madeCells zv.cells (mm * inf.size)).toList:=by
                apply List.ext_getElem?
                intro q
                have hle : mm * inf.size ≤ cc * inf.size:=Nat.mul_le_mul_right _ hmc'
                rw [List.getElem?_take]
                by_cases hq : q < mm * inf.size
                · rw [if_pos hq]
                  simp [madeCells,hq,show q < cc * inf.size by omega]
                · rw [if_neg hq]
                  simp [madeCells,hq]
              have hown : (w.alloc (.cells (madeCells zv.cells (cc * inf.size)) e)).ownsRow w.heap.size e inf.size (.slice (some ⟨w.heap.size,0,none⟩) mm cc) (List.replicate mm (zD b zv.cells.toList)).length (madeCells zv.cells (mm * inf.size)).toList:=by
                rw [List.length_replicate]
                exact ⟨by simp [madeCells],.inr ⟨w.heap.size,cc,_,rfl,Nat.le_refl _,heap_alloc_new w _,hmc',by simp only [maxLen];omega,by simp [madeCells],hmade⟩⟩
              have hrw:=rw_zeros (w:=w.alloc (.cells (madeCells zv.cells (cc * inf.size)) e)) (ok:=okB w0 oa φ (go st.hp) w) (m:=mm) hz0 h1 hb
              rw [hzs] at hrw
              obtain ⟨φ',hs',hv⟩:=hs.newrow n hn e inf.size (List.replicate mm (zD b zv.cells.toList)) _ _ hsz ((Below.refl _ _).alloc (Nat.le_refl _) _) hown hrw
              rw [List.length_replicate] at hv
              refine ⟨_,_,_,?_,h,(hs'.put o.dst hd hv).sr⟩
              simp [execOp,ho,vr_v e1,vr_v e2,hr]
            · exact h.elim
          · exact h.elim
        · exact h.elim
      · exact h.elim
    · exact h.elim
  · exact h.elim
def e_makeC (P : Program) (t : TypeId) (x c : Operand) (o : Oper) (st : St) (K : V → List (Nat × Ob) → Prop) : Prop :=
  dOk o.dst st.nt ∧ match o.dst with
  | some n=>go st.hp n = none ∧ match el P t with
    | some (e,sz,by')=>match zc P e with
      | some z=>match tk P e with
        | some (b,_)=>match st.ev x with
          | .d (.v (.int _ m))=>match st.ev c with
            | .d (.v (.int _ cp))=>0 ≤ m ∧ m ≤ cp ∧ (by' : Int) * cp ≤ 281474976710656 ∧ cp ≤ 9223372036854775807 ∧ 0 < sz ∧ z.length = sz ∧ z.all (·.oneCell') = true ∧ (b = true ∨ z.length = 1) ∧
                K (.slc n sz 0 m.toNat cp.toNat) [(n,(.row e sz (List.replicate cp.toNat (zD b z))))]
            | _=>False
          | _=>False
        | none=>False
      | none=>False
    | none=>False
  | none=>False
theorem s_makeC {P : Program} {t : TypeId} {x c : Operand} {o : Oper} {st : St} {K : St → Prop} (ho : o.op = .makeSlice t x c) (h : e_makeC P t x c o st fun x ups=>K (st.upd o.dst x ups)) : Does P o st K:=by
  obtain ⟨hd,h⟩:=h
  split at h
  case h_2=>exact h.elim
  rename_i n hdst
  obtain ⟨hn,h⟩:=h
  split at h
  case h_2=>exact h.elim
  rename_i e sz by' he
  split at h
  case h_2=>exact h.elim
  rename_i z hz
  split at h
  case h_2=>exact h.elim
  rename_i b q ht
  split at h
  case h_2=>exact h.elim
  rename_i k m hx
  split at h
  case h_2=>exact h.elim
  rename_i k' cp hc
  obtain ⟨h0,hmc,hby,h63,hsz,hzl,h1,hb,h⟩:=h
  obtain ⟨inf,hu,hinf,rfl,rfl⟩:=el_open he
  obtain ⟨inf',zv,hinf',hzv,rfl⟩:=zc_open hz
  obtain rfl : inf = inf':=Option.some.inj (hinf.symm.trans hinf')
  have hzs : zv.cells.size = inf.size:=by simpa using hzl
  refine does_run fun w0 oa φ a w hs=>?_
  have e1:=hs.ev x;rw [hx] at e1
  have e2:=hs.ev c;rw [hc] at e2
  have hr:=run_make (P:=P) w t e inf zv hu hinf hzv k k' m cp h0 hmc hby h63
  obtain ⟨mm,rfl⟩:=Int.eq_ofNat_of_zero_le h0
  obtain ⟨cc,rfl⟩:=Int.eq_ofNat_of_zero_le (Int.le_trans h0 hmc)
  have hmc' : mm ≤ cc:=by omega
  simp only [Int.toNat_natCast] at hr h ⊢
  have hz0 : 0 < zv.cells.size:=by omega
  have hown : (w.alloc (.cells (madeCells zv.cells (cc * inf.size)) e)).ownsRow w.heap.size e inf.size (.slice (some ⟨w.heap.size,0,none⟩) cc cc) (List.replicate cc (zD b zv.cells.toList)).length (madeCells zv.cells (cc * inf.size)).toList:=by
    rw [List.length_replicate]
    exact ⟨by simp [madeCells],.inr ⟨w.heap.size,cc,_,rfl,Nat.le_refl _,heap_alloc_new w _,Nat.le_refl _,by simp only [maxLen];omega,by simp [madeCells],by rw [List.take_of_length_le (by simp [madeCells])]⟩⟩
  have hrw:=rw_zeros (w:=w.alloc (.cells (madeCells zv.cells (cc * inf.size)) e)) (ok:=okB w0 oa φ (go st.hp) w) (m:=cc) hz0 h1 hb
  rw [hzs] at hrw
  obtain ⟨φ',hs',hv⟩:=hs.newrow n hn e inf.size (List.replicate cc (zD b zv.cells.toList)) _ _ hsz ((Below.refl _ _).alloc (Nat.le_refl _) _) hown hrw
  rw [List.length_replicate] at hv
  have hid : φ' n = some (.slice (some ⟨w.heap.size,0,none⟩) cc cc):=by
    cases hv with
    | sl _ _ _ _ _ u A c hid hc hf ha=>rw [hid,(hf rfl).1]
  refine ⟨_,_,_,?_,h,(hs'.put o.dst hd (.slc _ _ 0 mm cc _ cc cc hid hmc')).sr⟩
  simp [execOp,ho,vr_v e1,vr_v e2,hr]
end Go.Proofs.Ytleahjfgedfgmaa.Am
end
section
set_option linter.unusedVariables false
set_option linter.unusedSimpArgs false
namespace Go.Proofs.Ytleahjfgedfgmaa.Am
open Go Go.RowKit
theorem HR.less {w0 w : World} {oa : OA} {φ : Nat → Option Value} {hp hp' : Nat → Option Ob} (h : HR w0 oa φ hp w) (hle : ∀ id,hp' id = hp id ∨ (hp' id = some .dead ∧ hp id ≠ none)) :
    HR w0 oa φ hp' w ∧ ∀ b,okB w0 oa φ hp w b → okB w0 oa φ hp' w b:=by
  have alive : ∀ id o,hp' id = some o → o ≠ .dead → hp id = some o:=fun id o ho hn=>by
    rcases hle id with h1|h1
    · rw [← h1];exact ho
    · rw [h1.1] at ho;cases ho;exact absurd rfl hn
  have hok : ∀ b,okB w0 oa φ hp w b → okB w0 oa φ hp' w b:=fun b hb=>⟨hb.1,fun id o v ho hn hv=>hb.2 id o v (alive id o ho hn) hn hv⟩
  have hmine : ∀ id o v b,hp' id = some o → o ≠ .dead → φ id = some v → blk v = some b → ours w0 oa b:=fun id o v b ho hn hv hb=>h.mine id o v b (alive id o ho hn) hn hv hb
  have hpin : ∀ id v,oa.pin id = some v → 1000000 ≤ id ∧ hp' id ≠ none ∧ ∀ o,hp' id = some o → o ≠ .dead → φ id = some v:=fun id v hv=>by
    obtain ⟨g1,g2,g3⟩:=h.pin id v hv
    refine ⟨g1,?_,fun o ho hn=>g3 o (alive id o ho hn) hn⟩
    rcases hle id with h1|h1
    · rw [h1];exact g2
    · rw [h1.1];simp
  refine ⟨⟨h.below,fun id o ho=>?_,hmine,hpin,fun id hid=>?_,fun id id' o o' v v' ho ho' hn hn' hne hv hv'=>h.inj id id' o o' v v' (alive _ _ ho hn) (alive _ _ ho' hn') hn hn' hne hv hv'⟩,hok⟩
  · cases o with
    | dead=>trivial
    | opq R =>
      obtain ⟨b,x,hu,hh,hr⟩:=h.obj id _ (alive id _ ho (by simp))
      exact ⟨b,x,hu,hh,hr⟩
    | rowv e l =>
      obtain ⟨u,cs,hu,hw,hl,h1,hr⟩:=h.obj id _ (alive id _ ho (by simp))
      exact ⟨u,cs,hu,hw,hl,h1,fun j x y hx hy=>(hr j x y hx hy).mono (fun _ _ hv=>hv) (fun _ _=>rfl) hok⟩
    | mp l =>
      obtain ⟨b,es,c,hu,hh,hl,hr⟩:=h.obj id _ (alive id _ ho (by simp))
      exact ⟨b,es,c,hu,hh,hl,fun j k d en hx hy=>⟨(hr j k d en hx hy).1,(hr j k d en hx hy).2.mono (fun _ _=>rfl) hok⟩⟩
    | row e sz l =>
      obtain ⟨u,cs,hu,hs,hw,hr⟩:=h.obj id _ (alive id _ ho (by simp))
      exact ⟨u,cs,hu,hs,hw,hr.mono (fun _ _=>rfl) hok⟩
    | box l =>
      obtain ⟨b,t,cs,hu,hb,hh,hl,h1,hr⟩:=h.obj id _ (alive id _ ho (by simp))
      exact ⟨b,t,cs,hu,hb,hh,hl,h1,fun j x y hx hy=>(hr j x y hx hy).mono (fun _ _ hv=>hv) (fun _ _=>rfl) hok⟩
  · rcases hle id with h1|h1
    · exact h.fresh id (by rw [← h1];exact hid)
    · rw [h1.1] at hid;cases hid
def killL (hp : List (Nat × Ob)) : List Nat → List (Nat × Ob)
  | []=>hp
  | i :: r=>so (killL hp r) i .dead
theorem go_killL (hp : List (Nat × Ob)) (ids : List Nat) (k : Nat) : go (killL hp ids) k = if k ∈ ids then some .dead else go hp k:=by
  induction ids with
  | nil=>simp [killL]
  | cons i r ih =>
    simp only [killL,go_so,ih,List.mem_cons]
    by_cases h : k = i <;> simp [h]
theorem killL_eq (hp : List (Nat × Ob)) (ids : List Nat) : killL hp ids = ids.map (fun i=>(i,Ob.dead)) ++ hp:=by
  induction ids with
  | nil=>rfl
  | cons i r ih=>simp only [killL,ih,so];rfl
def idsV : V → List Nat
  | .sl id _ _ _ _=>[id]
  | .slc id _ _ _ _=>[id]
  | _=>[]
def idsW : V → List Nat
  | .agg l=>l.flatMap idsV
  | x=>idsV x
theorem toD1_ids {hp : List (Nat × Ob)} {x : V} {d : D} (h : toD1 hp x = some d) : ∀ id ∈ idsV x,go hp id ≠ none:=by
  cases x with
  | sl id sz off len full =>
    obtain ⟨e,l,hg,_⟩:=toD1_sl h
    intro i hi
    simp only [idsV,List.mem_singleton] at hi
    subst hi
    rw [hg];simp
  | slc id sz off len cap =>
    obtain ⟨e,l,hg,_⟩:=toD1_sl (full:=true) h
    intro i hi
    simp only [idsV,List.mem_singleton] at hi
    subst hi
    rw [hg];simp
  | _=>intro i hi;simp [idsV] at hi
theorem toDs_get {hp : List (Nat × Ob)} : ∀ {l : List V} {ds : List D},toDs hp l = some ds → ds.length = l.length ∧ ∀ (j : Nat) (x : V),l[j]? = some x → ∃ d,ds[j]? = some d ∧ toD1 hp x = some d
  | [],ds,h=>by simp only [toDs,Option.some.injEq] at h;subst h;simp
  | x :: r,ds,h=>by
    simp only [toDs] at h
    split at h
    · rename_i d hd
      obtain ⟨ds',hds,rfl⟩:=Option.map_eq_some_iff.1 h
      obtain ⟨hl,hh⟩:=toDs_get hds
      refine ⟨by simp [hl],fun j x' hx=>?_⟩
      cases j with
      | zero=>simp at hx;subst hx;exact ⟨d,rfl,hd⟩
      | succ j=>exact hh j x' (by simpa using hx)
    · cases h
theorem toD1_kill {w0 w : World} {oa : OA} {φ : Nat → Option Value} {hp : List (Nat × Ob)} (hr : HR w0 oa φ (go hp) w) {ids : List Nat} (hids : ∀ id ∈ ids,go hp id ≠ none) {x : V} {y : Value} (hv : VR φ w (okB w0 oa φ (go hp) w) x y) {d : D} (h : toD1 hp x = some d)
    (hx : ∀ id ∈ idsV x,id ∈ ids) : Rd w (okB w0 oa φ (go (killL hp ids)) w) d y:=by
  have hle : ∀ id,go (killL hp ids) id = go hp id ∨ (go (killL hp ids) id = some .dead ∧ go hp id ≠ none):=fun id=>by
    rw [go_killL]
    split
    · rename_i hi;exact .inr ⟨rfl,hids id hi⟩
    · exact .inl rfl
  have hok:=(hr.less hle).2
  by_cases hp1 : pu1 x = true
  · exact ((toD1_rd hr hv h).2 hp1).mono (fun _ _=>rfl) hok
  · cases x with
    | sl id sz off len full =>
      obtain ⟨e,l,hg,hle',rfl⟩:=toD1_sl h
      obtain ⟨u,cs,hu,hsz,ho,hrw⟩:=hr.obj id _ hg
      cases hv with
      | sl _ _ _ _ _ u' A c hid hc hf ha =>
        obtain rfl : u = u':=Option.some.inj (hu.symm.trans hid)
        refine row_slice hsz ho hrw _ hok ?_ hle' hc ha
        intro b hb
        have hlt:=hr.blk_lt hg (by simp) hu hb
        refine ⟨ours_ok hlt.1 hlt.2,fun id' o' v' ho' hn' hv' he=>?_⟩
        rw [go_killL] at ho'
        split at ho'
        · cases ho';exact hn' rfl
        · rename_i hni
          have hne : id ≠ id':=fun e=>hni (e ▸ hx id (by simp [idsV]))
          rcases hr.inj id id' _ _ _ _ hg ho' (by simp) hn' hne hu hv' with h3|h3
          · rw [hb] at h3;cases h3
          · exact h3 (by rw [hb,he])
    | slc id sz off len cap =>
      obtain ⟨e,l,hg,hle',rfl⟩:=toD1_sl (full:=true) h
      obtain ⟨u,cs,hu,hsz,ho,hrw⟩:=hr.obj id _ hg
      cases hv with
      | slc _ _ _ _ _ b0 n c hid hc =>
        obtain rfl:=Option.some.inj (hu.symm.trans hid)
        refine row_slice hsz ho hrw _ hok ?_ hle' hc (.inr ⟨b0,n,c,rfl,rfl⟩)
        intro b hb
        have hlt:=hr.blk_lt hg (by simp) hu hb
        refine ⟨ours_ok hlt.1 hlt.2,fun id' o' v' ho' hn' hv' he=>?_⟩
        rw [go_killL] at ho'
        split at ho'
        · cases ho';exact hn' rfl
        · rename_i hni
          have hne : id ≠ id':=fun e=>hni (e ▸ hx id (by simp [idsV]))
          rcases hr.inj id id' _ _ _ _ hg ho' (by simp) hn' hne hu hv' with h3|h3
          · rw [hb] at h3;cases h3
          · exact h3 (by rw [hb,he])
    | d x=>simp [pu1] at hp1
    | nil=>simp [pu1] at hp1
    | _=>simp [toD1] at h
theorem toD_kill {w0 w : World} {oa : OA} {φ : Nat → Option Value} {hp : List (Nat × Ob)} (hr : HR w0 oa φ (go hp) w) {ids : List Nat} (hids : ∀ id ∈ ids,go hp id ≠ none) {x : V} {y : Value} (hv : VR φ w (okB w0 oa φ (go hp) w) x y) {d : D} (h : toD hp x = some d)
    (hx : ∀ id ∈ idsW x,id ∈ ids) : Rd w (okB w0 oa φ (go (killL hp ids)) w) d y:=by
  cases x with
  | agg l =>
    simp only [toD] at h
    obtain ⟨ds,hds,rfl⟩:=Option.map_eq_some_iff.1 h
    obtain ⟨cs,rfl,hl,h1,hh⟩:=vr_agg hv
    obtain ⟨hdl,hdg⟩:=toDs_get hds
    refine .agg _ _ (by rw [hl,hdl]) h1 fun j d' y' hd' hy'=>?_
    have hj : j < l.length:=by rw [← hdl];exact (List.getElem?_eq_some_iff.1 hd').1
    obtain ⟨d2,hd2,ht⟩:=hdg j l[j] (by simp)
    obtain rfl : d' = d2:=Option.some.inj (hd'.symm.trans hd2)
    exact toD1_kill hr hids (hh j l[j] y' (by simp) hy') ht (fun id hid=>hx id (by simp only [idsW,List.mem_flatMap];exact ⟨l[j],List.getElem_mem hj,hid⟩))
  | _=>exact toD1_kill hr hids hv h hx
theorem toD_ids {hp : List (Nat × Ob)} {x : V} {d : D} (h : toD hp x = some d) : ∀ id ∈ idsW x,go hp id ≠ none:=by
  cases x with
  | agg l =>
    simp only [toD] at h
    obtain ⟨ds,hds,rfl⟩:=Option.map_eq_some_iff.1 h
    intro id hid
    simp only [idsW,List.mem_flatMap] at hid
    obtain ⟨z,hz,hid⟩:=hid
    obtain ⟨j,hj,hz⟩:=List.mem_iff_getElem.1 hz
    obtain ⟨d',_,ht⟩:=(toDs_get hds).2 j z (by rw [List.getElem?_eq_getElem hj,hz])
    exact toD1_ids ht id hid
  | d x=>exact toD1_ids (hp:=hp) (x:=.d x) (d:=d) h
  | nil=>exact toD1_ids (hp:=hp) (x:=.nil) (d:=d) h
  | sl a b c e f=>exact toD1_ids (hp:=hp) (x:=.sl a b c e f) (d:=d) h
  | ptr a b=>exact toD1_ids (hp:=hp) (x:=.ptr a b) (d:=d) h
  | ep a b c e=>exact toD1_ids (hp:=hp) (x:=.ep a b c e) (d:=d) h
  | slc a b c e f=>exact toD1_ids (hp:=hp) (x:=.slc a b c e f) (d:=d) h
  | mp a=>exact toD1_ids (hp:=hp) (x:=.mp a) (d:=d) h
  | bs a b c=>exact toD1_ids (hp:=hp) (x:=.bs a b c) (d:=d) h
  | es a b c e f=>exact toD1_ids (hp:=hp) (x:=.es a b c e f) (d:=d) h
  | tup l=>exact toD1_ids (hp:=hp) (x:=.tup l) (d:=d) h
  | junk=>exact toD1_ids (hp:=hp) (x:=.junk) (d:=d) h
theorem SRp.kill {w0 : World} {oa : OA} {φ : Nat → Option Value} {st : St} {a : Act} {w : World} (h : SRp w0 oa φ st a w) (ids : List Nat) (hids : ∀ id ∈ ids,go st.hp id ≠ none) : SRp w0 oa φ { st with hp:=killL st.hp ids } a w:=by
  have hle : ∀ id,go (killL st.hp ids) id = go st.hp id ∨ (go (killL st.hp ids) id = some .dead ∧ go st.hp id ≠ none):=fun id=>by
    rw [go_killL]
    split
    · rename_i hi;exact .inr ⟨rfl,hids id hi⟩
    · exact .inl rfl
  obtain ⟨h1,h2⟩:=h.hr.less hle
  exact ⟨h1,h.sz,h.df,fun k=>(h.tm k).mono (fun _ _ hv=>hv) (fun _ _=>rfl) h2⟩
theorem take_set1 {α : Type} (cs : List α) (p : Nat) (x : α) (h : p < cs.length) : (cs.set p x).take (p + 1) = cs.take p ++ [x]:=by
  rw [List.take_succ_eq_append_getElem (by simpa using h)]
  congr 1
  · rw [List.take_set_of_le (Nat.le_refl _)]
  · simp
theorem drop_set1 {α : Type} (cs : List α) (p q : Nat) (x : α) (h : p < q) : (cs.set p x).drop q = cs.drop q:=by
  rw [List.drop_set_of_lt h]
theorem fold_set (off : Nat) : ∀ (xs : List Value) (k : Nat) (cs : List Value),off + k + xs.length ≤ cs.length →
    ((xs.zipIdx k).foldl (fun (cs : Array Value) (p : Value × Nat)=>cs.setIfInBounds (off + p.2) p.1) cs.toArray) = (cs.take (off + k) ++ xs ++ cs.drop (off + k + xs.length)).toArray
  | [],k,cs,h=>by simp
  | x :: r,k,cs,h=>by
    simp only [List.length_cons] at h
    simp only [List.zipIdx_cons,List.foldl_cons,List.setIfInBounds_toArray]
    rw [fold_set off r (k + 1) (cs.set (off + k) x) (by simp;omega)]
    congr 1
    rw [show off + (k + 1) = off + k + 1 by omega,take_set1 cs (off + k) x (by omega),drop_set1 cs (off + k) _ x (by omega)]
    have e : off + k + 1 + r.length = off + k + (r.length + 1):=by omega
    simp only [List.append_assoc,List.singleton_append,List.cons_append,List.nil_append,List.length_cons,e]
theorem fill_one (place : Nat → Option (Nat × Nat)) (cs : List Value) (i off sz : Nat) (v : Value) (rest : List (Nat × Value)) (hp : place i = some (off,sz)) (hs : v.cells.size = sz) (hle : off + sz ≤ cs.length) :
    Instr.fill place cs.toArray ((i,v) :: rest) = Instr.fill place (cs.take off ++ v.cells.toList ++ cs.drop (off + sz)).toArray rest:=by
  have h:=fold_set off v.cells.toList 0 cs (by simp;omega)
  simp only [Nat.add_zero,Array.length_toList,hs] at h
  have hz : v.cells.zipIdx.foldl (fun cs (x : Value × Nat)=>cs.setIfInBounds (off + x.2) x.1) cs.toArray = (v.cells.toList.zipIdx 0).foldl (fun (cs : Array Value) (p : Value × Nat)=>cs.setIfInBounds (off + p.2) p.1) cs.toArray:=by
    rw [← Array.foldl_toList,Array.toList_zipIdx]
  simp only [Instr.fill,hp,hs]
  rw [if_neg (by simp;omega)]
  rw [← h,← hz]
def pl (P : Program) (t : TypeId) : Option (List (Nat × Nat)) :=
  match P.underlying t with
  | some (.struct fields)=>fields.toList.mapM fun f=>(P.info? f.type).map fun i=>(f.offset,i.size)
  | some (.array n e)=>(P.info? e).map fun i=>(List.range n).map fun k=>(k * i.size,i.size)
  | _=>none
def fillV (places : List (Nat × Nat)) (st : St) : List (Nat × Operand) → List V → Option (List V)
  | [],l=>some l
  | (i,x) :: r,l=>match places[i]? with
    | some (off,sz)=>match cellsV (st.ev x) with
      | some xs=>if xs.length = sz ∧ off + sz ≤ l.length ∧ one1 (st.ev x) = true then fillV places st r (l.take off ++ xs ++ l.drop (off + sz)) else none
      | none=>none
    | none=>none
theorem fillV_ok {φ : Nat → Option Value} {w : World} {ok : Nat → Prop} {st : St} {a : Act} (hev : ∀ x,VR φ w ok (st.ev x) (a.eval x)) {places : List (Nat × Nat)} {pf : Nat → Option (Nat × Nat)} (hpf : ∀ i q,places[i]? = some q → pf i = some q) : ∀ (parts : List (Nat × Operand)) (l l' : List V) (cs : List Value),fillV places st parts l = some l' → cs.length = l.length →
    (∀ (j : Nat) (y : Value),cs[j]? = some y → y.oneCell' = true) → (∀ (j : Nat) (x : V) (y : Value),l[j]? = some x → cs[j]? = some y → VR φ w ok x y) →
    ∃ cs',Instr.fill pf cs.toArray (parts.map fun p=>(p.1,a.eval p.2)) = some cs' ∧ cs'.size = l'.length ∧ (∀ (j : Nat) (y : Value),cs'[j]? = some y → y.oneCell' = true) ∧ (∀ (j : Nat) (x : V) (y : Value),l'[j]? = some x → cs'[j]? = some y → VR φ w ok x y)
  | [],l,l',cs,h,hl,h1,hv=>by
    simp only [fillV,Option.some.injEq] at h
    subst h
    exact ⟨cs.toArray,rfl,by simpa using hl,fun j y hy=>h1 j y (by simpa using hy),fun j x y hx hy=>hv j x y hx (by simpa using hy)⟩
  | (i,x) :: r,l,l',cs,h,hl,h1,hv=>by
    simp only [fillV] at h
    split at h
    · rename_i off sz hpl
      split at h
      · rename_i xs hxs
        split at h
        · rename_i hc
          obtain ⟨hc1,hc2,hc3⟩:=hc
          obtain ⟨g1,g2,g3⟩:=cellsV_vr hxs (hev x) (one1_ok hc3)
          have hf:=fill_one pf cs i off sz (a.eval x) (r.map fun p=>(p.1,a.eval p.2)) (hpf _ _ hpl) (by rw [g1,hc1]) (by omega)
          rw [List.map_cons,hf]
          refine fillV_ok hev hpf r _ l' _ h (by simp [hl,g1]) (fun j y hy=>?_) (fun j z y hz hy=>?_)
          · rw [List.append_assoc] at hy
            by_cases hj : j < off
            · rw [List.getElem?_append_left (by simp;omega)] at hy
              rw [List.getElem?_take,if_pos hj] at hy
              exact h1 j y hy
            · rw [List.getElem?_append_right (by simp;omega)] at hy
              simp only [List.length_take,show min off cs.length = off by omega] at hy
              by_cases hj2 : j - off < sz
              · rw [List.getElem?_append_left (by simp;omega)] at hy
                exact g2 _ y (by simpa using hy)
              · rw [List.getElem?_append_right (by simp;omega)] at hy
                rw [List.getElem?_drop] at hy
                exact h1 _ y hy
          · rw [List.append_assoc] at hy hz
            by_cases hj : j < off
            · rw [List.getElem?_append_left (by simp;omega)] at hy hz
              rw [List.getElem?_take,if_pos hj] at hy hz
              exact hv j z y hz hy
            · rw [List.getElem?_append_right (by simp;omega)] at hy hz
              simp only [List.length_take,show min off cs.length = off by omega,show min off l.length = off by omega] at hy hz
              by_cases hj2 : j - off < sz
              · rw [List.getElem?_append_left (by simp;omega)] at hy
                rw [List.getElem?_append_left (by omega)] at hz
                exact g3 _ z y hz (by simpa using hy)
              · rw [List.getElem?_append_right (by simp;omega)] at hy
                rw [List.getElem?_append_right (by omega)] at hz
                simp only [Array.length_toList,g1] at hy
                rw [List.getElem?_drop] at hy hz
                rw [hc1] at hy hz
                exact hv _ z y hz hy
        · cases h
      · cases h
    · cases h
def e_build (P : Program) (t : TypeId) (parts : Array (Nat × Operand)) (o : Oper) (st : St) (K : V → List (Nat × Ob) → Prop) : Prop :=
  dOk o.dst st.nt ∧ match pl P t with
  | some places=>match zc P t with
    | some z=>z.all (·.oneCell') = true ∧ match fillV places st parts.toList (z.map cV0) with
      | some l=>K (.agg l) []
      | none=>False
    | none=>False
  | none=>False
theorem s_build {P : Program} {t : TypeId} {parts : Array (Nat × Operand)} {o : Oper} {st : St} {K : St → Prop} (ho : o.op = .build t parts) (h : e_build P t parts o st fun x ups=>K (st.upd o.dst x ups)) : Does P o st K:=by
  obtain ⟨hd,h⟩:=h
  split at h
  · rename_i places hpl
    split at h
    · rename_i z hz
      obtain ⟨h1,h⟩:=h
      split at h
      · rename_i l hl
        obtain ⟨inf,zv,hinf,hzv,rfl⟩:=zc_open hz
        refine does_val _ hd (fun w0 oa φ a w hs=>?_) h
        have hco : ∀ (j : Nat) (x : V) (y : Value),(zv.cells.toList.map cV0)[j]? = some x → zv.cells.toList[j]? = some y → VR φ w (okB w0 oa φ (go st.hp) w) x y:=fun j x y hx hy=>by
          have : (zv.cells.toList.map cV0)[j]? = some (cV0 y):=by simp [hy]
          rw [this] at hx;cases hx;exact vr_c0 y
        have key : ∀ pf : Nat → Option (Nat × Nat),(∀ i q,places[i]? = some q → pf i = some q) → (∀ cs',Instr.fill pf zv.cells.toList.toArray (parts.toList.map fun p=>(p.1,a.eval p.2)) = some cs' → P.built t (parts.map fun (i,x)=>(i,a.eval x)).toList = some cs') →
            ∃ y,(execOp a.eval o).run P w = .ok (.value y) w ∧ VR φ w (okB w0 oa φ (go st.hp) w) (.agg l) y:=fun pf hpf hfin=>by
          obtain ⟨cs',hf,hs1,hs2,hs3⟩:=fillV_ok (fun x=>hs.ev x) hpf parts.toList _ l zv.cells.toList hl (by simp) (fun j y hy=>List.all_eq_true.1 h1 y (List.mem_of_getElem? hy)) hco
          exact ⟨.agg cs',by simp [execOp,ho,run_build w t _ cs' (hfin cs' hf)],.agg _ _ hs1 hs2 hs3⟩
        unfold pl at hpl
        split at hpl
        · rename_i fields hu
          refine key (places.toArray[·]?) (fun i q hq=>by simpa using hq) fun cs' hf=>?_
          simp only [Program.built,hinf,hu,hzv,hpl]
          simpa using hf
        · rename_i n e hu
          obtain ⟨ie,hie,rfl⟩:=Option.map_eq_some_iff.1 hpl
          refine key (fun i=>some (i * ie.size,ie.size)) (fun i q hq=>?_) fun cs' hf=>?_
          · rw [List.getElem?_map] at hq
            obtain ⟨k,hk,rfl⟩:=Option.map_eq_some_iff.1 hq
            have hlt : i < n:=by
              rcases Nat.lt_or_ge i n with h|h
              · exact h
              · rw [List.getElem?_eq_none (by simp;omega)] at hk;cases hk
            rw [List.getElem?_range hlt] at hk
            cases hk
            rfl
          · simp only [Program.built,hinf,hu,hzv,hie]
            simpa using hf
        · cases hpl
      · exact h.elim
    · exact h.elim
  · exact h.elim
end Go.Proofs.Ytleahjfgedfgmaa.Am
end
section
set_option linter.unusedVariables false
set_option linter.unusedSimpArgs false
namespace Go.Proofs.Ytleahjfgedfgmaa.Am
open Go Go.RowKit
theorem fill_seq (sz : Nat) (hsz : 0 < sz) : ∀ (vs : List Value) (k : Nat) (cs : List Value),(∀ v ∈ vs,v.cells.size = sz) → cs.length = (k + vs.length) * sz →
    Instr.fill (fun i=>some (i * sz,sz)) cs.toArray ((vs.zipIdx k).map fun p=>(p.2,p.1)) = some (cs.take (k * sz) ++ vs.flatMap (·.cells.toList)).toArray
  | [],k,cs,_,hl=>by
    simp only [List.zipIdx_nil,List.map_nil,Instr.fill,List.flatMap_nil,List.append_nil]
    rw [List.take_of_length_le (by rw [hl];simp)]
  | v :: r,k,cs,hv,hl=>by
    have hv0 : v.cells.size = sz:=hv v (by simp)
    have hle : k * sz + sz ≤ cs.length:=by
      rw [hl]
      calc k * sz + sz = (k + 1) * sz:=by rw [Nat.add_mul,Nat.one_mul]
        _ ≤ (k + (v :: r).length) * sz:=Nat.mul_le_mul_right _ (by simp only [List.length_cons];omega)
    simp only [List.zipIdx_cons,List.map_cons]
    rw [fill_one (fun i=>some (i * sz,sz)) cs k (k * sz) sz v _ rfl hv0 hle]
    have hlen : (cs.take (k * sz) ++ v.cells.toList).length = (k + 1) * sz:=by
      simp only [List.length_append,List.length_take,Array.length_toList,hv0]
      rw [Nat.min_eq_left (by omega),Nat.add_mul,Nat.one_mul]
    rw [fill_seq sz hsz r (k + 1) _ (fun u hu=>hv u (by simp [hu])) (by
      rw [List.length_append,hlen,List.length_drop,hl]
      have : (k + (v :: r).length) * sz = k * sz + sz + r.length * sz:=by simp only [List.length_cons,Nat.add_mul,Nat.one_mul];omega
      rw [this]
      simp only [Nat.add_mul,Nat.one_mul]
      omega)]
    congr 2
    rw [List.take_append_of_le_length (by rw [hlen];exact Nat.le_refl _),List.take_of_length_le (by rw [hlen];exact Nat.le_refl _)]
    simp [List.append_assoc]
def toDL (hp : List (Nat × Ob)) (st : St) : List (Nat × Operand) → Nat → Option (List D × List Nat)
  | [],_=>some ([],[])
  | (i,x) :: r,k=>if i = k ∧ one1 (st.ev x) = true then match toD hp (st.ev x) with
    | some d=>(toDL hp st r (k + 1)).map fun p=>(d :: p.1,idsW (st.ev x) ++ p.2)
    | none=>none
    else none
theorem toDL_ok {hp : List (Nat × Ob)} {st : St} : ∀ {parts : List (Nat × Operand)} {k : Nat} {ds : List D} {ids : List Nat},toDL hp st parts k = some (ds,ids) → ds.length = parts.length ∧ (∀ f : Operand → Value,parts.map (fun p=>(p.1,f p.2)) = ((parts.map fun p=>f p.2).zipIdx k).map fun p=>(p.2,p.1)) ∧
    (∀ id ∈ ids,go hp id ≠ none) ∧ ∀ (j : Nat) (p : Nat × Operand),parts[j]? = some p → one1 (st.ev p.2) = true ∧ (∀ id ∈ idsW (st.ev p.2),id ∈ ids) ∧ ∃ d,ds[j]? = some d ∧ toD hp (st.ev p.2) = some d
  | [],k,ds,ids,h=>by simp only [toDL,Option.some.injEq,Prod.mk.injEq] at h;obtain ⟨rfl,rfl⟩:=h;simp
  | (i,x) :: r,k,ds,ids,h=>by
    simp only [toDL] at h
    split at h
    · rename_i hc
      obtain ⟨rfl,h1⟩:=hc
      split at h
      · rename_i d hd
        obtain ⟨⟨ds',ids'⟩,hr,he⟩:=Option.map_eq_some_iff.1 h
        simp only [Prod.mk.injEq] at he
        obtain ⟨rfl,rfl⟩:=he
        obtain ⟨g1,g2,g3,g4⟩:=toDL_ok hr
        refine ⟨by simp [g1],fun f=>?_,fun id hid=>?_,fun j p hp=>?_⟩
        · simp only [List.map_cons,List.zipIdx_cons]
          rw [g2 f]
        · rcases List.mem_append.1 hid with h2|h2
          · exact toD_ids hd id h2
          · exact g3 id h2
        · cases j with
          | zero =>
            simp at hp
            subst hp
            exact ⟨h1,fun id hid=>List.mem_append.2 (.inl hid),d,rfl,hd⟩
          | succ j =>
            obtain ⟨q1,q2,d',q3,q4⟩:=g4 j p (by simpa using hp)
            exact ⟨q1,fun id hid=>List.mem_append.2 (.inr (q2 id hid)),d',by simpa using q3,q4⟩
      · cases h
    · cases h
theorem rd_cells {w : World} {ok : Nat → Prop} {d : D} {y : Value} (h : Rd w ok d y) (h1 : ∀ z,d = .v z → z.oneCell' = true) : y.cells.size = d.cells.length ∧ (∀ u ∈ y.cells.toList,u.oneCell' = true) ∧
    ∀ (j : Nat) (x : D) (u : Value),d.cells[j]? = some x → y.cells[j]? = some u → Rd w ok x u:=by
  have one : ∀ (v : Value),v.oneCell' = true → v.cells = #[v]:=by intro v hv;cases v <;> simp [Value.oneCell'] at hv <;> rfl
  have fin : ∀ (d : D) (v : Value),d.cells = [d] → v.oneCell' = true → Rd w ok d v → v.cells.size = d.cells.length ∧ (∀ u ∈ v.cells.toList,u.oneCell' = true) ∧ ∀ (j : Nat) (x : D) (u : Value),d.cells[j]? = some x → v.cells[j]? = some u → Rd w ok x u:=by
    intro d v hd h1 hv
    rw [one v h1,hd]
    refine ⟨rfl,fun u hu=>by simp at hu;subst hu;exact h1,fun j z u hz hu=>?_⟩
    cases j with
    | zero=>simp at hu hz;subst hu;subst hz;exact hv
    | succ j=>simp at hu
  have h2:=h
  cases h with
  | v x=>exact fin _ _ rfl (h1 _ rfl) h2
  | agg l cs hl ho hh=>exact ⟨hl,fun u hu=>by obtain ⟨j,hj,rfl⟩:=List.mem_iff_getElem.1 hu;exact ho j _ (by simp [Value.cells]),hh⟩
  | nil=>exact fin _ _ rfl rfl h2
  | list=>exact fin _ _ rfl rfl h2
  | ref=>exact fin _ _ rfl rfl h2
theorem flat_get {sz : Nat} (hsz : 0 < sz) : ∀ {vs : List Value},(∀ v ∈ vs,v.cells.size = sz) → (vs.flatMap (·.cells.toList)).length = vs.length * sz ∧
    ∀ (i j : Nat) (v : Value),vs[i]? = some v → j < sz → (vs.flatMap (·.cells.toList))[i * sz + j]? = v.cells[j]?
  | [],_=>by simp
  | v :: r,hv=>by
    obtain ⟨h1,h2⟩:=flat_get hsz (vs:=r) fun u hu=>hv u (by simp [hu])
    have hv0 : v.cells.size = sz:=hv v (by simp)
    refine ⟨by simp only [List.flatMap_cons,List.length_append,Array.length_toList,hv0,h1,List.length_cons,Nat.add_mul,Nat.one_mul];omega,fun i j u hu hj=>?_⟩
    simp only [List.flatMap_cons]
    cases i with
    | zero =>
      simp at hu
      subst hu
      rw [List.getElem?_append_left (by simp;omega)]
      simp
    | succ i =>
      have hu' : r[i]? = some u:=by simpa using hu
      rw [List.getElem?_append_right (by simp only [Array.length_toList,hv0,Nat.add_mul,Nat.one_mul];omega)]
      have : (i + 1) * sz + j - v.cells.toList.length = i * sz + j:=by simp only [Array.length_toList,hv0,Nat.add_mul,Nat.one_mul];omega
      rw [this]
      exact h2 i j u hu' hj
def one0 : D → Bool
  | .v z=>z.oneCell'
  | _=>true
def e_lit (P : Program) (t : TypeId) (len : Nat) (parts : Array (Nat × Operand)) (o : Oper) (st : St) (K : V → List (Nat × Ob) → Prop) : Prop :=
  dOk o.dst st.nt ∧ match o.dst with
  | some n=>go st.hp n = none ∧ match el P t with
    | some (e,sz,_)=>match zc P e with
      | some z=>match toDL st.hp st parts.toList 0 with
        | some (ds,ids)=>parts.size = len ∧ 0 < sz ∧ z.length = sz ∧ len * sz ≤ 16777216 ∧ (∀ d ∈ ds,d.cells.length = sz ∧ one0 d = true) ∧ K (.sl n sz 0 ds.length true) ((n,.row e sz ds) :: ids.map fun i=>(i,.dead))
        | none=>False
      | none=>False
    | none=>False
  | none=>False
theorem s_lit {P : Program} {t : TypeId} {len : Nat} {parts : Array (Nat × Operand)} {o : Oper} {st : St} {K : St → Prop} (ho : o.op = .buildSlice t len parts) (h : e_lit P t len parts o st fun x ups=>K (st.upd o.dst x ups)) : Does P o st K:=by
  obtain ⟨hd,h⟩:=h
  split at h
  · rename_i n hdst
    obtain ⟨hn,h⟩:=h
    split at h
    · rename_i e sz by' he
      split at h
      · rename_i z hz
        split at h
        · rename_i ds ids hds
          obtain ⟨rfl,hsz,hzl,hlim,hcell,h⟩:=h
          obtain ⟨inf,hu,hinf,rfl,_⟩:=el_open he
          obtain ⟨inf',zv,hinf',hzv,rfl⟩:=zc_open hz
          obtain rfl : inf = inf':=Option.some.inj (hinf.symm.trans hinf')
          obtain ⟨g1,g2,g3,g4⟩:=toDL_ok hds
          refine does_run fun w0 oa φ a w hs=>?_
          have hs1:=hs.kill ids g3
          have hn1 : go (killL st.hp ids) n = none:=by
            rw [go_killL,if_neg (fun hi=>g3 n hi hn)];exact hn
          obtain ⟨vs,hvs⟩ : ∃ vs,vs = parts.toList.map fun p=>a.eval p.2:=⟨_,rfl⟩
          have hvl : vs.length = parts.size:=by rw [hvs];simp
          have rds : ∀ (i : Nat) (v : Value) (d : D),vs[i]? = some v → ds[i]? = some d → Rd w (okB w0 oa φ (go (killL st.hp ids)) w) d v:=by
            intro i v d hv hd'
            rw [hvs,List.getElem?_map] at hv
            obtain ⟨p,hp,rfl⟩:=Option.map_eq_some_iff.1 hv
            obtain ⟨_,q2,d',q3,q4⟩:=g4 i p hp
            obtain rfl : d = d':=Option.some.inj (hd'.symm.trans q3)
            exact toD_kill hs.hr g3 (hs.ev p.2) q4 q2
          have hdi : ∀ i,i < vs.length → ∃ d,ds[i]? = some d ∧ d.cells.length = inf.size ∧ one0 d = true:=by
            intro i hi
            have : i < ds.length:=by rw [g1];simpa [hvl] using hi
            exact ⟨ds[i],by simp,hcell _ (List.getElem_mem this)⟩
          have hcs : ∀ v ∈ vs,v.cells.size = inf.size:=by
            intro v hv
            obtain ⟨i,hi,rfl⟩:=List.mem_iff_getElem.1 hv
            obtain ⟨d,hd',hc,ho1⟩:=hdi i hi
            rw [(rd_cells (rds i _ d (by simp) hd') (fun z hz=>by subst hz;exact ho1)).1,hc]
          obtain ⟨f1,f2⟩:=flat_get hsz hcs
          have hfill : Instr.fill (fun i=>some (i * inf.size,inf.size)) ((Array.range (parts.size * inf.size)).map (zv.cells[· % zv.cells.size]!)) (parts.map fun (i,x)=>(i,a.eval x)).toList = some (vs.flatMap (·.cells.toList)).toArray:=by
            have hm : (parts.map fun (i,x)=>(i,a.eval x)).toList = (vs.zipIdx 0).map fun p=>(p.2,p.1):=by
              rw [hvs,← g2 a.eval]
              simp
            rw [hm]
            have:=fill_seq inf.size hsz vs 0 ((Array.range (parts.size * inf.size)).map (zv.cells[· % zv.cells.size]!)).toList hcs (by simp [hvl])
            rw [Array.toArray_toList,Nat.zero_mul,List.take_zero,List.nil_append] at this
            exact this
          have hrun : (execOp a.eval o).run P w = .ok (.value (.slice (some ⟨w.heap.size,0,none⟩) parts.size parts.size)) (w.alloc (.cells (vs.flatMap (·.cells.toList)).toArray e)):=by
            have h24 : ¬ (16777216 < parts.size * inf.size):=by omega
            by_cases h0 : parts.size * inf.size = 0
            · have hp0 : parts.size = 0:=by
                rcases Nat.mul_eq_zero.1 h0 with h2|h2
                · exact h2
                · omega
              have hp1 : parts = #[]:=Array.eq_empty_of_size_eq_zero hp0
              subst hp1
              simp at hvs
              subst hvs
              simp [execOp,ho,Instr.buildSlice,run_underlying hu,run_size hinf,Instr.fill,newRow,Array.range_zero']
            · simp [execOp,ho,Instr.buildSlice,run_underlying hu,run_size hinf,h24,h0,zeroValue,typeInfo,hinf,hzv,newRow]
              simp at hfill
              rw [hfill]
              simp
          have hown : (w.alloc (.cells (vs.flatMap (·.cells.toList)).toArray e)).ownsRow w.heap.size e inf.size (.slice (some ⟨w.heap.size,0,none⟩) parts.size parts.size) ds.length (vs.flatMap (·.cells.toList)):=by
            have hdl : ds.length = parts.size:=by rw [g1];simp
            rw [hdl]
            have:=World.ownsRow_lit (size:=inf.size) (e:=e) (base:=w.heap.size) w (vs.flatMap (·.cells.toList)).toArray parts.size (Nat.le_refl _) (by
              have : parts.size ≤ parts.size * inf.size:=Nat.le_mul_of_pos_right _ hsz
              simp only [maxLen];omega) (by simp only [List.size_toArray,f1,hvl])
            simpa using this
          have hrw : Rw (w.alloc (.cells (vs.flatMap (·.cells.toList)).toArray e)) (okB w0 oa φ (go (killL st.hp ids)) w) inf.size ds (vs.flatMap (·.cells.toList)):=by
            refine ⟨by rw [f1,hvl,g1];simp,fun u hu=>?_,fun d hd'=>(hcell d hd').1,fun i j d x u hd' hx hu'=>?_⟩
            · obtain ⟨v,hv,hu⟩:=List.mem_flatMap.1 hu
              obtain ⟨i,hi,rfl⟩:=List.mem_iff_getElem.1 hv
              obtain ⟨d,hd',hc,ho1⟩:=hdi i hi
              exact (rd_cells (rds i _ d (by simp) hd') (fun z hz=>by subst hz;exact ho1)).2.1 u hu
            · have hi : i < vs.length:=by
                have:=(List.getElem?_eq_some_iff.1 hd').1
                rw [g1] at this
                simpa [hvl] using this
              have hj : j < inf.size:=by rw [← (hcell d (List.mem_of_getElem? hd')).1];exact (List.getElem?_eq_some_iff.1 hx).1
              have hvi : vs[i]? = some vs[i]:=by simp
              rw [f2 i j vs[i] hvi hj] at hu'
              exact ((rd_cells (rds i _ d hvi hd') (fun z hz=>by subst hz;exact (hcell _ (List.mem_of_getElem? hd')).2)).2.2 j x u hx hu').mono (fun b hb=>heap_alloc_old w _ b (okB_lt hs1.hr.below.size hb)) (fun _ hb=>hb)
          obtain ⟨φ',hs',hv⟩:=hs1.newrow n hn1 e inf.size ds _ _ hsz ((Below.refl _ _).alloc (Nat.le_refl _) _) hown hrw
          have hkl : (n,Ob.row e inf.size ds) :: ids.map (fun i=>(i,Ob.dead)) ++ st.hp = so (killL st.hp ids) n (.row e inf.size ds):=by
            rw [killL_eq];rfl
          refine ⟨_,_,_,hrun,h,?_⟩
          unfold St.upd
          rw [hkl]
          exact (hs'.put o.dst hd hv).sr
        · exact h.elim
      · exact h.elim
    · exact h.elim
  · exact h.elim
end Go.Proofs.Ytleahjfgedfgmaa.Am
end
section
set_option linter.unusedVariables false
set_option linter.unusedSimpArgs false
namespace Go.Proofs.Ytleahjfgedfgmaa.Am
open Go Go.RowKit
theorem HR.touch {w0 w w' : World} {oa : OA} {φ : Nat → Option Value} {hp : List (Nat × Ob)} (h : HR w0 oa φ (go hp) w) {id : Nat} {ob ob' : Ob} (hg : go hp id = some ob) (hn : ob ≠ .dead) (hn' : ob' ≠ .dead) {u : Value} {b0 : Nat} (hu : φ id = some u) (hb0 : blk u = some b0)
    (hsz : w'.heap.size = w.heap.size) (hbelow : Bel w0 oa w') (hkeep : ∀ b,b ≠ b0 → w'.heap[b]? = w.heap[b]?)
    (hobj : ∀ ok : Nat → Prop,(∀ b,okB w0 oa φ (go hp) w b → ok b ∧ b ≠ b0) → OR φ w' ok 0 id ob') :
    HR w0 oa φ (go (so hp id ob')) w' ∧ (∀ b,okB w0 oa φ (go hp) w b → okB w0 oa φ (go (so hp id ob')) w' b ∧ w'.heap[b]? = w.heap[b]?):=by
  have hok2 : ∀ b,okB w0 oa φ (go hp) w b → okB w0 oa φ (go (so hp id ob')) w' b ∧ b ≠ b0:=by
    intro b hb
    refine ⟨⟨?_,?_⟩,fun e=>hb.2 id ob u hg hn hu (by rw [hb0,e])⟩
    · rcases hb.1 with h1|h1
      · exact .inl h1
      · exact .inr ⟨h1.1,by omega⟩
    · intro id' o' v ho' hne hv he
      rw [go_so] at ho'
      split at ho'
      · rename_i e
        subst e
        exact hb.2 _ ob v hg hn hv he
      · exact hb.2 _ o' v ho' hne hv he
  refine HR.step (hp':=go (so hp id ob')) (φ':=φ) (w':=w') h (fun i=>i = id) (by omega) hbelow (fun b _ hb=>hkeep b fun e=>hb id ob u rfl hg hn hu (by rw [hb0,e])) (fun _ _ hv=>hv) ?_ ?_ h.has ?_ ?_ ?_
  · intro i hi
    rw [go_so] at hi
    split at hi
    · cases hi
    · exact h.fresh i hi
  · intro i o' ho' hne
    rw [go_so] at ho'
    split at ho'
    · rename_i e
      subst e
      exact .inr ⟨fun v b hv hb=>.inr ⟨_,ob,u,rfl,hg,hn,hu,by rw [← hb];congr 1;exact Option.some.inj (hu.symm.trans hv)⟩,fun hc=>hc.2 rfl⟩
    · rename_i e
      exact .inl ⟨ho',e⟩
  · intro i o' ho' hc
    rw [go_so] at ho'
    split at ho'
    · rename_i e
      subst e
      cases ho'
      exact hobj _ hok2
    · rename_i e
      exact absurd ⟨ho',e⟩ hc
  · intro i _ hne
    rw [go_so]
    by_cases e : i = id
    · subst e
      rw [if_pos rfl]
      exact ⟨by simp,fun o' _ _ e2=>by rw [hg] at e2;cases e2;exact hn rfl⟩
    · rw [if_neg e]
      exact ⟨hne,fun o' ho' hd e2=>by rw [ho'] at e2;cases e2;exact hd rfl⟩
  · intro i i' o1 o2 v v' ho1 ho2 hn1 hn2 hc hne hv hv'
    rw [go_so] at ho1 ho2
    split at ho1
    · rename_i e
      subst e
      rw [if_neg (Ne.symm hne)] at ho2
      exact h.inj _ i' ob o2 v v' hg ho2 hn hn2 hne hv hv'
    · rename_i e
      exact absurd ⟨ho1,e⟩ hc
theorem below_setRow {w0 w : World} {oa : OA} (h : Bel w0 oa w) (g : Nat) (hg : ours w0 oa g) (cs : Array Value) : Bel w0 oa (w.setRow g cs) :=
  h.step rfl rfl rfl (by simp) (fun k _ hk=>setRow_other w g k cs (fun e=>hk (e ▸ hg)))
theorem run_storeVar_at {P : Program} {t : TypeId} {inf : TypeInfo} (hinf : P.info? t = some inf) (w : World) (g off : Nat) (ty : TypeId) (cur : Array Value) (v : Value) (hg : w.heap[g]? = some (.cells cur ty (0,0))) (hs : v.cells.size = inf.size) (hle : off + inf.size ≤ cur.size)
    (h1 : ∀ u ∈ v.cells.toList,u.oneCell' = true) : (storeVar t ⟨g,off,none⟩ v).run P w = .ok () (w.setRow g (cur.toList.take off ++ v.cells.toList ++ cur.toList.drop (off + inf.size)).toArray):=by
  have:=run_storeCells_at P g off ty v.cells.toList 0 cur w hg (by simp;omega) h1
  simp only [Nat.add_zero,Array.length_toList,hs] at this
  simp [storeVar,run_size hinf,hs,this]
theorem mid_get {α : Type} (cs xs : List α) (off : Nat) (hle : off + xs.length ≤ cs.length) (j : Nat) : (cs.take off ++ xs ++ cs.drop (off + xs.length))[j]? = if off ≤ j ∧ j < off + xs.length then xs[j - off]? else cs[j]?:=by
  rw [List.append_assoc]
  by_cases h1 : j < off
  · rw [List.getElem?_append_left (by simp;omega),List.getElem?_take,if_pos h1,if_neg (by omega)]
  · rw [List.getElem?_append_right (by simp;omega)]
    simp only [List.length_take,show min off cs.length = off by omega]
    by_cases h2 : j < off + xs.length
    · rw [List.getElem?_append_left (by omega),if_pos (by omega)]
    · rw [List.getElem?_append_right (by omega),if_neg (by omega),List.getElem?_drop]
      congr 1
      omega
theorem mid_len {α : Type} (cs xs : List α) (off : Nat) (hle : off + xs.length ≤ cs.length) : (cs.take off ++ xs ++ cs.drop (off + xs.length)).length = cs.length:=by
  simp;omega
def newD (b : Bool) (sz c : Nat) (old : D) (ds : List D) : Option D :=
  if c = 0 ∧ ds.length = sz then (if b = true then some (.agg ds) else ds.head?) else some (.agg (old.cells.take c ++ ds ++ old.cells.drop (c + ds.length)))
def e_store (P : Program) (t : TypeId) (x y : Operand) (o : Oper) (st : St) (K : V → List (Nat × Ob) → Prop) : Prop :=
  dOk o.dst st.nt ∧ one1 (st.ev y) = true ∧ match tk P t with
  | some (b,n)=>match cellsV (st.ev y) with
    | some ys=>ys.length = n ∧ match st.ev x with
      | .ptr id off=>match go st.hp id with
        | some (.box l)=>off + n ≤ l.length ∧ K (.d (.v undef)) [(id,(.box (l.take off ++ ys ++ l.drop (off + n))))]
        | _=>False
      | .ep id sz i c=>match go st.hp id with
        | some (.row e sz' l)=>sz = sz' ∧ i < l.length ∧ c + n ≤ sz ∧ (ys.all pu1 = true) ∧ match toDs [] ys with
          | some ds=>match newD b sz c (nth l i) ds with
            | some d=>d.cells = (nth l i).cells.take c ++ ds ++ (nth l i).cells.drop (c + n) ∧ K (.d (.v undef)) [(id,(.row e sz' (l.set i d)))]
            | none=>False
          | none=>False
        | _=>False
      | _=>False
    | none=>False
  | none=>False
theorem toD1_pure {hp : List (Nat × Ob)} {x : V} {d : D} (h : toD1 [] x = some d) (hp1 : pu1 x = true) : toD1 hp x = some d:=by
  cases x with
  | d x =>
    cases x with
    | agg l=>simp [toD1] at h
    | _=>simpa [toD1] using h
  | nil=>simpa [toD1] using h
  | _=>simp [pu1] at hp1
theorem s_store {P : Program} {t : TypeId} {x y : Operand} {o : Oper} {st : St} {K : St → Prop} (ho : o.op = .store t x y) (h : e_store P t x y o st fun x ups=>K (st.upd o.dst x ups)) : Does P o st K:=by
  obtain ⟨hd,hone,h⟩:=h
  split at h
  · rename_i b n ht
    split at h
    · rename_i ys hys
      obtain ⟨hyn,h⟩:=h
      obtain ⟨dsc,inf,hdsc,hinf,_,hsz⟩:=tk_open ht
      split at h
      · rename_i id off hx
        split at h
        · rename_i l hg
          obtain ⟨hle,h⟩:=h
          refine does_skip fun w0 oa φ a w hs=>?_
          have e1:=hs.ev x;rw [hx] at e1
          obtain ⟨bb,hb,e1⟩:=vr_ptr e1
          obtain ⟨c1,c2,c3⟩:=cellsV_vr hys (hs.ev y) (one1_ok hone)
          obtain ⟨bb',ty,cs,hu,hbase,hh,hl,h1,hv⟩:=hs.hr.obj id _ hg
          obtain rfl : bb = bb':=by have:=hb.symm.trans hu;simpa using this
          have hv1 : ∀ u ∈ (a.eval y).cells.toList,u.oneCell' = true:=fun u hu=>by
            obtain ⟨j,hj,rfl⟩:=List.mem_iff_getElem.1 hu
            exact c2 j _ (by simp at hj ⊢)
          have hrun:=run_storeVar_at hinf w bb off ty cs (a.eval y) hh (by rw [c1,hyn,hsz]) (by omega) hv1
          have hvl : (a.eval y).cells.toList.length = n:=by rw [Array.length_toList,c1,hyn]
          rw [hsz] at hrun
          have key:=hs.hr.touch hg (by simp) (ob':=.box (l.take off ++ ys ++ l.drop (off + n))) (by simp) hu rfl (w':=w.setRow bb (cs.toList.take off ++ (a.eval y).cells.toList ++ cs.toList.drop (off + n)).toArray) (by simp) (below_setRow hs.hr.below bb (hs.hr.mine id _ _ bb hg (by simp) hu rfl) _) (fun k hk=>setRow_other w bb k _ hk) ?_
          · have hs':=hs.heap (fun _ _ hv=>hv) key
            refine ⟨_,_,?_,h,(hs'.put o.dst hd (.d _ _ (.v _))).sr⟩
            simp [execOp,ho,e1,Instr.storeAt,Instr.sureAddr,hrun]
          · intro ok hok
            refine ⟨bb,ty,_,hu,hbase,setRow_heap w bb cs _ ty _ hh,?_,?_,?_⟩
            · have e1:=mid_len cs.toList (a.eval y).cells.toList off (by rw [hvl];simpa using (by omega : off + n ≤ cs.size))
              have e2:=mid_len l ys off (by omega)
              rw [hvl] at e1
              rw [hyn] at e2
              simp only [List.size_toArray]
              rw [e1,e2];simpa using hl
            · intro j z hz
              have e1:=mid_get cs.toList (a.eval y).cells.toList off (by rw [hvl];simpa using (by omega : off + n ≤ cs.size)) j
              rw [hvl] at e1
              simp only [List.getElem?_toArray] at hz
              rw [e1] at hz
              split at hz
              · exact c2 _ z (by simpa using hz)
              · exact h1 j z (by simpa using hz)
            · intro j q z hq hz
              have e1:=mid_get cs.toList (a.eval y).cells.toList off (by rw [hvl];simpa using (by omega : off + n ≤ cs.size)) j
              have e2:=mid_get l ys off (by omega) j
              rw [hvl] at e1
              rw [hyn] at e2
              simp only [List.getElem?_toArray] at hz
              rw [e1] at hz
              rw [e2] at hq
              have mono : ∀ {q : V} {z : Value},VR φ w (okB w0 oa φ (go st.hp) w) q z → VR φ (w.setRow bb (cs.toList.take off ++ (a.eval y).cells.toList ++ cs.toList.drop (off + n)).toArray) ok q z:=fun hvr =>
                hvr.mono (fun _ _ hv=>hv) (fun k hk=>setRow_other w bb k _ (hok k hk).2) (fun k hk=>(hok k hk).1)
              split at hz
              · rename_i hc
                rw [if_pos hc] at hq
                exact mono (c3 _ q z hq (by simpa using hz))
              · rename_i hc
                rw [if_neg hc] at hq
                exact mono (hv j q z hq (by simpa using hz))
        · exact h.elim
      · rename_i id sz i c hx
        split at h
        · rename_i e sz' l hg
          obtain ⟨rfl,hi,hcn,hpu,h⟩:=h
          split at h
          · rename_i ds hds
            split at h
            · rename_i d hd'
              obtain ⟨hcells,h⟩:=h
              refine does_skip fun w0 oa φ a w hs=>?_
              have e1:=hs.ev x;rw [hx] at e1
              obtain ⟨bb,m,cap,hb,e1⟩:=vr_ep e1
              obtain ⟨c1,c2,c3⟩:=cellsV_vr hys (hs.ev y) (one1_ok hone)
              obtain ⟨u,cs,hu,hszp,how,hrw⟩:=hs.hr.obj id _ hg
              obtain rfl : u = _:=Option.some.inj (hu.symm.trans hb)
              obtain ⟨hdl,hdg⟩:=toDs_get hds
              rcases how.2 with ⟨h2,_⟩|⟨g,cap',cur,h2,hbase,hh,hnc,hcm,hcs,htake⟩
              · simp at h2
              simp only [Value.slice.injEq,Option.some.injEq,Addr.mk.injEq,and_true,true_and] at h2
              obtain ⟨rfl,rfl,rfl⟩:=h2
              have hv1 : ∀ u ∈ (a.eval y).cells.toList,u.oneCell' = true:=fun u hu=>by
                obtain ⟨j,hj,rfl⟩:=List.mem_iff_getElem.1 hu
                exact c2 j _ (by simp at hj ⊢)
              have hvl : (a.eval y).cells.toList.length = n:=by rw [Array.length_toList,c1,hyn]
              have hil : i * sz + c + n ≤ l.length * sz:=by
                calc i * sz + c + n ≤ i * sz + sz:=by omega
                  _ = (i + 1) * sz:=by rw [Nat.add_mul,Nat.one_mul]
                  _ ≤ l.length * sz:=Nat.mul_le_mul_right _ hi
              have hlc : l.length * sz ≤ cur.size:=by rw [hcs];exact Nat.mul_le_mul_right _ hnc
              have hrun:=run_storeVar_at hinf w bb (i * sz + c) e cur (a.eval y) hh (by rw [c1,hyn,hsz]) (by omega) hv1
              rw [hsz] at hrun
              have hcl : (nth l i).cells.length = sz:=hrw.2.2.1 _ (List.mem_of_getElem? (nth_get hi))
              have hdc : d.cells.length = sz:=by
                have:=mid_len (nth l i).cells ds c (by rw [hcl,hdl,hyn];exact hcn)
                rw [hdl,hyn] at this
                rw [hcells,this,hcl]
              have key:=hs.hr.touch hg (by simp) (ob':=.row e sz (l.set i d)) (by simp) hu rfl (w':=w.setRow bb (cur.toList.take (i * sz + c) ++ (a.eval y).cells.toList ++ cur.toList.drop (i * sz + c + n)).toArray) (by simp) (below_setRow hs.hr.below bb (hs.hr.mine id _ _ bb hg (by simp) hu rfl) _) (fun k hk=>setRow_other w bb k _ hk) ?_
              · have hs':=hs.heap (fun _ _ hv=>hv) key
                refine ⟨_,_,?_,h,(hs'.put o.dst hd (.d _ _ (.v _))).sr⟩
                simp [execOp,ho,e1,Instr.storeAt,Instr.sureAddr,hrun]
              · intro ok hok
                have hcur:=mid_len cur.toList (a.eval y).cells.toList (i * sz + c) (by rw [hvl];simp;omega)
                have hget:=mid_get cur.toList (a.eval y).cells.toList (i * sz + c) (by rw [hvl];simp;omega)
                rw [hvl] at hcur hget
                refine ⟨_,(cur.toList.take (i * sz + c) ++ (a.eval y).cells.toList ++ cur.toList.drop (i * sz + c + n)).take (l.length * sz),hu,hszp,?_,?_,?_,?_,?_⟩
                · rw [List.length_set]
                  refine ⟨by rw [List.length_take,hcur];simp;omega,.inr ⟨bb,cap,_,rfl,hbase,setRow_heap w bb cur _ e _ hh,hnc,hcm,?_,rfl⟩⟩
                  simp only [List.size_toArray]
                  rw [hcur];simpa using hcs
                · rw [List.length_take,hcur,List.length_set];simp;omega
                · intro z hz
                  obtain ⟨j,hj⟩:=List.mem_iff_getElem?.1 hz
                  rw [List.getElem?_take] at hj
                  split at hj
                  · rw [hget j] at hj
                    split at hj
                    · exact c2 _ z (by simpa using hj)
                    · rename_i hjl _
                      refine hrw.2.1 z (List.mem_of_getElem? (i:=j) ?_)
                      rw [← htake,List.getElem?_take,if_pos hjl]
                      exact hj
                  · cases hj
                · intro q hq
                  rcases List.mem_or_eq_of_mem_set hq with hq|rfl
                  · exact hrw.2.2.1 q hq
                  · exact hdc
                · intro k j q z v hq hz hv
                  have hmono : ∀ {q : D} {z : Value},Rd w (okB w0 oa φ (go st.hp) w) q z → Rd (w.setRow bb (cur.toList.take (i * sz + c) ++ (a.eval y).cells.toList ++ cur.toList.drop (i * sz + c + n)).toArray) ok q z:=fun hr =>
                    hr.mono (fun k hk=>setRow_other w bb k _ (hok k hk).2) (fun k hk=>(hok k hk).1)
                  have hk : k < l.length:=by
                    have:=(List.getElem?_eq_some_iff.1 hq).1
                    rwa [List.length_set] at this
                  rw [List.getElem?_take] at hv
                  split at hv
                  case isFalse=>cases hv
                  rename_i hjl
                  rw [hget] at hv
                  rw [List.getElem?_set] at hq
                  by_cases hik : i = k
                  · subst hik
                    rw [if_pos rfl,if_pos hi] at hq
                    cases hq
                    rw [hcells] at hz
                    have hget2:=mid_get (nth l i).cells ds c (by rw [hcl,hdl,hyn];exact hcn) j
                    rw [hdl,hyn] at hget2
                    rw [hget2] at hz
                    have hj : j < sz:=by
                      rcases Nat.lt_or_ge j sz with h5|h5
                      · exact h5
                      · split at hz
                        · omega
                        · have:=(List.getElem?_eq_some_iff.1 hz).1
                          omega
                    split at hv
                    · rename_i hc
                      rw [if_pos (by omega)] at hz
                      obtain ⟨d2,hd2,ht2⟩:=hdg (j - c) _ (List.getElem?_eq_getElem (by rw [← hdl];exact (List.getElem?_eq_some_iff.1 hz).1))
                      obtain rfl : z = d2:=Option.some.inj (hz.symm.trans hd2)
                      have hjc : j - c < ys.length:=by rw [← hdl];exact (List.getElem?_eq_some_iff.1 hz).1
                      have hpj:=List.all_eq_true.1 hpu ys[j - c] (List.getElem_mem hjc)
                      have hyv : (a.eval y).cells[j - c]? = some v:=by
                        rw [show i * sz + j - (i * sz + c) = j - c by omega] at hv
                        simpa using hv
                      exact hmono ((toD1_rd hs.hr (c3 (j - c) _ v (by simp) hyv) (toD1_pure ht2 hpj)).2 hpj)
                    · rename_i hc
                      rw [if_neg (by omega)] at hz
                      refine hmono (hrw.2.2.2 i j _ z v (nth_get hi) hz ?_)
                      rw [← htake,List.getElem?_take,if_pos hjl]
                      exact hv
                  · rw [if_neg hik] at hq
                    have hj : j < sz:=by rw [← hrw.2.2.1 q (List.mem_of_getElem? hq)];exact (List.getElem?_eq_some_iff.1 hz).1
                    have hne : ¬ (i * sz + c ≤ k * sz + j ∧ k * sz + j < i * sz + c + n):=by
                      intro hc
                      rcases Nat.lt_or_ge i k with h6|h6
                      · have : (i + 1) * sz ≤ k * sz:=Nat.mul_le_mul_right _ h6
                        rw [Nat.add_mul,Nat.one_mul] at this
                        omega
                      · have : (k + 1) * sz ≤ i * sz:=Nat.mul_le_mul_right _ (by omega)
                        rw [Nat.add_mul,Nat.one_mul] at this
                        omega
                    rw [if_neg hne] at hv
                    refine hmono (hrw.2.2.2 k j q z v hq hz ?_)
                    rw [← htake,List.getElem?_take,if_pos hjl]
                    exact hv
            · exact h.elim
          · exact h.elim
        · exact h.elim
      · exact h.elim
    · exact h.elim
  · exact h.elim
end Go.Proofs.Ytleahjfgedfgmaa.Am
end
section
set_option linter.unusedVariables false
set_option linter.unusedSimpArgs false
namespace Go.Proofs.Ytleahjfgedfgmaa.Am
open Go Go.RowKit
theorem toD1_pu {x : V} {d : D} (h : toD1 [] x = some d) : pu1 x = true:=by
  cases x <;> simp [toD1,go] at h <;> rfl
theorem toD1_pure0 {hp : List (Nat × Ob)} {x : V} {d : D} (h : toD1 [] x = some d) (hp1 : pu1 x = true) : toD1 hp x = some d:=by
  cases x <;> simp [pu1] at hp1 <;> exact h
theorem toD1_one {x : V} {d : D} (h : toD1 [] x = some d) : d.cells = [d]:=by
  cases x with
  | d y=>cases y <;> simp [toD1] at h <;> subst h <;> rfl
  | nil=>simp [toD1] at h;subst h;rfl
  | _=>simp [toD1,go] at h
theorem src_open0 {w0 w : World} {oa : OA} {φ : Nat → Option Value} {hp : List (Nat × Ob)} (hr : HR w0 oa φ (go hp) w) {x : V} {y : Value} (hv : VR φ w (okB w0 oa φ (go hp) w) x y) {l : List D} (h : elems hp x = some l) (hx : ∀ a b c d e,x ≠ .slc a b c d e) (hx2 : ∀ a b c,x ≠ .bs a b c) {sz : Nat} (hsz : 0 < sz) (hc : ∀ d ∈ l,d.cells.length = sz) :
    ∃ A c,y = .slice A l.length c ∧ ((l = [] ∧ A = none) ∨ ∃ (ad : Addr) (news : List Value),A = some ad ∧ (∀ j u,news[j]? = some u → w.cell? (ad.add j) = some u) ∧ Rw w (okB w0 oa φ (go hp) w) sz l news):=by
  have main : ∀ (ok' : Nat → Prop),Rd w ok' (.list l) y → (∀ (b o c : Nat) (vals : Nat → Value),y = .slice (some ⟨b,o,none⟩) l.length c → (∀ (i j : Nat) (d x : D),l[i]? = some d → d.cells[j]? = some x → Rd w ok' x (vals (i * sz + j))) → ∀ (i j : Nat) (d x : D),l[i]? = some d → d.cells[j]? = some x → Rd w (okB w0 oa φ (go hp) w) x (vals (i * sz + j))) →
      ∃ A c,y = .slice A l.length c ∧ ((l = [] ∧ A = none) ∨ ∃ (ad : Addr) (news : List Value),A = some ad ∧ (∀ j u,news[j]? = some u → w.cell? (ad.add j) = some u) ∧ Rw w (okB w0 oa φ (go hp) w) sz l news):=by
    intro ok' hrd hback
    cases hrd with
    | nil A c =>
      refine ⟨A,c,rfl,?_⟩
      cases A with
      | none=>exact .inl ⟨rfl,rfl⟩
      | some ad=>exact .inr ⟨ad,[],rfl,by simp,Rw.nil⟩
    | list _ sz' b o c vals hlc hok hs hd hvv h1 hh =>
      by_cases hl : l = []
      · subst hl
        exact ⟨_,c,rfl,.inr ⟨_,[],rfl,by simp,Rw.nil⟩⟩
      · obtain ⟨d0,hd0⟩:=List.exists_mem_of_ne_nil l hl
        obtain rfl : sz' = sz:=by rw [← hd d0 hd0,hc d0 hd0]
        refine ⟨_,c,rfl,.inr ⟨_,(List.range (l.length * sz')).map vals,rfl,fun j u hu=>?_,by simp,fun u hu=>?_,hc,fun i j d x u hd' hx hu=>?_⟩⟩
        · rw [List.getElem?_map] at hu
          obtain ⟨k,hk,rfl⟩:=Option.map_eq_some_iff.1 hu
          have hj : j < l.length * sz':=by simpa using (List.getElem?_eq_some_iff.1 hk).1
          rw [List.getElem?_range hj] at hk
          cases hk
          rw [Addr.add_lit]
          exact hvv j hj
        · simp only [List.mem_map,List.mem_range] at hu
          obtain ⟨k,hk,rfl⟩:=hu
          exact h1 k hk
        · have hj : j < sz':=by rw [← hc d (List.mem_of_getElem? hd')];exact (List.getElem?_eq_some_iff.1 hx).1
          have hi : i < l.length:=(List.getElem?_eq_some_iff.1 hd').1
          have hlt : i * sz' + j < l.length * sz':=by
            calc i * sz' + j < i * sz' + sz':=by omega
              _ = (i + 1) * sz':=by rw [Nat.add_mul,Nat.one_mul]
              _ ≤ l.length * sz':=Nat.mul_le_mul_right _ hi
          simp [hlt] at hu
          subst hu
          exact hback b o c vals rfl hh i j d x hd' hx
  cases x with
  | d x =>
    cases x with
    | list l' =>
      simp only [elems,Option.some.injEq] at h
      subst h
      cases hv with
      | d _ _ hv=>exact main _ hv (fun _ _ _ _ _ h=>h)
    | _=>simp [elems] at h
  | nil =>
    simp only [elems,Option.some.injEq] at h
    subst h
    cases hv
    exact ⟨none,0,rfl,.inl ⟨rfl,rfl⟩⟩
  | sl id sz' off len full =>
    simp only [elems] at h
    split at h
    · rename_i e sz2 l2 hg
      split at h
      · rename_i hcond
        obtain ⟨rfl,hle⟩:=hcond
        simp only [Option.some.injEq] at h
        subst h
        obtain ⟨u,cs,hu,hszp,ho,hrw⟩:=hr.obj id _ hg
        cases hv with
        | sl _ _ _ _ _ u' A c hid hlc hf ha =>
          obtain rfl : u = u':=Option.some.inj (hu.symm.trans hid)
          have hlen : ((l2.drop off).take len).length = len:=by rw [List.length_take,List.length_drop];omega
          refine ⟨A,c,by rw [hlen],?_⟩
          by_cases h0 : len = 0
          · subst h0
            rw [List.take_zero]
            cases A with
            | none=>exact .inl ⟨rfl,rfl⟩
            | some ad=>exact .inr ⟨ad,[],rfl,by simp,Rw.nil⟩
          · rcases ha with ha|⟨b,n,cap,rfl,rfl⟩
            · exact absurd ha h0
            · have hcell:=ho.cells (g:=b) rfl
              have hne : (l2.drop off).take len ≠ []:=fun he=>by rw [he] at hlen;simp at hlen;omega
              obtain ⟨d0,hd0⟩:=List.exists_mem_of_ne_nil _ hne
              have hszz : sz' = sz:=by rw [← hrw.2.2.1 d0 (List.mem_of_mem_drop (List.mem_of_mem_take hd0)),hc d0 hd0]
              subst hszz
              refine .inr ⟨_,(cs.drop (off * sz')).take (len * sz'),rfl,fun j u hu=>?_,?_,fun u hu=>hrw.2.1 u (List.mem_of_mem_drop (List.mem_of_mem_take hu)),hc,fun i j d x u hd' hx hu=>?_⟩
              · rw [List.getElem?_take] at hu
                split at hu
                · rw [List.getElem?_drop] at hu
                  have:=hcell _ u hu
                  rw [Addr.add_lit,Nat.zero_add] at this
                  rw [Addr.add_lit]
                  exact this
                · cases hu
              · rw [hlen,List.length_take,List.length_drop,hrw.1]
                have : (off + len) * sz' ≤ l2.length * sz':=Nat.mul_le_mul_right _ hle
                rw [Nat.add_mul] at this
                omega
              · rw [List.getElem?_take] at hd' hu
                split at hd'
                · split at hu
                  · rw [List.getElem?_drop] at hd' hu
                    refine hrw.2.2.2 (off + i) j d x u hd' hx ?_
                    rw [Nat.add_mul,Nat.add_assoc]
                    exact hu
                  · cases hu
                · cases hd'
      · cases h
    · cases h
  | slc a b c d e=>exact absurd rfl (hx a b c d e)
  | bs a b c=>exact absurd rfl (hx2 a b c)
  | _=>simp [elems] at h
theorem src_open {w0 w : World} {oa : OA} {φ : Nat → Option Value} {hp : List (Nat × Ob)} (hr : HR w0 oa φ (go hp) w) {x : V} {y : Value} (hv : VR φ w (okB w0 oa φ (go hp) w) x y) {l : List D} (h : elems hp x = some l) {sz : Nat} (hsz : 0 < sz) (hc : ∀ d ∈ l,d.cells.length = sz) :
    ∃ A c,y = .slice A l.length c ∧ ((l = [] ∧ A = none) ∨ ∃ (ad : Addr) (news : List Value),A = some ad ∧ (∀ j u,news[j]? = some u → w.cell? (ad.add j) = some u) ∧ Rw w (okB w0 oa φ (go hp) w) sz l news):=by
  by_cases hx : ∃ a b c d e,x = .slc a b c d e
  · obtain ⟨id,s,off,len,cap,rfl⟩:=hx
    exact src_open0 hr (vr_slOf (x:=.slc id s off len cap) rfl hv) h (by simp) (by simp) hsz hc
  by_cases hx2 : ∃ a b c,x = .bs a b c
  · obtain ⟨id,off,len,rfl⟩:=hx2
    simp only [elems] at h
    split at h
    case h_2=>cases h
    rename_i bl hg
    split at h
    case isFalse=>cases h
    rename_i hle
    obtain ⟨hdl,hdg⟩:=toDs_get h
    have hlen : ((bl.drop off).take len).length = len:=by rw [List.length_take,List.length_drop];omega
    rw [hlen] at hdl
    obtain ⟨bb,f,hbb,hw⟩:=box_win hr hg
    cases hv with
    | bs _ _ _ b hid =>
      have : b = bb:=by
        have:=hid.symm.trans hbb
        simpa using this
      subst this
      refine ⟨_,len,by rw [hdl],.inr ⟨_,(List.range len).map fun j=>f (off + j),rfl,fun j u hu=>?_,?_,fun u hu=>?_,hc,fun i j d q u hd hq hu=>?_⟩⟩
      · rw [List.getElem?_map] at hu
        obtain ⟨k,hk,rfl⟩:=Option.map_eq_some_iff.1 hu
        have hj : j < len:=by simpa using (List.getElem?_eq_some_iff.1 hk).1
        rw [List.getElem?_range hj] at hk
        cases hk
        have:=hw.cell (off + j) (by omega)
        rw [Nat.zero_add] at this
        rw [Addr.add_lit]
        exact this
      · simp only [List.length_map,List.length_range]
        by_cases h0 : l = []
        · subst h0;rw [List.length_nil] at hdl;rw [← hdl];simp
        · obtain ⟨d0,hd0⟩:=List.exists_mem_of_ne_nil l h0
          obtain ⟨j,hj⟩:=List.getElem?_of_mem hd0
          have hjl : j < ((bl.drop off).take len).length:=by rw [hlen,← hdl];exact (List.getElem?_eq_some_iff.1 hj).1
          obtain ⟨d1,hd1,ht⟩:=hdg j _ (List.getElem?_eq_getElem hjl)
          obtain rfl : d0 = d1:=Option.some.inj (hj.symm.trans hd1)
          have hs1:=hc d0 hd0
          have hone : d0.cells = [d0]:=toD1_one ht
          rw [hone] at hs1
          rw [hdl,← hs1];simp
      · simp only [List.mem_map,List.mem_range] at hu
        obtain ⟨k,hk,rfl⟩:=hu
        exact hw.one _ (by omega)
      · have hi : i < len:=by rw [← hdl];exact (List.getElem?_eq_some_iff.1 hd).1
        have hjl : i < ((bl.drop off).take len).length:=by rw [hlen];exact hi
        obtain ⟨d1,hd1,ht⟩:=hdg i _ (List.getElem?_eq_getElem hjl)
        obtain rfl : d = d1:=Option.some.inj (hd.symm.trans hd1)
        have hone : d.cells = [d]:=toD1_one ht
        have hs1:=hc d (List.mem_of_getElem? hd)
        rw [hone] at hs1 hq
        simp at hs1
        subst hs1
        have hj0 : j = 0:=by
          have:=(List.getElem?_eq_some_iff.1 hq).1
          simpa using this
        subst hj0
        simp at hq
        subst hq
        simp [hi] at hu
        subst hu
        have hgx : bl[off + i]? = some (((bl.drop off).take len)[i]):=by
          have:=List.getElem?_eq_getElem hjl
          rw [List.getElem?_take,if_pos hi,List.getElem?_drop] at this
          exact this
        have hvr:=hw.vr (off + i) _ hgx
        have hpu:=toD1_pu ht
        exact (toD1_rd hr hvr (toD1_pure0 ht hpu)).2 hpu
  · exact src_open0 hr hv h (fun a b c d e he=>hx ⟨a,b,c,d,e,he⟩) (fun a b c he=>hx2 ⟨a,b,c,he⟩) hsz hc
theorem Rw.app {w : World} {ok : Nat → Prop} {sz : Nat} {l m : List D} {cs ds : List Value} (h : Rw w ok sz l cs) (k : Rw w ok sz m ds) : Rw w ok sz (l ++ m) (cs ++ ds):=by
  refine ⟨by rw [List.length_append,h.1,k.1,List.length_append,Nat.add_mul],fun u hu=>(List.mem_append.1 hu).elim (h.2.1 u) (k.2.1 u),fun d hd=>(List.mem_append.1 hd).elim (h.2.2.1 d) (k.2.2.1 d),fun i j d x u hd hx hu=>?_⟩
  by_cases hi : i < l.length
  · rw [List.getElem?_append_left hi] at hd
    have hj : j < sz:=by rw [← h.2.2.1 d (List.mem_of_getElem? hd)];exact (List.getElem?_eq_some_iff.1 hx).1
    have hlt : i * sz + j < cs.length:=by
      rw [h.1]
      calc i * sz + j < i * sz + sz:=by omega
        _ = (i + 1) * sz:=by rw [Nat.add_mul,Nat.one_mul]
        _ ≤ l.length * sz:=Nat.mul_le_mul_right _ hi
    rw [List.getElem?_append_left hlt] at hu
    exact h.2.2.2 i j d x u hd hx hu
  · rw [List.getElem?_append_right (by omega)] at hd
    have hle : cs.length ≤ i * sz + j:=by
      rw [h.1]
      exact Nat.le_trans (Nat.mul_le_mul_right _ (by omega : l.length ≤ i)) (Nat.le_add_right _ _)
    rw [List.getElem?_append_right hle] at hu
    have e : i * sz + j - cs.length = (i - l.length) * sz + j:=by
      rw [h.1,Nat.sub_mul]
      have : l.length * sz ≤ i * sz:=Nat.mul_le_mul_right _ (by omega)
      omega
    rw [e] at hu
    exact k.2.2.2 _ j d x u hd hx hu
theorem HR.grow {w0 w w' : World} {oa : OA} {φ : Nat → Option Value} {hp : List (Nat × Ob)} (h : HR w0 oa φ (go hp) w) {id n e sz e' sz' : Nat} {l l' : List D} (hg : go hp id = some (.row e sz l)) (hn : go hp n = none) {u u' : Value} {cs' : List Value} (hu : φ id = some u) (hszp : 0 < sz')
    (hgr : w.grownBy w' (blk u)) (hbelow : Bel w0 oa w') (hown : w'.ownsRow 0 e' sz' u' l'.length cs') (hat : blk u' = blk u ∨ ∃ b,blk u' = some b ∧ w.heap.size ≤ b)
    (hrw : ∀ ok : Nat → Prop,(∀ b,okB w0 oa φ (go hp) w b → ok b ∧ w'.heap[b]? = w.heap[b]?) → Rw w' ok sz' l' cs') :
    HR w0 oa (upd φ n u') (go (so (so hp id .dead) n (.row e' sz' l'))) w' ∧ (∀ b,okB w0 oa φ (go hp) w b → okB w0 oa (upd φ n u') (go (so (so hp id .dead) n (.row e' sz' l'))) w' b ∧ w'.heap[b]? = w.heap[b]?):=by
  have hne0 : id ≠ n:=fun e=>by rw [e,hn] at hg;cases hg
  have hφn : φ n = none:=h.fresh n hn
  have hφ : ∀ i v,φ i = some v → upd φ n u' i = some v:=by
    intro i v hv
    unfold upd
    split
    · rename_i e;subst e;rw [hφn] at hv;cases hv
    · exact hv
  have hkeep : ∀ b,b < w.heap.size → blk u ≠ some b → w'.heap[b]? = w.heap[b]?:=fun b hb hne=>hgr.block b hb (Ne.symm hne)
  have hok2 : ∀ b,okB w0 oa φ (go hp) w b → okB w0 oa (upd φ n u') (go (so (so hp id .dead) n (.row e' sz' l'))) w' b ∧ w'.heap[b]? = w.heap[b]?:=by
    intro b hb
    have hlt:=okB_lt h.below.size hb
    have hbu : blk u ≠ some b:=hb.2 id _ u hg (by simp) hu
    refine ⟨⟨?_,?_⟩,hkeep b hlt hbu⟩
    · rcases hb.1 with h1|h1
      · exact .inl h1
      · exact .inr ⟨h1.1,by have:=hgr.size;omega⟩
    · intro i o' v ho' hne hv he
      rw [go_so,go_so] at ho'
      split at ho'
      · rename_i e
        subst e
        simp only [upd,if_true,Option.some.injEq] at hv
        subst hv
        rcases hat with h3|⟨b',h3,h4⟩
        · rw [h3] at he;exact hbu he
        · rw [h3] at he;cases he;omega
      · rename_i e
        split at ho'
        · cases ho';exact hne rfl
        · simp only [upd,if_neg e] at hv
          exact hb.2 i o' v ho' hne hv he
  refine HR.step (hp':=go (so (so hp id .dead) n (.row e' sz' l'))) (φ':=upd φ n u') (w':=w') h (fun i=>i = id) hgr.size hbelow (fun b hb hbb=>hkeep b hb (hbb id _ u rfl hg (by simp) hu)) hφ ?_ ?_ h.has ?_ ?_ ?_
  · intro i hi
    rw [go_so,go_so] at hi
    split at hi
    · cases hi
    · rename_i e
      split at hi
      · cases hi
      · simp only [upd,if_neg e];exact h.fresh i hi
  · intro i o' ho' hne
    rw [go_so,go_so] at ho'
    split at ho'
    · rename_i e
      subst e
      refine .inr ⟨fun v b hv hb=>?_,fun hc=>by rw [hn] at hc;cases hc.1⟩
      simp only [upd,if_true,Option.some.injEq] at hv
      subst hv
      rcases hat with h3|⟨b',h3,h4⟩
      · exact .inr ⟨id,_,u,rfl,hg,by simp,hu,by rw [← h3];exact hb⟩
      · rw [h3] at hb;cases hb;exact .inl h4
    · rename_i e
      split at ho'
      · cases ho';exact absurd rfl hne
      · rename_i e2;exact .inl ⟨ho',e2⟩
  · intro i o' ho' hc
    rw [go_so,go_so] at ho'
    split at ho'
    · rename_i e
      subst e
      cases ho'
      exact ⟨u',cs',by simp [upd],hszp,hown,hrw _ hok2⟩
    · rename_i e
      split at ho'
      · cases ho';trivial
      · rename_i e2;exact absurd ⟨ho',e2⟩ hc
  · intro i _ hne
    have hin : i ≠ n:=fun e=>hne (e ▸ hn)
    rw [go_so,go_so,if_neg hin]
    by_cases e : i = id
    · rw [if_pos e]
      exact ⟨by simp,fun o' ho' hd _=>by cases ho';exact hd rfl⟩
    · rw [if_neg e]
      exact ⟨hne,fun o' ho' hd e2=>by rw [ho'] at e2;cases e2;exact hd rfl⟩
  · intro i i' o1 o2 v v' ho1 ho2 hn1 hn2 hc hne hv hv'
    rw [go_so,go_so] at ho1 ho2
    split at ho1
    · rename_i e
      subst e
      rw [if_neg (Ne.symm hne)] at ho2
      split at ho2
      · cases ho2;exact absurd rfl hn2
      · rename_i e2
        simp only [upd,if_true,Option.some.injEq] at hv
        simp only [upd,if_neg (Ne.symm hne)] at hv'
        subst hv
        rcases hat with h3|⟨b',h3,h4⟩
        · rw [h3]
          exact h.inj id i' _ o2 u v' hg ho2 (by simp) hn2 (Ne.symm e2) hu hv'
        · refine .inr fun he=>?_
          have:=(h.blk_lt ho2 hn2 hv' (he ▸ h3)).2
          omega
    · rename_i e
      split at ho1
      · cases ho1;exact absurd rfl hn1
      · rename_i e2;exact absurd ⟨ho1,e2⟩ hc
theorem blk_ownBlock {w : World} {base e sz n : Nat} {v : Value} {cs : List Value} (h : w.ownsRow base e sz v n cs) : blk v = v.ownBlock:=by
  rcases h.2 with ⟨rfl,_⟩|⟨g,cap,cur,rfl,_⟩ <;> rfl
theorem run_append_zero {P : Program} {w : World} {base t ty e n : Nat} {i : TypeInfo} (ht : P.underlying t = some (.slice e)) (hi : P.info? e = some i) {v : Value} {xs : List Value} (hown : w.ownsRow base e i.size v n xs) (A : Option Addr) (c : Nat) :
    (Builtin.append_ #[t,t] ty #[v,.slice A 0 c]).run P w = .ok v w:=by
  have hf : (Builtin.firstCells i.size 0 (.slice A 0 c)).run P w = .ok #[] w:=by cases A <;> simp [Builtin.firstCells,loadCells,loadCellsFrom]
  rcases hown.2 with ⟨rfl,rfl⟩|⟨g,cap,cur,rfl,_,_,hnc,_⟩
  · simp [Builtin.append_,run_underlying ht,sizeOf,typeInfo,hi,Builtin.lenOf,hf]
  · simp [Builtin.append_,run_underlying ht,sizeOf,typeInfo,hi,Builtin.lenOf,hf,hnc,storeCells]
theorem app_run {P : Program} {w : World} {base t ty e : Nat} {i : TypeInfo} {z : Value} (ht : P.underlying t = some (.slice e)) (hi : P.info? e = some i) (hz : i.zero = some z) (hzs : z.cells.size = i.size) (hsz : 0 < i.size) {v : Value} {n : Nat} {xs : List Value} (hown : w.ownsRow base e i.size v n xs) (hbase : base ≤ w.heap.size)
    {y : Value} {l : List D} {ok : Nat → Prop} {A : Option Addr} {c : Nat} (hy : y = .slice A l.length c) (hsrc : (l = [] ∧ A = none) ∨ ∃ (ad : Addr) (news : List Value),A = some ad ∧ (∀ j u,news[j]? = some u → w.cell? (ad.add j) = some u) ∧ Rw w ok i.size l news)
    (h63 : n + l.length ≤ maxLen) (hbytes : (n + l.length) * i.bytes ≤ 140737488355328) :
    ∃ v' w' news,(Builtin.append_ #[t,t] ty #[v,y]).run P w = .ok v' w' ∧ w'.ownsRow base e i.size v' (n + l.length) (xs ++ news) ∧ w.grownBy w' v.ownBlock ∧ (v'.ownBlock = v.ownBlock ∨ ∃ b,v'.ownBlock = some b ∧ w.heap.size ≤ b) ∧ Rw w ok i.size l news:=by
  subst hy
  by_cases hl : l = []
  · subst hl
    refine ⟨v,w,[],run_append_zero ht hi hown A c,by simpa using hown,⟨rfl,rfl,rfl,Nat.le_refl _,fun _ _ _=>rfl⟩,.inl rfl,Rw.nil⟩
  · rcases hsrc with ⟨h0,_⟩|⟨ad,news,rfl,hn,hrw⟩
    · exact absurd h0 hl
    · have hlen : 0 < l.length:=List.length_pos_iff.2 hl
      obtain ⟨g,cap,w',hr,ho,hg,hat,_⟩:=run_append_lies (P:=P) (w:=w) t ty base e i z i.size i.bytes ht hi hz rfl rfl hzs hsz v n xs hown ad l.length c news hrw.1 hn hrw.2.1 hlen h63 hbytes hbase w.heap.size rfl
      refine ⟨_,w',news,hr,ho,hg,?_,hrw⟩
      rcases hat with h1|h1
      · exact .inl (by rw [h1];rfl)
      · exact .inr ⟨g,rfl,by omega⟩
def e_app (P : Program) (t : TypeId) (s x : Operand) (o : Oper) (st : St) (K : V → List (Nat × Ob) → Prop) : Prop :=
  dOk o.dst st.nt ∧ match o.dst with
  | some n=>go st.hp n = none ∧ match el P t with
    | some (e,sz,by')=>match zc P e with
      | some z=>match elems st.hp (st.ev x) with
        | some xs=>0 < sz ∧ z.length = sz ∧ (∀ d ∈ xs,d.cells.length = sz) ∧ match st.ev s with
          | .nil=>xs.length ≤ 9223372036854775807 ∧ xs.length * by' ≤ 140737488355328 ∧ K (.sl n sz 0 xs.length true) [(n,(.row e sz xs))]
          | .sl id sz1 off len full=>match go st.hp id with
            | some (.row e1 sz2 l)=>full = true ∧ off = 0 ∧ len = l.length ∧ e1 = e ∧ sz1 = sz ∧ sz2 = sz ∧ (l.length + xs.length) ≤ 9223372036854775807 ∧ (l.length + xs.length) * by' ≤ 140737488355328 ∧
                K (.sl n sz 0 (l.length + xs.length) true) [(n,.row e sz (l ++ xs)),(id,.dead)]
            | _=>False
          | _=>False
        | none=>False
      | none=>False
    | none=>False
  | none=>False
theorem s_app {P : Program} {t : TypeId} {s x : Operand} {o : Oper} {st : St} {K : St → Prop} (ho : o.op = .call { callee:=.builtin .append,args:=#[s,x],argTypes:=#[t,t] }) (h : e_app P t s x o st fun x ups=>K (st.upd o.dst x ups)) : Does P o st K:=by
  obtain ⟨hd,h⟩:=h
  split at h
  case h_2=>exact h.elim
  rename_i n hdst
  obtain ⟨hn,h⟩:=h
  split at h
  case h_2=>exact h.elim
  rename_i e sz by' he
  split at h
  case h_2=>exact h.elim
  rename_i z hz
  split at h
  case h_2=>exact h.elim
  rename_i xs hxs
  obtain ⟨hsz,hzl,hcell,h⟩:=h
  obtain ⟨inf,hu,hinf,rfl,rfl⟩:=el_open he
  obtain ⟨inf',zv,hinf',hzv,rfl⟩:=zc_open hz
  obtain rfl : inf = inf':=Option.some.inj (hinf.symm.trans hinf')
  have hzs : zv.cells.size = inf.size:=by simpa using hzl
  split at h
  · rename_i hs0
    obtain ⟨h63,hby,h⟩:=h
    refine does_run fun w0 oa φ a w hs=>?_
    have e1:=hs.ev s;rw [hs0] at e1
    obtain ⟨A,c,hy,hsrc⟩:=src_open hs.hr (hs.ev x) hxs hsz hcell
    have hv0 : a.eval s = .slice none 0 0:=by
      generalize a.eval s = X at e1
      cases e1;rfl
    obtain ⟨v',w',news,hr,ho1,hgr,hat,hrw⟩:=app_run (ty:=o.type) (ok:=okB w0 oa φ (go st.hp) w) hu hinf hzv hzs hsz (World.ownsRow_nil w w.heap.size e inf.size) (Nat.le_refl _) hy hsrc (by simpa [maxLen] using h63) (by simpa using hby)
    simp only [Nat.zero_add,List.nil_append] at ho1
    have hbw : Below w.heap.size w w':=(Below.refl _ _).grown hgr (Nat.le_refl _) (fun k hk=>by simp [Value.ownBlock] at hk)
    obtain ⟨φ',hs',hv⟩:=hs.newrow n hn e inf.size xs v' news hsz hbw ho1 (hrw.mono (fun b hb=>hbw.block b (okB_lt hs.hr.below.size hb)) (fun _ hb=>hb))
    refine ⟨v',w',_,?_,h,(hs'.put o.dst hd hv).sr⟩
    simp [execOp,ho,resolve,invoke,builtin,hv0,hr]
  · rename_i id sz1 off len full hs0
    split at h
    · rename_i e1' sz2 l hg
      obtain ⟨rfl,rfl,rfl,rfl,rfl,rfl,h63,hby,h⟩:=h
      refine does_run fun w0 oa φ a w hs=>?_
      have e1:=hs.ev s;rw [hs0] at e1
      obtain ⟨u,cs,hid,hszp,how,hrw0⟩:=hs.hr.obj id _ hg
      have hv0 : a.eval s = u:=by
        generalize a.eval s = X at e1
        cases e1 with
        | sl _ _ _ _ _ u' A c hid' hc hf ha =>
          obtain rfl : u = u':=Option.some.inj (hid.symm.trans hid')
          exact (hf rfl).1.symm
      obtain ⟨A,c,hy,hsrc⟩:=src_open hs.hr (hs.ev x) hxs hsz hcell
      obtain ⟨v',w',news,hr,ho1,hgr,hat,hrw⟩:=app_run (ty:=o.type) (ok:=okB w0 oa φ (go st.hp) w) hu hinf hzv hzs hsz how (Nat.zero_le _) hy hsrc (by simpa [maxLen] using h63) hby
      have hbu : blk u = u.ownBlock:=blk_ownBlock how
      have hbv : blk v' = v'.ownBlock:=blk_ownBlock ho1
      rw [← hbu] at hgr hat
      rw [← hbv] at hat
      have hbelow : Bel w0 oa w':=hs.hr.below.grown hgr (fun k hk=>hs.hr.mine id _ u k hg (by simp) hid hk)
      have key:=hs.hr.grow hg hn hid hszp hgr hbelow (l':=l ++ xs) (by rw [List.length_append];exact ho1) hat (fun ok hok=>(hrw0.mono (fun b hb=>(hok b hb).2) (fun b hb=>(hok b hb).1)).app (hrw.mono (fun b hb=>(hok b hb).2) (fun b hb=>(hok b hb).1)))
      have hφn : φ n = none:=hs.hr.fresh n hn
      have hs':=hs.heap (φ':=upd φ n v') (fun i v hv=>by
        unfold upd
        split
        · rename_i e;subst e;rw [hφn] at hv;cases hv
        · exact hv) key
      refine ⟨v',w',_,?_,h,(hs'.put o.dst hd ?_).sr⟩
      · simp [execOp,ho,resolve,invoke,builtin,hv0,hr]
      · rcases ho1.2 with ⟨rfl,h0⟩|⟨g,cap,cur,rfl,_,_,hnc,_⟩
        · rw [h0]
          exact .sl _ _ _ _ _ (.slice none 0 0) none 0 (by simp [upd]) (Nat.le_refl _) (fun _=>⟨rfl,rfl⟩) (.inl rfl)
        · exact .sl _ _ _ _ _ (.slice (some ⟨g,0,none⟩) (l.length + xs.length) cap) _ cap (by simp [upd]) hnc (fun _=>⟨rfl,rfl⟩) (.inr ⟨g,_,cap,rfl,by simp⟩)
    · exact h.elim
  · exact h.elim
end Go.Proofs.Ytleahjfgedfgmaa.Am
end
section
set_option linter.unusedVariables false
set_option linter.unusedSimpArgs false
namespace Go.Proofs.Ytleahjfgedfgmaa.Am
open Go Go.RowKit
def byL : List D → Option (List Int)
  | []=>some []
  | d :: r=>match d with
    | .v (.int .u8 n)=>(byL r).map (n :: ·)
    | _=>none
def bsV (ns : List Int) : Value:=.string (ns.foldl (fun r n=>r.push (UInt8.ofNat n.toNat)) ByteArray.empty)
theorem byL_get : ∀ {l : List D} {ns : List Int},byL l = some ns → l = ns.map fun n=>D.v (.int .u8 n)
  | [],ns,h=>by simp only [byL,Option.some.injEq] at h;subst h;rfl
  | d :: r,ns,h=>by
    simp only [byL] at h
    split at h
    · obtain ⟨m,hm,rfl⟩:=Option.map_eq_some_iff.1 h
      rw [byL_get hm];rfl
    · cases h
def strT (P : Program) (t : TypeId) : Bool:=match P.underlying t with|some .string=>true|_=>false
theorem strT_open {P : Program} {t : TypeId} (h : strT P t = true) : P.underlying t = some .string:=by
  unfold strT at h
  split at h
  · rename_i he;exact he
  · cases h
def e_str (P : Program) (src dst : TypeId) (x : Operand) (o : Oper) (st : St) (K : V → List (Nat × Ob) → Prop) : Prop :=
  dOk o.dst st.nt ∧ strT P dst = true ∧ match el P src with
  | some (e,sz,_)=>ik P e = some .u8 ∧ sz = 1 ∧ match elems st.hp (st.ev x) with
    | some l=>match byL l with
      | some ns=>K (.d (.v (bsV ns))) []
      | none=>False
    | none=>False
  | none=>False
theorem bytes_news {w : World} {ok : Nat → Prop} {ns : List Int} {news : List Value} (h : Rw w ok 1 (ns.map fun n=>D.v (.int .u8 n)) news) : news = ns.map (Value.int .u8):=by
  apply List.ext_getElem?
  intro j
  have hl : news.length = ns.length:=by have:=h.1;simpa using this
  by_cases hj : j < ns.length
  · obtain ⟨u,hu⟩ : ∃ u,news[j]? = some u:=⟨news[j]'(by omega),by simp⟩
    have:=h.2.2.2 j 0 (D.v (.int .u8 ns[j])) (D.v (.int .u8 ns[j])) u (by simp [hj]) rfl (by simpa using hu)
    rw [hu]
    cases this
    simp [hj]
  · simp [List.getElem?_eq_none (show news.length ≤ j by omega),List.getElem?_eq_none (show ns.length ≤ j by omega)]
theorem s_str {P : Program} {src dst : TypeId} {x : Operand} {o : Oper} {st : St} {K : St → Prop} (ho : o.op = .convert src dst x) (h : e_str P src dst x o st fun x ups=>K (st.upd o.dst x ups)) : Does P o st K:=by
  obtain ⟨hd,hdst,h⟩:=h
  split at h
  case h_2=>exact h.elim
  rename_i e sz by' he
  obtain ⟨hk,rfl,h⟩:=h
  split at h
  case h_2=>exact h.elim
  rename_i l hl
  split at h
  case h_2=>exact h.elim
  rename_i ns hns
  obtain ⟨inf,hu,_,_,_⟩:=el_open he
  have hk:=ik_open hk
  have hdst:=strT_open hdst
  obtain rfl:=byL_get hns
  refine does_val _ hd (fun w0 oa φ a w hs=>⟨_,?_,.d _ _ (.v _)⟩) h
  obtain ⟨A,c,e1,hA⟩:=src_open hs.hr (hs.ev x) hl (sz:=1) (by decide) (fun d hd=>by obtain ⟨n,_,rfl⟩:=List.mem_map.1 hd;rfl)
  have hrun : (convert src dst (a.eval x)).run P w = .ok (bsV ns) w:=by
    rw [e1,run_convert_bytes_string w src dst e A _ c hu hk hdst]
    rcases hA with ⟨h0,rfl⟩|⟨ad,news,rfl,hc,hrw⟩
    · simp only [List.map_eq_nil_iff] at h0
      subst h0
      simp [Conv.bytesToString,bsV]
    · have hnw:=bytes_news hrw
      subst hnw
      have hll:=run_loadCells_list (P:=P) w ad (ns.map (Value.int .u8)) hc
      rw [run_bytesToString w ad _ c ns (by simpa using hll)]
      rfl
  simp [execOp,ho,hrun]
theorem HR.put1 {w0 w : World} {oa : OA} {φ : Nat → Option Value} {hp : List (Nat × Ob)} (hr : HR w0 oa φ (go hp) w) {id e : Nat} {l xs : List D} (hg : go hp id = some (.row e 1 l)) {g m cap : Nat} (hu : φ id = some (.slice (some ⟨g,0,none⟩) m cap)) {p : Nat} (hp1 : p + xs.length ≤ l.length)
    {news : List Value} (hrw : Rw w (okB w0 oa φ (go hp) w) 1 xs news) {cur : Array Value} {fr : Nat × Nat} (hh : w.heap[g]? = some (.cells cur e fr)) :
    fr = (0,0) ∧ p + news.length ≤ cur.size ∧ (HR w0 oa φ (go (so hp id (.row e 1 (l.take p ++ xs ++ l.drop (p + xs.length))))) (w.setRow g (cur.toList.take p ++ news ++ cur.toList.drop (p + news.length)).toArray) ∧
      (∀ b,okB w0 oa φ (go hp) w b → okB w0 oa φ (go (so hp id (.row e 1 (l.take p ++ xs ++ l.drop (p + xs.length))))) (w.setRow g (cur.toList.take p ++ news ++ cur.toList.drop (p + news.length)).toArray) b ∧ (w.setRow g (cur.toList.take p ++ news ++ cur.toList.drop (p + news.length)).toArray).heap[b]? = w.heap[b]?)):=by
  obtain ⟨u,cs,hu',hszp,how,hrl⟩:=hr.obj id _ hg
  obtain rfl : u = _:=Option.some.inj (hu'.symm.trans hu)
  have hnl : news.length = xs.length:=by have:=hrw.1;omega
  rcases how.2 with ⟨h2,_⟩|⟨g',cap',cur',h2,hbase,hh',hnc,hcm,hcs,htake⟩
  · simp at h2
  simp only [Value.slice.injEq,Option.some.injEq,Addr.mk.injEq,and_true,true_and] at h2
  obtain ⟨rfl,rfl,rfl⟩:=h2
  rw [hh] at hh'
  simp only [Option.some.injEq,Obj.cells.injEq] at hh'
  obtain ⟨rfl,_,rfl⟩:=hh'
  simp only [Nat.mul_one] at hcs htake
  refine ⟨rfl,by omega,hr.touch hg (by simp) (by simp) hu rfl (by simp) (below_setRow hr.below g (hr.mine id _ _ g hg (by simp) hu rfl) _) (fun k hk=>setRow_other w g k _ hk) ?_⟩
  intro ok hok
  have hcl : (cur.toList.take p ++ news ++ cur.toList.drop (p + news.length)).length = cur.size:=by
    have:=mid_len cur.toList news p (by have:=Array.length_toList (xs:=cur);omega)
    rw [this,Array.length_toList]
  have hll : (l.take p ++ xs ++ l.drop (p + xs.length)).length = l.length:=mid_len l xs p hp1
  have hget:=mid_get cur.toList news p (by have:=Array.length_toList (xs:=cur);omega)
  have hgl:=mid_get l xs p hp1
  have hmono : ∀ {q : D} {z : Value},Rd w (okB w0 oa φ (go hp) w) q z → Rd (w.setRow g (cur.toList.take p ++ news ++ cur.toList.drop (p + news.length)).toArray) ok q z:=fun hr =>
    hr.mono (fun k hk=>setRow_other w g k _ (hok k hk).2) (fun k hk=>(hok k hk).1)
  refine ⟨_,(cur.toList.take p ++ news ++ cur.toList.drop (p + news.length)).take l.length,hu,Nat.one_pos,?_,?_,?_,?_,?_⟩
  · rw [hll]
    refine ⟨by rw [List.length_take,hcl];omega,.inr ⟨g,cap,_,rfl,hbase,setRow_heap w g cur _ e _ hh,hnc,hcm,?_,by simp⟩⟩
    simp only [List.size_toArray,Nat.mul_one]
    rw [hcl];exact hcs
  · rw [List.length_take,hcl,hll];omega
  · intro z hz
    obtain ⟨j,hj⟩:=List.mem_iff_getElem?.1 hz
    rw [List.getElem?_take] at hj
    split at hj
    · rw [hget j] at hj
      split at hj
      · exact hrw.2.1 z (List.mem_of_getElem? hj)
      · rename_i hjl _
        refine hrl.2.1 z (List.mem_of_getElem? (i:=j) ?_)
        rw [← htake,List.getElem?_take,if_pos hjl]
        exact hj
    · cases hj
  · intro q hq
    rcases List.mem_append.1 hq with hq|hq
    · rcases List.mem_append.1 hq with hq|hq
      · exact hrl.2.2.1 q (List.mem_of_mem_take hq)
      · exact hrw.2.2.1 q hq
    · exact hrl.2.2.1 q (List.mem_of_mem_drop hq)
  · intro k j q z v hq hz hv
    rw [List.getElem?_take] at hv
    split at hv
    case isFalse=>cases hv
    rename_i hjl
    have hql : q ∈ l ∨ q ∈ xs:=by
      rcases List.mem_append.1 (List.mem_of_getElem? hq) with h5|h5
      · rcases List.mem_append.1 h5 with h5|h5
        · exact .inl (List.mem_of_mem_take h5)
        · exact .inr h5
      · exact .inl (List.mem_of_mem_drop h5)
    have hj : j < 1:=by
      have:=(List.getElem?_eq_some_iff.1 hz).1
      rcases hql with h5|h5
      · rw [hrl.2.2.1 q h5] at this;exact this
      · rw [hrw.2.2.1 q h5] at this;exact this
    obtain rfl : j = 0:=by omega
    simp only [Nat.mul_one,Nat.add_zero] at hv hjl
    rw [hget] at hv
    rw [hgl] at hq
    split at hv
    · rename_i hc
      rw [if_pos (by omega)] at hq
      exact hmono (hrw.2.2.2 (k - p) 0 q z v hq hz (by simpa using hv))
    · rename_i hc
      rw [if_neg (by omega)] at hq
      refine hmono (hrl.2.2.2 k 0 q z v hq hz ?_)
      simp only [Nat.mul_one,Nat.add_zero]
      rw [← htake,List.getElem?_take,if_pos hjl]
      exact hv
def e_copy (P : Program) (t : TypeId) (x y : Operand) (o : Oper) (st : St) (K : V → List (Nat × Ob) → Prop) : Prop :=
  dOk o.dst st.nt ∧ match el P t with
  | some (_,sz,_)=>sz = 1 ∧ match slOf (st.ev x) with
    | some (id,sz1,off,len)=>match go st.hp id with
      | some (.row e1 sz2 l)=>sz1 = 1 ∧ sz2 = 1 ∧ off + len ≤ l.length ∧ match elems st.hp (st.ev y) with
        | some xs=>(∀ d ∈ xs,d.cells.length = 1) ∧ K (.d (.v (.int .i64 (min xs.length len : Nat)))) [(id,.row e1 1 (l.take off ++ xs.take (min xs.length len) ++ l.drop (off + (xs.take (min xs.length len)).length)))]
        | none=>False
      | _=>False
    | none=>False
  | none=>False
theorem s_copy {P : Program} {t t2 : TypeId} {x y : Operand} {o : Oper} {st : St} {K : St → Prop} (ho : o.op = .call { callee:=.builtin .copy,args:=#[x,y],argTypes:=#[t,t2] }) (h : e_copy P t x y o st fun x ups=>K (st.upd o.dst x ups)) : Does P o st K:=by
  obtain ⟨hd,h⟩:=h
  split at h
  case h_2=>exact h.elim
  rename_i e sz by' he
  obtain ⟨rfl,h⟩:=h
  obtain ⟨inf,hu,hinf,hsz,_⟩:=el_open he
  have hs1 : (P.info? e).map (·.size) = some 1:=by rw [hinf];simp [hsz]
  split at h
  case h_2=>exact h.elim
  rename_i id sz1 off len hx
  split at h
  case h_2=>exact h.elim
  rename_i e1 sz2 l hg
  obtain ⟨rfl,rfl,hle,h⟩:=h
  split at h
  case h_2=>exact h.elim
  rename_i xs hxs
  obtain ⟨hcell,h⟩:=h
  refine does_run fun w0 oa φ a w hs=>?_
  have ex:=vr_slOf hx (hs.ev x)
  obtain ⟨A,c,ey,hA⟩:=src_open hs.hr (hs.ev y) hxs (sz:=1) (by decide) hcell
  have htl : (xs.take (min xs.length len)).length = min xs.length len:=by rw [List.length_take];omega
  generalize hX : a.eval x = X at ex
  cases ex with
  | sl _ _ _ _ _ u B cB hid hcB hf ha =>
    by_cases h0 : min xs.length len = 0
    · have hrun:=run_copy_none (P:=P) w t t2 o.type e B A len cB xs.length c hu hs1 h0
      refine ⟨.int .i64 ((min xs.length len : Nat) : Int),w,_,?_,h,?_⟩
      · simp only [execOp,ho,resolve,invoke,builtin]
        simp [hX,ey,hrun,h0,goInt]
      · have e0 : go (((id,Ob.row e1 1 (l.take off ++ xs.take (min xs.length len) ++ l.drop (off + (xs.take (min xs.length len)).length))) :: st.hp)) = go st.hp:=by
          funext i
          simp only [go]
          split
          · rename_i e;subst e;rw [hg,h0];simp
          · rfl
        have hs' : SRp w0 oa φ { st with hp:=(id,Ob.row e1 1 (l.take off ++ xs.take (min xs.length len) ++ l.drop (off + (xs.take (min xs.length len)).length))) :: st.hp } a w :=
          hs.heap (fun _ _ h=>h) ⟨by rw [e0];exact hs.hr,fun b hb=>⟨by rw [e0];exact hb,rfl⟩⟩
        rw [h0]
        rw [h0] at hs'
        exact (hs'.put _ hd (.d _ _ (.v _))).sr
    · rcases ha with ha|⟨b,n,cap,rfl,rfl⟩
      · omega
      · rcases hA with ⟨hn,_⟩|⟨ad,news,rfl,hc,hrw⟩
        · subst hn;simp at h0
        · have hrw' : Rw w (okB w0 oa φ (go st.hp) w) 1 (xs.take (min xs.length len)) (news.take (min xs.length len)):=by
            have hnl : news.length = xs.length:=by have:=hrw.1;omega
            refine ⟨by rw [List.length_take,List.length_take];omega,fun z hz=>hrw.2.1 z (List.mem_of_mem_take hz),fun z hz=>hrw.2.2.1 z (List.mem_of_mem_take hz),fun i j d z v hd hz hv=>?_⟩
            rw [List.getElem?_take] at hd hv
            split at hd
            · split at hv
              · exact hrw.2.2.2 i j d z v hd hz hv
              · cases hv
            · cases hd
          have hnl : (news.take (min xs.length len)).length = min xs.length len:=by have:=hrw'.1;omega
          obtain ⟨u,cs,hu',hszp,how,hrl⟩:=hs.hr.obj id _ hg
          obtain rfl : u = _:=Option.some.inj (hu'.symm.trans hid)
          rcases how.2 with ⟨h2,_⟩|⟨g',cap',cur,h2,hbase,hh,hnc,hcm,hcs,htake⟩
          · simp at h2
          simp only [Value.slice.injEq,Option.some.injEq,Addr.mk.injEq,and_true,true_and] at h2
          obtain ⟨rfl,rfl,rfl⟩:=h2
          obtain ⟨_,hfit,key⟩:=HR.put1 hs.hr hg hid (p:=off) (by rw [htl];omega) hrw' hh
          have hrun:=run_copy_row (P:=P) w t t2 o.type e b off len cB ad xs.length c cur e1 (news.take (min xs.length len)) hu hs1 hh hnl (fun j v hv=>by
            rw [List.getElem?_take] at hv
            split at hv
            · exact hc j v hv
            · cases hv) hfit hrw'.2.1
          have hs':=hs.heap (fun _ _ hv=>hv) key
          refine ⟨.int .i64 ((min xs.length len : Nat) : Int),_,_,?_,h,(hs'.put _ hd (.d _ _ (.v _))).sr⟩
          simp only [execOp,ho,resolve,invoke,builtin]
          simp [hX,ey,hrun,hnl,goInt]
theorem fz_cell (w : World) (g n : Nat) (x : Addr) : (w.freeze ⟨g,n,none⟩ 1).cell? x = w.cell? x:=by
  unfold World.freeze World.cell?
  rw [if_neg (by decide)]
  by_cases e : g = x.block
  · cases hh : w.heap[x.block]? with
    | none=>simp [Array.getElem?_modify,e,hh]
    | some o=>cases o <;> simp [Array.getElem?_modify,e,hh]
  · simp [Array.getElem?_modify,e]
theorem fz_other (w : World) (g n k : Nat) (h : k ≠ g) : (w.freeze ⟨g,n,none⟩ 1).heap[k]? = w.heap[k]?:=by
  unfold World.freeze
  rw [if_neg (by decide)]
  simp only [Array.getElem?_modify]
  rw [if_neg (by omega)]
theorem fz_size (w : World) (g n : Nat) : (w.freeze ⟨g,n,none⟩ 1).heap.size = w.heap.size:=by
  unfold World.freeze
  rw [if_neg (by decide)]
  simp
theorem fz_below {w0 w : World} {oa : OA} (h : Bel w0 oa w) (g n : Nat) (hg : ours w0 oa g) : Bel w0 oa (w.freeze ⟨g,n,none⟩ 1):=by
  refine h.step ?_ ?_ ?_ (by rw [fz_size];exact Nat.le_refl _) (fun k _ hk=>fz_other w g n k (fun e=>hk (e ▸ hg))) <;> (unfold World.freeze;rw [if_neg (by decide)])
def e_mark (P : Program) (t : TypeId) (x : Operand) (o : Oper) (st : St) (K : V → List (Nat × Ob) → Prop) : Prop :=
  dOk o.dst st.nt ∧ match el P t with
  | some (e,sz,_)=>ik P e = some .u8 ∧ sz = 1 ∧ match st.ev x with
    | .sl id sz1 off len _=>match go st.hp id with
      | some (.row _ sz2 l)=>sz1 = 1 ∧ sz2 = 1 ∧ 0 < len ∧ off + len ≤ l.length ∧ match byL ((l.drop off).take len) with
        | some ns=>K (.d (.list (ns.map fun n=>D.v (.int .u8 n)))) [(id,.dead)]
        | none=>False
      | _=>False
    | _=>False
  | none=>False
theorem s_mark {P : Program} {t : TypeId} {x : Operand} {o : Oper} {st : St} {K : St → Prop} (ho : o.op = .convert t t x) (h : e_mark P t x o st fun x ups=>K (st.upd o.dst x ups)) : Does P o st K:=by
  obtain ⟨hd,h⟩:=h
  split at h
  case h_2=>exact h.elim
  rename_i e sz by' he
  obtain ⟨hk,rfl,h⟩:=h
  split at h
  case h_2=>exact h.elim
  rename_i id sz1 off len full hx
  split at h
  case h_2=>exact h.elim
  rename_i e1 sz2 l hg
  obtain ⟨rfl,rfl,hlen,hle,h⟩:=h
  split at h
  case h_2=>exact h.elim
  rename_i ns hns
  obtain ⟨inf,hu,_,_,_⟩:=el_open he
  have hk:=ik_open hk
  have hnl:=byL_get hns
  refine does_run fun w0 oa φ a w hs=>?_
  have ex:=hs.ev x;rw [hx] at ex
  obtain ⟨u,cs,hu',hszp,how,hrl⟩:=hs.hr.obj id _ hg
  generalize hX : a.eval x = X at ex
  cases ex with
  | sl _ _ _ _ _ u2 A c hid hc hf ha =>
    obtain rfl : u = u2:=Option.some.inj (hu'.symm.trans hid)
    rcases ha with ha|⟨b,n,cap,rfl,rfl⟩
    · omega
    rcases how.2 with ⟨h2,_⟩|⟨g',cap',cur,h2,hbase,hh,hnc,hcm,hcs,htake⟩
    · simp at h2
    simp only [Value.slice.injEq,Option.some.injEq,Addr.mk.injEq,and_true,true_and] at h2
    obtain ⟨rfl,rfl,rfl⟩:=h2
    have hrun : (convert t t (.slice (some ⟨b,off * 1,none⟩) len c)).run P w = .ok (.slice (some ⟨b,off * 1,none⟩) len c) (w.freeze ⟨b,cur.size,none⟩ 1):=by
      have hsh : w.shape? b = some (e1,cur.size):=by simp [World.shape?,hh]
      simp [convert,run_underlying hu,run_underlying hk,markStringish,hsh]
    have hfz:=fz_other w b cur.size
    have key:=HR.step (hp':=go (so st.hp id .dead)) (φ':=φ) (w':=w.freeze ⟨b,cur.size,none⟩ 1) hs.hr (fun i=>i = id) (by rw [fz_size];exact Nat.le_refl _) (fz_below hs.hr.below b cur.size (hs.hr.mine id _ _ b hg (by simp) hid rfl))
      (fun k _ hb=>hfz k fun ek=>hb id _ _ rfl hg (by simp) hid (by rw [ek];rfl)) (fun _ _ hv=>hv) (by
        intro i hi
        rw [go_so] at hi
        split at hi
        · cases hi
        · exact hs.hr.fresh i hi) (by
        intro i o' ho' hne
        rw [go_so] at ho'
        split at ho'
        · cases ho';exact absurd rfl hne
        · rename_i e5;exact .inl ⟨ho',e5⟩) hs.hr.has (by
        intro i o' ho' hc'
        rw [go_so] at ho'
        split at ho'
        · cases ho';trivial
        · rename_i e5;exact absurd ⟨ho',e5⟩ hc') (by
        intro i _ hne
        rw [go_so]
        by_cases e5 : i = id
        · rw [if_pos e5];exact ⟨by simp,fun o' ho' hd _=>by cases ho';exact hd rfl⟩
        · rw [if_neg e5];exact ⟨hne,fun o' ho' hd e6=>by rw [ho'] at e6;cases e6;exact hd rfl⟩) (by
        intro i i' o1 o2 v v' ho1 ho2 hn1 hn2 hc' hne hv hv'
        rw [go_so] at ho1
        split at ho1
        · cases ho1;exact absurd rfl hn1
        · rename_i e5;exact absurd ⟨ho1,e5⟩ hc')
    have hs':=hs.heap (fun _ _ hv=>hv) key
    refine ⟨.slice (some ⟨b,off * 1,none⟩) len c,_,_,?_,h,(hs'.put _ hd ?_).sr⟩
    · simp only [execOp,ho]
      simp [hX] at hrun ⊢
      simp [hrun]
    · have hll : ((l.drop off).take len).length = len:=by rw [List.length_take,List.length_drop];omega
      have hnl2 : ns.length = len:=by rw [← hll,hnl];simp
      have hcl : cs.length = l.length:=by have:=hrl.1;omega
      have hval : ∀ j,j < len → w.cell? ⟨b,off * 1 + j,none⟩ = some (.int .u8 (ns.getD j 0)):=by
        intro j hj
        have h1 : ((l.drop off).take len)[j]? = some (D.v (.int .u8 (ns.getD j 0))):=by rw [hnl];simp [List.getD_eq_getElem?_getD,show j < ns.length by omega]
        rw [List.getElem?_take,if_pos hj,List.getElem?_drop] at h1
        obtain ⟨v,hv⟩ : ∃ v,cs[off + j]? = some v:=⟨cs[off + j]'(by omega),by simp⟩
        have h3:=hrl.2.2.2 (off + j) 0 _ (D.v (.int .u8 (ns.getD j 0))) v h1 rfl (by simpa using hv)
        have h4:=how.cells (g:=b) rfl (off + j) v hv
        rw [Addr.add_lit,Nat.zero_add] at h4
        cases h3
        rw [Nat.mul_one]
        exact h4
      have:=Rd.list (w:=w.freeze ⟨b,cur.size,none⟩ 1) (ok:=okB w0 oa φ (go (so st.hp id .dead)) (w.freeze ⟨b,cur.size,none⟩ 1)) (ns.map fun n=>D.v (.int .u8 n)) 1 b (off * 1) c (fun j=>.int .u8 (ns.getD j 0)) (by rw [List.length_map,hnl2];exact hc) ?_ Nat.one_pos (fun d hd=>by obtain ⟨n,_,rfl⟩:=List.mem_map.1 hd;rfl)
        (fun j hj=>by rw [List.length_map,hnl2,Nat.mul_one] at hj;rw [fz_cell];exact hval j hj) (fun j _=>rfl) ?_
      · rw [List.length_map,hnl2] at this
        exact .d _ _ this
      · refine ⟨ours_ok (hs.hr.mine id _ _ b hg (by simp) hid rfl) (by rw [fz_size];exact (Array.getElem?_eq_some_iff.1 hh).1),fun i o' v ho' hne hv hb=>?_⟩
        rw [go_so] at ho'
        split at ho'
        · cases ho';exact hne rfl
        · rename_i e5
          rcases hs.hr.inj i id _ _ _ _ ho' hg hne (by simp) e5 hv hid with h6|h6
          · rw [h6] at hb;cases hb
          · exact h6 hb
      · intro i j d z hd hz
        rw [List.getElem?_map] at hd
        obtain ⟨n,hn,rfl⟩:=Option.map_eq_some_iff.1 hd
        cases j with
        | zero=>cases hz;simp [List.getD_eq_getElem?_getD,hn];exact .v _
        | succ j=>cases hz
def fldI (P : Program) (p : Field × Nat) : Bool := (p.1.name != "_") && (p.1.offset == p.2) && (ik P p.1.type == some .i64)
def eqSB (P : Program) (t : TypeId) (n : Nat) : Bool :=
  match P.underlying t with
  | some (.struct fs)=>fs.size == n && fs.toList.zipIdx.all (fldI P) && !(P.eqGuardType P.depth t) && !(P.stoodInHeld t)
  | _=>false
theorem part_int {P : Program} {t : TypeId} (h : ik P t = some .i64) (w : World) (xs : List Int) (k : Nat) (x : Int) (hx : xs[k]? = some x) : (part t (xs.map (Value.int .i64)).toArray k).run P w = .ok (.int .i64 x) w:=by
  have hu:=ik_open h
  simp [part,run_isAgg hu,isAggD,hx]
theorem eqf_ints {P : Program} {d : Nat} (w : World) {xs ys : List Int} (hl : xs.length = ys.length) : ∀ (l : List Field) (k : Nat),(l.zipIdx k).all (fldI P) = true → k + l.length = xs.length →
    (Op.eqFields (d + 1) (xs.map (Value.int .i64)).toArray (ys.map (Value.int .i64)).toArray l).run P w = .ok (decide (xs.drop k = ys.drop k)) w
  | [],k,_,hk=>by
    simp only [List.length_nil,Nat.add_zero] at hk
    rw [List.drop_of_length_le (by omega),List.drop_of_length_le (by omega)]
    simp [Op.eqFields]
  | f :: l,k,h,hk=>by
    simp only [List.zipIdx_cons,List.all_cons,Bool.and_eq_true,fldI,bne_iff_ne,beq_iff_eq] at h
    obtain ⟨⟨⟨hn,ho⟩,hi⟩,hr⟩:=h
    simp only [List.length_cons] at hk
    have ih:=eqf_ints (P:=P) (d:=d) w hl l (k + 1) (by simpa [fldI] using hr) (by omega)
    have hx : xs[k]? = some xs[k]:=List.getElem?_eq_getElem (by omega)
    have hy : ys[k]? = some ys[k]:=List.getElem?_eq_getElem (by omega)
    rw [Op.eqFields,ho]
    simp only [if_pos hn,Sem.run_bind,part_int hi w xs k _ hx,part_int hi w ys k _ hy,run_equalIn_int w d f.type .i64 .i64 _ _ (ik_open hi),Result.andThen_ok]
    rw [List.drop_eq_getElem_cons (show k < xs.length by omega),List.drop_eq_getElem_cons (show k < ys.length by omega)]
    by_cases he : xs[k] = ys[k]
    · simp only [he,beq_self_eq_true,Bool.not_true,Bool.false_eq_true,if_false,ih,List.cons.injEq,true_and]
    · have hb : (xs[k] == ys[k]) = false:=by simpa using he
      simp only [hb,Bool.not_false,if_true,List.cons.injEq,he,false_and,decide_false,Sem.run_pure]
theorem eqS_of {P : Program} {t : TypeId} {n : Nat} (h : eqSB P t n = true) : EqS P t n:=by
  intro xs ys w x y hx hy
  unfold eqSB at h
  split at h
  case h_2=>cases h
  rename_i fs hu
  simp only [Bool.and_eq_true,beq_iff_eq,Bool.not_eq_true'] at h
  obtain ⟨⟨⟨hs,ha⟩,hg⟩,hp⟩:=h
  have hf : P.fieldsOf t = fs:=by simp [Program.fieldsOf,hu]
  refine ⟨run_eqGuard_agg w .eql t x y _ _ hg,run_eqGuard_agg w .neq t x y _ _ hg,?_⟩
  show (Op.equalIn 10000 t _ _).run P w = _
  rw [run_equalIn_struct w 9999 t _ _ (by rw [hf];exact hu) hp,hf]
  have:=eqf_ints (P:=P) (d:=9998) w (xs:=xs) (ys:=ys) (by omega) fs.toList 0 ha (by simp;omega)
  simpa using this
def eqSN (P : Program) (t : TypeId) : Option Nat:=match tk P t with
  | some (_,n)=>if eqSB P t n = true then some n else none
  | none=>none
theorem eqSN_ok {P : Program} {t : TypeId} {n : Nat} (h : eqSN P t = some n) : EqS P t n:=by
  unfold eqSN at h
  split at h
  · split at h
    · rename_i he;cases h;exact eqS_of he
    · cases h
  · cases h
def e_cnv (P : Program) (s d : TypeId) (x : Operand) (o : Oper) (st : St) (K : V → List (Nat × Ob) → Prop) : Prop :=
  match ik P d with
  | some _=>e_conv P s d x o st K
  | none=>match strT P d with
    | true=>e_str P s d x o st K
    | false=>s = d ∧ e_mark P d x o st K
theorem s_cnv {P : Program} {src dst : TypeId} {x : Operand} {o : Oper} {st : St} {K : St → Prop} (ho : o.op = .convert src dst x) (h : e_cnv P src dst x o st fun x ups=>K (st.upd o.dst x ups)) : Does P o st K:=by
  unfold e_cnv at h
  split at h
  · exact s_conv ho h
  · split at h
    · exact s_str ho h
    · obtain ⟨rfl,h⟩:=h
      exact s_mark ho h
end Go.Proofs.Ytleahjfgedfgmaa.Am
end
section
set_option linter.unusedVariables false
set_option linter.unusedSimpArgs false
namespace Go.Proofs.Ytleahjfgedfgmaa.Am
open Go Go.RowKit
theorem zc_made (z : Array Value) (m : Nat) : Builtin.zeroCells z m = madeCells z (m * z.size):=rfl
theorem zer_run {P : Program} {w : World} {base t ti ty e : Nat} {i : TypeInfo} {z : Value} {k : IntKind} (ht : P.underlying t = some (.slice e)) (hti : P.underlying ti = some (.int k)) (hi : P.info? e = some i) (hz : i.zero = some z) (hzs : z.cells.size = i.size) (hsz : 0 < i.size) (hb0 : 0 < i.bytes)
    {v : Value} {n : Nat} {xs : List Value} (hown : w.ownsRow base e i.size v n xs) (hbase : base ≤ w.heap.size) (kx : IntKind) (m : Nat) (h1 : ∀ u ∈ (madeCells z.cells (m * i.size)).toList,u.oneCell' = true) (hbytes : (n + m) * i.bytes ≤ 140737488355328) :
    ∃ v' w',(Builtin.append_ #[t,ti] ty #[v,.int kx m]).run P w = .ok v' w' ∧ w'.ownsRow base e i.size v' (n + m) (xs ++ (madeCells z.cells (m * i.size)).toList) ∧ w.grownBy w' v.ownBlock ∧ (v'.ownBlock = v.ownBlock ∨ ∃ b,v'.ownBlock = some b ∧ w.heap.size ≤ b):=by
  have hle : n + m ≤ 140737488355328:=Nat.le_trans (Nat.le_mul_of_pos_right _ hb0) hbytes
  have h63 : n + m ≤ maxLen:=by simp only [maxLen];omega
  have hw : IntKind.i64.wrap (m : Int) = m:=by rw [IntKind.wrap_i64];omega
  have hneg : ¬ ((m : Int) < 0):=by omega
  have hbig : ¬ (281474976710656 < (m : Int) * (i.bytes : Int)):=by
    have h2 : m * i.bytes ≤ (n + m) * i.bytes:=Nat.mul_le_mul_right _ (by omega)
    rw [← Int.natCast_mul];omega
  have hsn : i.size ≠ 0:=by omega
  obtain ⟨L,hL⟩ : ∃ L,madeCells z.cells (m * i.size) = L:=⟨_,rfl⟩
  have hZ : Builtin.zeroCells z.cells m = L:=by rw [zc_made,hzs,hL]
  rw [hL] at h1 ⊢
  have hl : L.toList.length = m * i.size:=by rw [← hL];simp [madeCells]
  have hl' : L.size = m * i.size:=by simpa using hl
  have hLe : m * i.size = 0 → L = #[]:=fun h0=>Array.eq_empty_of_size_eq_zero (by rw [hl',h0])
  have happ : (if m * i.size = 0 then pure #[] else do pure (Builtin.zeroCells (← zeroValue e).cells m) : Sem (Array Value)).run P = fun w=>.ok L w:=by
    funext w'
    by_cases h0 : m * i.size = 0
    · simp [h0,hLe h0]
    · simp [h0,zeroValue,typeInfo,hi,hz,hZ]
  have hlen : (xs ++ L.toList).length = (n + m) * i.size:=by rw [List.length_append,hown.1,hl,Nat.add_mul]
  have grown : ∀ (old : Nat) (row : Option Nat),old < n + m →
      (w.drew.alloc (.cells (xs.toArray ++ L ++ Builtin.zeroCells z.cells (grownCap w (n + m) old e - (n + m))) e)).ownsRow base e i.size (.slice (some ⟨w.heap.size,0,none⟩) (n + m) (grownCap w (n + m) old e)) (n + m) (xs ++ L.toList) ∧
      w.grownBy (w.drew.alloc (.cells (xs.toArray ++ L ++ Builtin.zeroCells z.cells (grownCap w (n + m) old e - (n + m))) e)) row:=by
    intro old row ho
    have hge:=grownCap_ge w (n + m) old e
    have hcm : grownCap w (n + m) old e ≤ maxLen:=grownCap_le_maxLen w (n + m) old e h63
    refine ⟨⟨hlen,.inr ⟨w.heap.size,_,_,rfl,hbase,heap_alloc_new w.drew _,hge,hcm,?_,?_⟩⟩,⟨rfl,rfl,rfl,by simp,fun k hk _=>heap_alloc_old w.drew _ k hk⟩⟩
    · simp only [Array.size_append,List.size_toArray,hl',size_zeroCells,hzs,hown.1,← Nat.add_mul]
      congr 1;omega
    · simp only [Array.toList_append,List.append_assoc]
      rw [← List.append_assoc,← hlen]
      exact List.take_left
  have runs : ∀ (A : Option Addr) (cap : Nat),cap < n + m → (Builtin.firstCells i.size n (.slice A n cap)).run P w.drew = .ok xs.toArray w.drew → (Builtin.append_ #[t,ti] ty #[.slice A n cap,.int kx m]).run P w =
      .ok (.slice (some ⟨w.heap.size,0,none⟩) (n + m) (grownCap w (n + m) cap e)) (w.drew.alloc (.cells (xs.toArray ++ L ++ Builtin.zeroCells z.cells (grownCap w (n + m) cap e - (n + m))) e)):=by
    intro A cap hcap hfo
    have hn : ¬ (n + m ≤ cap):=by omega
    have h63' : ¬ (9223372036854775807 < ((n : Int) + (m : Int))):=by omega
    have hfit:=growslice_fits hcap hbytes
    have h48' : ¬ (281474976710656 < Builtin.nextslicecap (n + m) cap * i.bytes):=by omega
    by_cases h0 : m * i.size = 0
    · have hm : m = 0:=(Nat.mul_eq_zero.1 h0).resolve_right hsn
      have hL0:=hLe h0
      subst hm
      subst hL0
      simp only [Nat.add_zero] at hn h48' ⊢
      have h63'' : ¬ (9223372036854775807 < (n : Int)):=by omega
      have hw0 : IntKind.i64.wrap 0 = 0:=by rw [IntKind.wrap_i64];rfl
      simp [Builtin.append_,run_underlying ht,run_underlying hti,sizeOf,typeInfo,zeroValue,hi,hz,asInt,asIntOf,hw0,hn,h63'',h48',Question.forced,hfo,newRow,grownCap]
    · simp [Builtin.append_,run_underlying ht,run_underlying hti,sizeOf,typeInfo,zeroValue,hi,hz,asInt,asIntOf,hw,hneg,hbig,hn,h63',h48',Question.forced,hfo,newRow,grownCap,h0,hZ]
  rcases hown.2 with ⟨rfl,rfl⟩|⟨g,cap,cur,rfl,hbg,hg,hnc,hcm,hcs,htake⟩
  · obtain rfl : xs = []:=List.eq_nil_of_length_eq_zero (by simpa using hown.1)
    by_cases hm : m = 0
    · subst hm
      have hL0:=hLe (by simp)
      subst hL0
      have hw0 : IntKind.i64.wrap 0 = 0:=by rw [IntKind.wrap_i64];rfl
      refine ⟨.slice none 0 0,w,?_,World.ownsRow_nil w base e i.size,⟨rfl,rfl,rfl,Nat.le_refl _,fun _ _ _=>rfl⟩,.inl rfl⟩
      simp [Builtin.append_,run_underlying ht,run_underlying hti,sizeOf,typeInfo,hi,asInt,asIntOf,hw0]
    · have hgr:=grown 0 (Value.ownBlock (.slice none 0 0)) (by omega)
      exact ⟨_,_,runs none 0 (by omega) (by simp [Builtin.firstCells]),hgr.1,hgr.2,.inr ⟨_,rfl,Nat.le_refl _⟩⟩
  · by_cases hroom : n + m ≤ cap
    · by_cases h0 : m * i.size = 0
      · have hm : m = 0:=(Nat.mul_eq_zero.1 h0).resolve_right hsn
        have hL0:=hLe h0
        subst hm
        subst hL0
        have hw0 : IntKind.i64.wrap 0 = 0:=by rw [IntKind.wrap_i64];rfl
        refine ⟨_,w,?_,by simpa using hown,⟨rfl,rfl,rfl,Nat.le_refl _,fun _ _ _=>rfl⟩,.inl rfl⟩
        simp [Builtin.append_,run_underlying ht,run_underlying hti,sizeOf,typeInfo,hi,asInt,asIntOf,hw0,hnc,Addr.add_lit,storeCells]
      have hfit : n * i.size + L.toList.length ≤ cur.size:=by rw [hl,hcs,← Nat.add_mul];exact Nat.mul_le_mul_right _ hroom
      have hst:=run_storeCells_at P g (n * i.size) e L.toList 0 cur w hg (by simpa using hfit) h1
      simp only [Nat.add_zero] at hst
      have hcl : cur.toList.length = cur.size:=by simp
      refine ⟨.slice (some ⟨g,0,none⟩) (n + m) cap,w.setRow g (cur.toList.take (n * i.size) ++ L.toList ++ cur.toList.drop (n * i.size + L.toList.length)).toArray,?_,⟨hlen,.inr ⟨g,cap,_,rfl,hbg,setRow_heap w g cur _ e _ hg,hroom,hcm,?_,?_⟩⟩,⟨rfl,rfl,rfl,by simp,fun k _ hk=>setRow_other w g k _ (fun e=>hk (by simp [Value.ownBlock,e]))⟩,.inl rfl⟩
      · simp [Builtin.append_,run_underlying ht,run_underlying hti,sizeOf,typeInfo,zeroValue,hi,hz,asInt,asIntOf,hw,hneg,hbig,hroom,h0,hZ,Addr.add_lit,hst]
      · rw [← hcs]
        simp only [List.size_toArray,List.length_append,List.length_take,List.length_drop,hcl]
        omega
      · show (cur.toList.take (n * i.size) ++ L.toList ++ cur.toList.drop (n * i.size + L.toList.length)).take ((n + m) * i.size) = xs ++ L.toList
        rw [show cur.toList.take (n * i.size) = xs from htake,← hlen]
        exact List.take_left
    · have holds : ∀ j u,xs[j]? = some u → w.cell? ((⟨g,0,none⟩ : Addr).add j) = some u:=hown.cells (g:=g) rfl
      have hgr:=grown cap (Value.ownBlock (.slice (some ⟨g,0,none⟩) n cap)) (by omega)
      exact ⟨_,_,runs (some ⟨g,0,none⟩) cap (by omega) (run_firstCells_some (P:=P) w.drew i.size n _ n cap xs hown.1 (by simpa using holds)),hgr.1,hgr.2,.inr ⟨_,rfl,Nat.le_refl _⟩⟩
def inT (P : Program) (t : TypeId) : Bool:=match P.underlying t with|some (.int _)=>true|_=>false
theorem inT_open {P : Program} {t : TypeId} (h : inT P t = true) : ∃ k,P.underlying t = some (.int k):=by
  unfold inT at h
  split at h
  · exact ⟨_,‹_›⟩
  · cases h
def e_appZ (P : Program) (t ti : TypeId) (s x : Operand) (o : Oper) (st : St) (K : V → List (Nat × Ob) → Prop) : Prop :=
  dOk o.dst st.nt ∧ inT P ti = true ∧ match o.dst with
  | some n=>go st.hp n = none ∧ match el P t with
    | some (e,sz,by')=>match zc P e with
      | some z=>match tk P e with
        | some (b,_)=>match st.ev x with
          | .d (.v (.int _ m))=>0 ≤ m ∧ 0 < sz ∧ 0 < by' ∧ z.length = sz ∧ z.all (·.oneCell') = true ∧ (b = true ∨ z.length = 1) ∧ match st.ev s with
            | .sl id sz1 off len full=>match go st.hp id with
              | some (.row e1 sz2 l)=>full = true ∧ off = 0 ∧ len = l.length ∧ e1 = e ∧ sz1 = sz ∧ sz2 = sz ∧ (l.length + m.toNat) * by' ≤ 140737488355328 ∧
                  K (.sl n sz 0 (l.length + m.toNat) true) [(n,.row e sz (l ++ List.replicate m.toNat (zD b z))),(id,.dead)]
              | _=>False
            | _=>False
          | _=>False
        | none=>False
      | none=>False
    | none=>False
  | none=>False
theorem s_appZ {P : Program} {t ti : TypeId} {s x : Operand} {o : Oper} {st : St} {K : St → Prop} (ho : o.op = .call { callee:=.builtin .append,args:=#[s,x],argTypes:=#[t,ti] }) (h : e_appZ P t ti s x o st fun x ups=>K (st.upd o.dst x ups)) : Does P o st K:=by
  obtain ⟨hd,hin,h⟩:=h
  obtain ⟨k,hti⟩:=inT_open hin
  split at h
  case h_2=>exact h.elim
  rename_i n hdst
  obtain ⟨hn,h⟩:=h
  split at h
  case h_2=>exact h.elim
  rename_i e sz by' he
  split at h
  case h_2=>exact h.elim
  rename_i z hz
  split at h
  case h_2=>exact h.elim
  rename_i b q htk
  split at h
  case h_2=>exact h.elim
  rename_i kx m hx
  obtain ⟨h0,hsz,hb0,hzl,h1,hb,h⟩:=h
  obtain ⟨inf,hu,hinf,rfl,rfl⟩:=el_open he
  obtain ⟨inf',zv,hinf',hzv,rfl⟩:=zc_open hz
  obtain rfl : inf = inf':=Option.some.inj (hinf.symm.trans hinf')
  have hzs : zv.cells.size = inf.size:=by simpa using hzl
  split at h
  case h_2=>exact h.elim
  rename_i id sz1 off len full hs0
  split at h
  case h_2=>exact h.elim
  rename_i e1' sz2 l hg
  obtain ⟨rfl,rfl,rfl,rfl,rfl,rfl,hby,h⟩:=h
  obtain ⟨mm,rfl⟩:=Int.eq_ofNat_of_zero_le h0
  simp only [Int.toNat_natCast] at h hby
  refine does_run fun w0 oa φ a w hs=>?_
  have e1:=hs.ev s;rw [hs0] at e1
  have e2:=hs.ev x;rw [hx] at e2
  obtain ⟨u,cs,hid,hszp,how,hrw0⟩:=hs.hr.obj id _ hg
  have hv0 : a.eval s = u:=by
    generalize a.eval s = X at e1
    cases e1 with
    | sl _ _ _ _ _ u' A c hid' hc hf ha =>
      obtain rfl : u = u':=Option.some.inj (hid.symm.trans hid')
      exact (hf rfl).1.symm
  have hz0 : 0 < zv.cells.size:=by omega
  have hrw : ∀ ok w1,Rw w1 ok inf.size (List.replicate mm (zD b zv.cells.toList)) (madeCells zv.cells (mm * inf.size)).toList:=fun ok w1=>by
    have:=rw_zeros (w:=w1) (ok:=ok) (m:=mm) hz0 h1 hb
    rw [hzs] at this
    exact this
  obtain ⟨v',w',hr,ho1,hgr,hat⟩:=zer_run (ty:=o.type) hu hti hinf hzv hzs hsz hb0 how (Nat.zero_le _) kx mm (hrw (fun _=>True) w).2.1 hby
  have hbu : blk u = u.ownBlock:=blk_ownBlock how
  have hbv : blk v' = v'.ownBlock:=blk_ownBlock ho1
  rw [← hbu] at hgr hat
  rw [← hbv] at hat
  have hbelow : Bel w0 oa w':=hs.hr.below.grown hgr (fun k hk=>hs.hr.mine id _ u k hg (by simp) hid hk)
  have key:=hs.hr.grow hg hn hid hszp hgr hbelow (l':=l ++ List.replicate mm (zD b zv.cells.toList)) (by rw [List.length_append,List.length_replicate];exact ho1) hat (fun ok hok=>(hrw0.mono (fun b hb=>(hok b hb).2) (fun b hb=>(hok b hb).1)).app (hrw _ _))
  have hφn : φ n = none:=hs.hr.fresh n hn
  have hs':=hs.heap (φ':=upd φ n v') (fun i v hv=>by
    unfold upd
    split
    · rename_i e;subst e;rw [hφn] at hv;cases hv
    · exact hv) key
  refine ⟨v',w',_,?_,h,(hs'.put o.dst hd ?_).sr⟩
  · simp [execOp,ho,resolve,invoke,builtin,hv0,vr_v e2,hr]
  · rcases ho1.2 with ⟨rfl,h0⟩|⟨g,cap,cur,rfl,_,_,hnc,_⟩
    · rw [h0]
      exact .sl _ _ _ _ _ (.slice none 0 0) none 0 (by simp [upd]) (Nat.le_refl _) (fun _=>⟨rfl,rfl⟩) (.inl rfl)
    · exact .sl _ _ _ _ _ (.slice (some ⟨g,0,none⟩) (l.length + mm) cap) _ cap (by simp [upd]) hnc (fun _=>⟨rfl,rfl⟩) (.inr ⟨g,_,cap,rfl,by simp⟩)
end Go.Proofs.Ytleahjfgedfgmaa.Am
end
