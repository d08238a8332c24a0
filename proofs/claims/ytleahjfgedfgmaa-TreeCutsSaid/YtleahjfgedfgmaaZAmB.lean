import Derived.Deep.LoopGhost
import Derived.Orders
import Derived.Laws.Strings
import Derived.Test.YtleahjfgedfgmaaZAmT
section
set_option linter.unusedVariables false
set_option linter.unusedSimpArgs false
namespace Go.Proofs.Ytleahjfgedfgmaa.Am
open Go Go.RowKit
def ren1 (ρ : Nat → Nat) : V → V
  | .sl id sz off len full=>.sl (ρ id) sz off len full
  | .ptr id off=>.ptr (ρ id) off
  | .ep id sz i c=>.ep (ρ id) sz i c
  | .slc id sz off len cap=>.slc (ρ id) sz off len cap
  | .mp id=>.mp (ρ id)
  | .bs id off len=>.bs (ρ id) off len
  | .es id sz i c len=>.es (ρ id) sz i c len
  | x=>x
def ren2 (ρ : Nat → Nat) : V → V
  | .agg l=>.agg (l.map (ren1 ρ))
  | x=>ren1 ρ x
def ren (ρ : Nat → Nat) : V → V
  | .tup l=>.tup (l.map (ren2 ρ))
  | x=>ren2 ρ x
def renO (ρ : Nat → Nat) : Ob → Ob
  | .box l=>.box (l.map (ren1 ρ))
  | .rowv e l=>.rowv e (l.map (ren1 ρ))
  | x=>x
def va1 (Pd : D → Prop) (dom : Nat → Prop) : V → Prop
  | .d x=>Pd x
  | .sl id _ _ _ _=>dom id
  | .ptr id _=>dom id
  | .ep id _ _ _=>dom id
  | .slc id _ _ _ _=>dom id
  | .mp id=>dom id
  | .bs id _ _=>dom id
  | .es id _ _ _ _=>dom id
  | .agg _=>False
  | .tup _=>False
  | _=>True
def va2 (Pd : D → Prop) (dom : Nat → Prop) : V → Prop
  | .agg l=>∀ x ∈ l,va1 Pd dom x
  | x=>va1 Pd dom x
def va (Pd : D → Prop) (dom : Nat → Prop) : V → Prop
  | .tup l=>∀ x ∈ l,va2 Pd dom x
  | x=>va2 Pd dom x
def vaO (Pd : D → Prop) (dom : Nat → Prop) : Ob → Prop
  | .row _ _ l=>∀ d ∈ l,Pd d
  | .box l=>∀ x ∈ l,va1 Pd dom x
  | .opq _=>True
  | .rowv _ l=>∀ x ∈ l,va1 Pd dom x
  | .mp l=>∀ p ∈ l,Pd p.2
  | .dead=>False
section
variable {φ φ' : Nat → Option Value} {w : World} {ok ok' : Nat → Prop} {ρ : Nat → Nat} {Pd : D → Prop} {dom : Nat → Prop}
theorem vr_ren1 (hφ : ∀ id v,φ id = some v → dom id → φ' (ρ id) = some v) (hD : ∀ d y,Pd d → Rd w ok d y → Rd w ok' d y) {x : V} {y : Value} (h : VR φ w ok x y) (ha : va1 Pd dom x) : VR φ' w ok' (ren1 ρ x) y:=by
  cases h with
  | d x y h=>exact .d _ _ (hD _ _ ha h)
  | nil=>exact .nil
  | sl id sz off len full u A c hid hc hf ha'=>exact .sl _ _ _ _ _ u A c (hφ _ _ hid ha) hc hf ha'
  | ptr id off b hid=>exact .ptr _ _ b (hφ _ _ hid ha)
  | ep id sz i c b n cap hid=>exact .ep _ _ _ _ b n cap (hφ _ _ hid ha)
  | slc id sz off len cap b n c hid hc=>exact .slc _ _ _ _ _ b n c (hφ _ _ hid ha) hc
  | mp id b hid=>exact .mp _ b (hφ _ _ hid ha)
  | bs id off len b hid=>exact .bs _ _ _ b (hφ _ _ hid ha)
  | es id sz i c len b n cap hid=>exact .es _ _ _ _ _ b n cap (hφ _ _ hid ha)
  | agg l cs hl h1 h=>exact ha.elim
  | tup l cs hl h=>exact ha.elim
  | junk y=>exact .junk y
theorem vr_ren2 (hφ : ∀ id v,φ id = some v → dom id → φ' (ρ id) = some v) (hD : ∀ d y,Pd d → Rd w ok d y → Rd w ok' d y) {x : V} {y : Value} (h : VR φ w ok x y) (ha : va2 Pd dom x) : VR φ' w ok' (ren2 ρ x) y:=by
  cases h with
  | agg l cs hl h1 h =>
    refine .agg _ _ (by simpa using hl) h1 fun j x y hx hy=>?_
    rw [List.getElem?_map] at hx
    obtain ⟨z,hz,rfl⟩:=Option.map_eq_some_iff.1 hx
    exact vr_ren1 hφ hD (h j z y hz hy) (ha z (List.mem_of_getElem? hz))
  | tup l cs hl h=>exact ha.elim
  | d x y h=>exact vr_ren1 hφ hD (.d x y h) ha
  | nil=>exact .nil
  | sl id sz off len full u A c hid hc hf ha'=>exact vr_ren1 hφ hD (.sl id sz off len full u A c hid hc hf ha') ha
  | ptr id off b hid=>exact vr_ren1 hφ hD (.ptr id off b hid) ha
  | ep id sz i c b n cap hid=>exact vr_ren1 hφ hD (.ep id sz i c b n cap hid) ha
  | slc id sz off len cap b n c hid hc=>exact vr_ren1 hφ hD (.slc id sz off len cap b n c hid hc) ha
  | mp id b hid=>exact vr_ren1 hφ hD (.mp id b hid) ha
  | bs id off len b hid=>exact vr_ren1 hφ hD (.bs id off len b hid) ha
  | es id sz i c len b n cap hid=>exact vr_ren1 hφ hD (.es id sz i c len b n cap hid) ha
  | junk y=>exact .junk y
theorem vr_ren (hφ : ∀ id v,φ id = some v → dom id → φ' (ρ id) = some v) (hD : ∀ d y,Pd d → Rd w ok d y → Rd w ok' d y) {x : V} {y : Value} (h : VR φ w ok x y) (ha : va Pd dom x) : VR φ' w ok' (ren ρ x) y:=by
  cases h with
  | tup l cs hl h =>
    refine .tup _ _ (by simpa using hl) fun j x y hx hy=>?_
    rw [List.getElem?_map] at hx
    obtain ⟨z,hz,rfl⟩:=Option.map_eq_some_iff.1 hx
    exact vr_ren2 hφ hD (h j z y hz hy) (ha z (List.mem_of_getElem? hz))
  | agg l cs hl h1 h=>exact vr_ren2 hφ hD (.agg l cs hl h1 h) ha
  | d x y h=>exact vr_ren1 hφ hD (.d x y h) ha
  | nil=>exact .nil
  | sl id sz off len full u A c hid hc hf ha'=>exact vr_ren1 hφ hD (.sl id sz off len full u A c hid hc hf ha') ha
  | ptr id off b hid=>exact vr_ren1 hφ hD (.ptr id off b hid) ha
  | ep id sz i c b n cap hid=>exact vr_ren1 hφ hD (.ep id sz i c b n cap hid) ha
  | slc id sz off len cap b n c hid hc=>exact vr_ren1 hφ hD (.slc id sz off len cap b n c hid hc) ha
  | mp id b hid=>exact vr_ren1 hφ hD (.mp id b hid) ha
  | bs id off len b hid=>exact vr_ren1 hφ hD (.bs id off len b hid) ha
  | es id sz i c len b n cap hid=>exact vr_ren1 hφ hD (.es id sz i c len b n cap hid) ha
  | junk y=>exact .junk y
theorem vr_back1 (hφ : ∀ id v,φ (ρ id) = some v → dom id → φ' id = some v) (hD : ∀ d y,Pd d → Rd w ok d y → Rd w ok' d y) {x : V} {y : Value} (h : VR φ w ok (ren1 ρ x) y) (ha : va1 Pd dom x) : VR φ' w ok' x y:=by
  cases x with
  | d x=>cases h with|d _ _ h=>exact .d _ _ (hD _ _ ha h)
  | nil=>cases h;exact .nil
  | sl id sz off len full=>cases h with|sl _ _ _ _ _ u A c hid hc hf ha'=>exact .sl _ _ _ _ _ u A c (hφ _ _ hid ha) hc hf ha'
  | ptr id off=>cases h with|ptr _ _ b hid=>exact .ptr _ _ b (hφ _ _ hid ha)
  | ep id sz i c=>cases h with|ep _ _ _ _ b n cap hid=>exact .ep _ _ _ _ b n cap (hφ _ _ hid ha)
  | slc id sz off len cap=>cases h with|slc _ _ _ _ _ b n c hid hc=>exact .slc _ _ _ _ _ b n c (hφ _ _ hid ha) hc
  | mp id=>cases h with|mp _ b hid=>exact .mp _ b (hφ _ _ hid ha)
  | bs id off len=>cases h with|bs _ _ _ b hid=>exact .bs _ _ _ b (hφ _ _ hid ha)
  | es id sz i c len=>cases h with|es _ _ _ _ _ b n cap hid=>exact .es _ _ _ _ _ b n cap (hφ _ _ hid ha)
  | agg l=>exact ha.elim
  | tup l=>exact ha.elim
  | junk=>exact .junk y
theorem vr_back2 (hφ : ∀ id v,φ (ρ id) = some v → dom id → φ' id = some v) (hD : ∀ d y,Pd d → Rd w ok d y → Rd w ok' d y) {x : V} {y : Value} (h : VR φ w ok (ren2 ρ x) y) (ha : va2 Pd dom x) : VR φ' w ok' x y:=by
  cases x with
  | agg l =>
    cases h with
    | agg _ cs hl h1 h =>
      refine .agg _ _ (by simpa using hl) h1 fun j x y hx hy=>?_
      exact vr_back1 hφ hD (h j (ren1 ρ x) y (by rw [List.getElem?_map,hx];rfl) hy) (ha x (List.mem_of_getElem? hx))
  | tup l=>exact ha.elim
  | d x=>exact vr_back1 hφ hD (x:=.d x) h ha
  | nil=>exact vr_back1 hφ hD (x:=.nil) h ha
  | sl a b c d e=>exact vr_back1 hφ hD (x:=.sl a b c d e) h ha
  | ptr a b=>exact vr_back1 hφ hD (x:=.ptr a b) h ha
  | ep a b c d=>exact vr_back1 hφ hD (x:=.ep a b c d) h ha
  | slc a b c d e=>exact vr_back1 hφ hD (x:=.slc a b c d e) h ha
  | mp a=>exact vr_back1 hφ hD (x:=.mp a) h ha
  | bs a b c=>exact vr_back1 hφ hD (x:=.bs a b c) h ha
  | es a b c d e=>exact vr_back1 hφ hD (x:=.es a b c d e) h ha
  | junk=>exact .junk y
theorem vr_back (hφ : ∀ id v,φ (ρ id) = some v → dom id → φ' id = some v) (hD : ∀ d y,Pd d → Rd w ok d y → Rd w ok' d y) {x : V} {y : Value} (h : VR φ w ok (ren ρ x) y) (ha : va Pd dom x) : VR φ' w ok' x y:=by
  cases x with
  | tup l =>
    cases h with
    | tup _ cs hl h =>
      refine .tup _ _ (by simpa using hl) fun j x y hx hy=>?_
      exact vr_back2 hφ hD (h j (ren2 ρ x) y (by rw [List.getElem?_map,hx];rfl) hy) (ha x (List.mem_of_getElem? hx))
  | agg l=>exact vr_back2 hφ hD (x:=.agg l) h ha
  | d x=>exact vr_back1 hφ hD (x:=.d x) h ha
  | nil=>exact vr_back1 hφ hD (x:=.nil) h ha
  | sl a b c d e=>exact vr_back1 hφ hD (x:=.sl a b c d e) h ha
  | ptr a b=>exact vr_back1 hφ hD (x:=.ptr a b) h ha
  | ep a b c d=>exact vr_back1 hφ hD (x:=.ep a b c d) h ha
  | slc a b c d e=>exact vr_back1 hφ hD (x:=.slc a b c d e) h ha
  | mp a=>exact vr_back1 hφ hD (x:=.mp a) h ha
  | bs a b c=>exact vr_back1 hφ hD (x:=.bs a b c) h ha
  | es a b c d e=>exact vr_back1 hφ hD (x:=.es a b c d e) h ha
  | junk=>exact .junk y
end
def tt (_ : D) : Prop:=True
def inDom (hp : List (Nat × Ob)) (id : Nat) : Prop:=go hp id ≠ none
structure Sub (ρ : Nat → Nat) (hp hp' : List (Nat × Ob)) : Prop where
  get : ∀ p ∈ hp',go hp (ρ p.1) = some (renO ρ p.2) ∧ vaO tt (inDom hp') p.2
  inj : ∀ p ∈ hp',∀ q ∈ hp',ρ p.1 = ρ q.1 → p.1 = q.1
  pin : ∀ id,1000000 ≤ id → go hp id ≠ none → ρ id = id ∧ go hp' id ≠ none
theorem go_mem : ∀ {l : List (Nat × Ob)} {id : Nat} {o : Ob},go l id = some o → (id,o) ∈ l
  | [],_,_,h=>by simp [go] at h
  | (k,x) :: r,id,o,h=>by
    simp only [go] at h
    split at h
    · rename_i e;subst e;cases h;simp
    · exact List.mem_cons_of_mem _ (go_mem h)
theorem Sub.hr {w0 w : World} {oa : OA} {φ : Nat → Option Value} {hp hp' : List (Nat × Ob)} {ρ : Nat → Nat} (h : HR w0 oa φ (go hp) w) (s : Sub ρ hp hp') :
    ∃ φ',HR w0 oa φ' (go hp') w ∧ (∀ b,okB w0 oa φ (go hp) w b → okB w0 oa φ' (go hp') w b) ∧ (∀ id v,φ (ρ id) = some v → inDom hp' id → φ' id = some v):=by
  have hφ' : ∀ id v,φ (ρ id) = some v → inDom hp' id → (fun id=>if go hp' id = none then none else φ (ρ id)) id = some v:=by
    intro id v hv hd
    show (if go hp' id = none then none else φ (ρ id)) = some v
    rw [if_neg hd];exact hv
  have hback : ∀ id v,(fun id=>if go hp' id = none then none else φ (ρ id)) id = some v → φ (ρ id) = some v:=by
    intro id v hv
    simp only at hv
    split at hv
    · cases hv
    · exact hv
  have hnd : ∀ {o : Ob},vaO tt (inDom hp') o → renO ρ o ≠ .dead:=by
    intro o ho
    cases o with
    | dead=>exact ho.elim
    | opq R=>simp [renO]
    | rowv e l=>simp [renO]
    | mp l=>simp [renO]
    | row e sz l=>simp [renO]
    | box l=>simp [renO]
  have hok : ∀ b,okB w0 oa φ (go hp) w b → okB w0 oa (fun id=>if go hp' id = none then none else φ (ρ id)) (go hp') w b:=by
    intro b hb
    refine ⟨hb.1,fun id o v ho hn hv=>?_⟩
    obtain ⟨g1,g2⟩:=s.get _ (go_mem ho)
    exact hb.2 (ρ id) _ v g1 (hnd g2) (hback _ _ hv)
  have hmine : ∀ id o v b,go hp' id = some o → o ≠ .dead → (fun id=>if go hp' id = none then none else φ (ρ id)) id = some v → blk v = some b → ours w0 oa b:=fun id o v b ho hn hv hb=>by
    obtain ⟨g1,g2⟩:=s.get _ (go_mem ho)
    exact h.mine (ρ id) _ v b g1 (hnd g2) (hback _ _ hv) hb
  have hpin : ∀ id v,oa.pin id = some v → 1000000 ≤ id ∧ go hp' id ≠ none ∧ ∀ o,go hp' id = some o → o ≠ .dead → (fun id=>if go hp' id = none then none else φ (ρ id)) id = some v:=fun id v hv=>by
    obtain ⟨g1,g2,g3⟩:=h.pin id v hv
    obtain ⟨k1,k2⟩:=s.pin id g1 g2
    refine ⟨g1,k2,fun o ho hn=>?_⟩
    obtain ⟨q1,q2⟩:=s.get _ (go_mem ho)
    refine hφ' id v ?_ k2
    rw [k1] at q1 ⊢
    exact g3 _ q1 (hnd q2)
  refine ⟨_,⟨h.below,fun id o ho=>?_,hmine,hpin,fun id hid=>?_,fun id id' o o' v v' ho ho' hn hn' hne hv hv'=>?_⟩,hok,hφ'⟩
  · obtain ⟨g1,g2⟩:=s.get _ (go_mem ho)
    have hd : inDom hp' id:=by unfold inDom;rw [ho];simp
    have hobj:=h.obj _ _ g1
    cases o with
    | dead=>trivial
    | opq R =>
      obtain ⟨b,x,hu,hh,hr⟩:=hobj
      exact ⟨b,x,hφ' _ _ hu hd,hh,hr⟩
    | rowv e l =>
      obtain ⟨u,cs,hu,hw,hl,h1,hr⟩:=hobj
      rw [List.length_map] at hw hl
      exact ⟨u,cs,hφ' _ _ hu hd,hw,hl,h1,fun j x y hx hy=>vr_back1 (Pd:=tt) (dom:=inDom hp') hφ' (fun d y _ hr=>hr.mono (fun _ _=>rfl) hok) (hr j (ren1 ρ x) y (by rw [List.getElem?_map,hx];rfl) hy) (g2 x (List.mem_of_getElem? hx))⟩
    | mp l =>
      obtain ⟨b,es,c,hu,hh,hl,hr⟩:=hobj
      exact ⟨b,es,c,hφ' _ _ hu hd,hh,hl,fun j k d en hx hy=>⟨(hr j k d en hx hy).1,(hr j k d en hx hy).2.mono (fun _ _=>rfl) hok⟩⟩
    | row e sz l =>
      obtain ⟨u,cs,hu,hs,hw,hr⟩:=hobj
      exact ⟨u,cs,hφ' _ _ hu hd,hs,hw,hr.mono (fun _ _=>rfl) hok⟩
    | box l =>
      obtain ⟨b,t,cs,hu,hb,hh,hl,h1,hr⟩:=hobj
      refine ⟨b,t,cs,hφ' _ _ hu hd,hb,hh,by simpa using hl,h1,fun j x y hx hy=>?_⟩
      exact vr_back1 (Pd:=tt) (dom:=inDom hp') hφ' (fun d y _ hr=>hr.mono (fun _ _=>rfl) hok) (hr j (ren1 ρ x) y (by rw [List.getElem?_map,hx];rfl) hy) (g2 x (List.mem_of_getElem? hx))
  · show (if go hp' id = none then none else φ (ρ id)) = none
    rw [if_pos hid]
  · obtain ⟨g1,g2⟩:=s.get _ (go_mem ho)
    obtain ⟨g1',g2'⟩:=s.get _ (go_mem ho')
    exact h.inj (ρ id) (ρ id') _ _ v v' g1 g1' (hnd g2) (hnd g2') (fun e=>hne (s.inj _ (go_mem ho) _ (go_mem ho') e)) (hback _ _ hv) (hback _ _ hv')
structure Wk (ρ : Nat → Nat) (st st' : St) : Prop where
  nt : st'.nt = st.nt
  tm : ∀ p ∈ st'.tm,p.2 = .junk ∨ (gt st.tm p.1 = ren ρ p.2 ∧ va tt (inDom st'.hp) p.2)
  hp : Sub ρ st.hp st'.hp
theorem gt_mem : ∀ {l : List (Nat × V)} {k : Nat},gt l k = .junk ∨ (k,gt l k) ∈ l
  | [],k=>.inl rfl
  | (j,x) :: r,k=>by
    simp only [gt]
    split
    · rename_i e;subst e;exact .inr (by simp)
    · exact (gt_mem (l:=r) (k:=k)).imp id (List.mem_cons_of_mem _)
theorem Wk.sr {ρ : Nat → Nat} {st st' : St} (h : Wk ρ st st') {w0 w : World} {oa : OA} {a : Act} (hs : SR w0 oa st a w) : SR w0 oa st' a w:=by
  obtain ⟨φ,hs⟩:=hs.open
  obtain ⟨φ',h1,h2,h3⟩:=h.hp.hr hs.hr
  refine ⟨φ',h1,by rw [h.nt];exact hs.sz,hs.df,fun k=>?_⟩
  rcases gt_mem (l:=st'.tm) (k:=k) with hj|hm
  · rw [hj];exact .junk _
  · rcases h.tm _ hm with hj|⟨he,ha⟩
    · have : gt st'.tm k = .junk:=hj
      rw [this];exact .junk _
    · have hv:=hs.tm k
      rw [show gt st.tm k = ren ρ (gt st'.tm k) from he] at hv
      exact vr_back h3 (fun d y _ hr=>hr.mono (fun _ _=>rfl) h2) hv ha
structure Out where
  val : V
  obs : List (Nat × Ob)
def Good (P : Program) (f : FuncId) (Sp : List D → Out → Prop) : Prop :=
  ∀ ds out,Sp ds out → ∀ (rd : Nat → Prop) (args : Array Value) (w : World),args.size = ds.length →
    (∀ (i : Nat) (d : D) (y : Value),ds[i]? = some d → args[i]? = some y → Rd w (fun b=>rd b ∧ b < w.heap.size) d y) →
    Calls P f args w fun e w'=>∃ y,e = .returned y ∧ ∃ φ,HR w (.no rd) φ (go out.obs) w' ∧ VR φ w' (okB w (.no rd) φ (go out.obs) w') out.val y
def Ent (P : Program) (f : FuncId) : Prop := ∃ fn, P.funcs[f]? = some fn ∧ fn.body.isSome = true ∧ (fn.name == "runtime.NumGoroutine") = false
def outA (Pd : D → Prop) (out : Out) : Prop:=va Pd (inDom out.obs) out.val ∧ ∀ p ∈ out.obs,vaO Pd (inDom out.obs) p.2
def shift (n : Nat) (i : Nat) : Nat:=n + 1000 * i
theorem go_app (l m : List (Nat × Ob)) (k : Nat) : go (l ++ m) k = match go l k with|some o=>some o|none=>go m k:=by
  induction l with
  | nil=>rfl
  | cons p r ih =>
    obtain ⟨j,x⟩:=p
    simp only [List.cons_append,go]
    split
    · rfl
    · exact ih
def renM (n : Nat) (m : List (Nat × Ob)) : List (Nat × Ob):=m.map fun p=>(shift n p.1,renO (shift n) p.2)
theorem go_renM (n : Nat) : ∀ (m : List (Nat × Ob)) (i : Nat),go (renM n m) (shift n i) = (go m i).map (renO (shift n))
  | [],i=>rfl
  | (k,x) :: r,i=>by
    have ih:=go_renM n r i
    simp only [renM,List.map_cons,go] at ih ⊢
    by_cases h : i = k
    · subst h;simp
    · rw [if_neg (fun e=>h (by simp only [shift] at e;omega)),if_neg h]
      exact ih
theorem go_renM_some (n : Nat) : ∀ (m : List (Nat × Ob)) (k : Nat) (o : Ob),go (renM n m) k = some o → ∃ i x,k = shift n i ∧ go m i = some x ∧ o = renO (shift n) x
  | [],k,o,h=>by simp [renM,go] at h
  | (j,x) :: r,k,o,h=>by
    simp only [renM,List.map_cons,go] at h
    split at h
    · rename_i e
      cases h
      exact ⟨j,x,e,by simp [go],rfl⟩
    · rename_i e
      obtain ⟨i,y,rfl,hy,rfl⟩:=go_renM_some n r k o h
      refine ⟨i,y,rfl,?_,rfl⟩
      simp only [go]
      rw [if_neg (fun e2=>e (by rw [e2]))]
      exact hy
theorem call_state {w0 w w' : World} {oa : OA} {rd : Nat → Prop} {φ φ1 : Nat → Option Value} {st : St} {a : Act} (h : SRp w0 oa φ st a w) {out : Out} {y : Value} {n : Nat} (hfr : ∀ p ∈ out.obs,go st.hp (shift n p.1) = none) {Pd : D → Prop} (hA : outA Pd out)
    (hlo : ∀ p ∈ out.obs,shift n p.1 < 1000000) (h1 : HR w (.no rd) φ1 (go out.obs) w') (hv : VR φ1 w' (okB w (.no rd) φ1 (go out.obs) w') out.val y)
    (hD : ∀ (ok : Nat → Prop),(∀ b,okB w (.no (okB w0 oa φ (go st.hp) w)) φ1 (go out.obs) w' b → ok b) → ∀ d z,Pd d → Rd w' (okB w (.no rd) φ1 (go out.obs) w') d z → Rd w' ok d z) :
    ∃ φ2,SRp w0 oa φ2 { st with hp:=renM n out.obs ++ st.hp } a w' ∧ VR φ2 w' (okB w0 oa φ2 (go (renM n out.obs ++ st.hp)) w') (ren (shift n) out.val) y:=by
  have hnone : ∀ i o,go out.obs i = some o → go st.hp (shift n i) = none:=fun i o ho=>hfr _ (go_mem ho)
  have hbw:=h1.below.below
  have hsh : ∀ i j,shift n i = shift n j → i = j:=by intro i j e;simp only [shift] at e;omega
  obtain ⟨φ2,hφ2⟩ : ∃ φ2 : Nat → Option Value,φ2 = fun k=>match φ k with|some v=>some v|none=>if go (renM n out.obs) k = none then none else φ1 ((k - n) / 1000):=⟨_,rfl⟩
  have hold : ∀ id v,φ id = some v → φ2 id = some v:=by intro id v hv;rw [hφ2];simp [hv]
  have hnew : ∀ i v,φ1 i = some v → inDom out.obs i → φ2 (shift n i) = some v:=by
    intro i v hv hd
    obtain ⟨o,ho⟩:=Option.ne_none_iff_exists'.1 hd
    have h0 : φ (shift n i) = none:=h.hr.fresh _ (hnone i o ho)
    have hg : go (renM n out.obs) (shift n i) ≠ none:=by rw [go_renM,ho];simp
    have he : (shift n i - n) / 1000 = i:=by simp only [shift];omega
    rw [hφ2]
    simp only [h0,if_neg hg,he,hv]
  have hnew' : ∀ i v o,go out.obs i = some o → φ2 (shift n i) = some v → φ1 i = some v:=by
    intro i v o ho hv
    have h0 : φ (shift n i) = none:=h.hr.fresh _ (hnone i o ho)
    have hg : go (renM n out.obs) (shift n i) ≠ none:=by rw [go_renM,ho];simp
    have he : (shift n i - n) / 1000 = i:=by simp only [shift];omega
    rw [hφ2] at hv
    simp only [h0,if_neg hg,he] at hv
    exact hv
  have hsplit : ∀ id o,go (renM n out.obs ++ st.hp) id = some o → go st.hp id = some o ∨ ∃ i x,id = shift n i ∧ go out.obs i = some x ∧ o = renO (shift n) x ∧ go st.hp id = none:=by
    intro id o ho
    rw [go_app] at ho
    split at ho
    · rename_i o' ho'
      cases ho
      obtain ⟨i,x,rfl,hx,rfl⟩:=go_renM_some n _ _ _ ho'
      exact .inr ⟨i,x,rfl,hx,rfl,hnone i x hx⟩
    · exact .inl ho
  have hnd : ∀ {i : Nat} {x : Ob},go out.obs i = some x → x ≠ .dead:=by
    intro i x hx he
    subst he
    exact hA.2 _ (go_mem hx)
  have hok : ∀ b,okB w (.no (okB w0 oa φ (go st.hp) w)) φ1 (go out.obs) w' b → okB w0 oa φ2 (go (renM n out.obs ++ st.hp)) w' b:=by
    intro b hb
    refine ⟨?_,fun id o v ho hne hv he=>?_⟩
    · rcases hb.1 with h3|h3
      · rcases (h3.1.resolve_right fun f=>f).1 with h4|h4
        · exact .inl h4
        · exact .inr ⟨h4.1,by have:=hbw.size;omega⟩
      · exact .inr ⟨by have:=h.hr.below.size;omega,h3.2⟩
    · rcases hsplit id o ho with h3|⟨i,x,rfl,hx,rfl,_⟩
      · obtain ⟨v0,hv0⟩:=h.hr.has id o h3 hne
        obtain rfl : v0 = v:=Option.some.inj ((hold _ _ hv0).symm.trans hv)
        have hlt:=(h.hr.blk_lt h3 hne hv0 he).2
        rcases hb.1 with h4|h4
        · exact (h4.1.resolve_right fun f=>f).2 id o v0 h3 hne hv0 he
        · omega
      · exact hb.2 i x v hx (hnd hx) (hnew' i v x hx hv) he
  have hDD:=hD _ hok
  have key:=HR.step (hp':=go (renM n out.obs ++ st.hp)) (φ':=φ2) (w':=w') h.hr (fun _=>False) hbw.size (h.hr.below.trans hbw) (fun b hb _=>hbw.block b hb) hold ?_ ?_ h.hr.has ?_ ?_ ?_
  · refine ⟨φ2,h.heap hold key,vr_ren hnew hDD hv hA.1⟩
  · intro id hid
    rw [go_app] at hid
    split at hid
    · cases hid
    · rename_i hn0
      rw [hφ2]
      simp only [h.hr.fresh id hid,hn0,if_true]
  · intro id o ho hne
    rcases hsplit id o ho with h3|⟨i,x,rfl,hx,rfl,hn0⟩
    · exact .inl ⟨h3,fun f=>f⟩
    · refine .inr ⟨fun v b hv hb=>.inl ?_,fun hc=>by rw [hn0] at hc;cases hc.1⟩
      exact (h1.blk_lt hx (hnd hx) (hnew' i v x hx hv) hb).1.resolve_right fun f=>f
  · intro id o ho hc
    rcases hsplit id o ho with h3|⟨i,x,rfl,hx,rfl,hn0⟩
    · exact absurd ⟨h3,fun f=>f⟩ hc
    · have hobj:=h1.obj i x hx
      have hd : inDom out.obs i:=by unfold inDom;rw [hx];simp
      have hax:=hA.2 _ (go_mem hx)
      cases x with
      | dead=>exact absurd rfl (hnd hx)
      | opq R =>
        obtain ⟨bb,z,hu,hh,hr⟩:=hobj
        exact ⟨bb,z,hnew _ _ hu hd,hh,hr⟩
      | rowv e l =>
        obtain ⟨u,cs,hu,hw,hl,ho1,hr⟩:=hobj
        refine ⟨u,cs,hnew _ _ hu hd,by rw [List.length_map];exact own_lower hw (Nat.zero_le _),by rw [List.length_map];exact hl,ho1,fun j x y hx' hy=>?_⟩
        rw [List.getElem?_map] at hx'
        obtain ⟨z,hz,rfl⟩:=Option.map_eq_some_iff.1 hx'
        exact vr_ren1 hnew hDD (hr j z y hz hy) (hax z (List.mem_of_getElem? hz))
      | mp l =>
        obtain ⟨bb,es,c,hu,hh,hl,hr⟩:=hobj
        exact ⟨bb,es,c,hnew _ _ hu hd,hh,hl,fun j k d en hx' hy=>⟨(hr j k d en hx' hy).1,hDD _ _ (hax _ (List.mem_of_getElem? hx')) (hr j k d en hx' hy).2⟩⟩
      | row e sz l =>
        obtain ⟨u,cs,hu,hs,hw,hr⟩:=hobj
        refine ⟨u,cs,hnew _ _ hu hd,hs,own_lower hw (Nat.zero_le _),hr.1,hr.2.1,hr.2.2.1,fun i' j d x' u' a b c=>?_⟩
        have hr0:=hr.2.2.2 i' j d x' u' a b c
        have hpd:=hax d (List.mem_of_getElem? a)
        by_cases hcell : d.cells = [d]
        · rw [hcell] at b
          cases j with
          | zero=>simp at b;subst b;exact hDD _ _ hpd hr0
          | succ j=>simp at b
        · cases d with
          | v z=>exact absurd rfl hcell
          | list z=>exact absurd rfl hcell
          | ref z=>exact absurd rfl hcell
          | agg z =>
            have hw1 : w'.heap.size = w'.heap.size:=rfl
            have hz : z.length = sz:=hr.2.2.1 _ (List.mem_of_getElem? a)
            have hi : i' < l.length:=(List.getElem?_eq_some_iff.1 a).1
            have hlt : ∀ k,k < sz → i' * sz + k < cs.length:=fun k hk=>by
              rw [hr.1]
              calc i' * sz + k < i' * sz + sz:=by omega
                _ = (i' + 1) * sz:=by rw [Nat.add_mul,Nat.one_mul]
                _ ≤ l.length * sz:=Nat.mul_le_mul_right _ hi
            have hagg : Rd w' (okB w (.no rd) φ1 (go out.obs) w') (.agg z) (.agg ((cs.drop (i' * sz)).take sz).toArray):=by
              refine .agg _ _ ?_ (fun k y' hy=>?_) (fun k d' y' hd' hy=>?_)
              · have:=hlt (sz - 1) (by omega)
                simp only [List.size_toArray,List.length_take,List.length_drop,hz]
                omega
              · simp only [List.getElem?_toArray,List.getElem?_take,List.getElem?_drop] at hy
                split at hy
                · exact hr.2.1 _ (List.mem_of_getElem? hy)
                · cases hy
              · simp only [List.getElem?_toArray,List.getElem?_take,List.getElem?_drop] at hy
                split at hy
                · exact hr.2.2.2 i' k _ d' y' a hd' hy
                · cases hy
            have h5:=hDD _ _ hpd hagg
            cases h5 with
            | agg _ _ _ _ h6 =>
              have hj : j < sz:=by rw [← hz];exact (List.getElem?_eq_some_iff.1 b).1
              exact h6 j x' u' b (by simp only [List.getElem?_toArray,List.getElem?_take,List.getElem?_drop,if_pos hj];exact c)
      | box l =>
        obtain ⟨bb,t,cs,hu,hb,hh,hl,ho1,hr⟩:=hobj
        refine ⟨bb,t,cs,hnew _ _ hu hd,Nat.zero_le _,hh,by simpa using hl,ho1,fun j x y hx' hy=>?_⟩
        rw [List.getElem?_map] at hx'
        obtain ⟨z,hz,rfl⟩:=Option.map_eq_some_iff.1 hx'
        exact vr_ren1 hnew hDD (hr j z y hz hy) (hax z (List.mem_of_getElem? hz))
  · intro id hid hne
    have hn0 : go (renM n out.obs) id = none:=by
      cases hg : go (renM n out.obs) id with
      | none=>rfl
      | some o =>
        obtain ⟨i,x,rfl,hx,rfl⟩:=go_renM_some n _ _ _ hg
        have:=hlo _ (go_mem hx)
        dsimp only at this
        omega
    have e0 : go (renM n out.obs ++ st.hp) id = go st.hp id:=by rw [go_app,hn0]
    rw [e0]
    exact ⟨hne,fun o ho hd e=>by rw [ho] at e;cases e;exact hd rfl⟩
  · intro id id' o1 o2 v v' ho1 ho2 hn1 hn2 hc hne hv hv'
    rcases hsplit id o1 ho1 with h3|⟨i,x,rfl,hx,rfl,hn0⟩
    · exact absurd ⟨h3,fun f=>f⟩ hc
    · have hv1:=hnew' i v x hx hv
      rcases hsplit id' o2 ho2 with h3|⟨i',x',rfl,hx',rfl,hn0'⟩
      · obtain ⟨v0,hv0⟩:=h.hr.has id' o2 h3 hn2
        obtain rfl : v0 = v':=Option.some.inj ((hold _ _ hv0).symm.trans hv')
        by_cases hb : blk v = none
        · exact .inl hb
        · refine .inr fun he=>?_
          obtain ⟨b,hb⟩:=Option.ne_none_iff_exists'.1 hb
          have e1:=(h1.blk_lt hx (hnd hx) hv1 hb).1.resolve_right fun f=>f
          have e2:=(h.hr.blk_lt h3 hn2 hv0 (he ▸ hb)).2
          omega
      · exact h1.inj i i' x x' v v' hx hx' (hnd hx) (hnd hx') (fun e=>hne (by rw [e])) hv1 (hnew' i' v' x' hx' hv')
end Go.Proofs.Ytleahjfgedfgmaa.Am
end
section
set_option linter.unusedVariables false
set_option linter.unusedSimpArgs false
namespace Go.Proofs.Ytleahjfgedfgmaa.Am
open Go Go.RowKit
def args (hp : List (Nat × Ob)) (st : St) : List Operand → Option (List D)
  | []=>some []
  | x :: r=>match toD hp (st.ev x) with
    | some d=>(args hp st r).map (d :: ·)
    | none=>none
theorem args_get {hp : List (Nat × Ob)} {st : St} : ∀ {l : List Operand} {ds : List D},args hp st l = some ds → ds.length = l.length ∧ ∀ (j : Nat) (x : Operand),l[j]? = some x → ∃ d,ds[j]? = some d ∧ toD hp (st.ev x) = some d
  | [],ds,h=>by simp only [args,Option.some.injEq] at h;subst h;simp
  | x :: r,ds,h=>by
    simp only [args] at h
    split at h
    · rename_i d hd
      obtain ⟨ds',hds,rfl⟩:=Option.map_eq_some_iff.1 h
      obtain ⟨hl,hh⟩:=args_get hds
      refine ⟨by simp [hl],fun j x' hx=>?_⟩
      cases j with
      | zero=>simp at hx;subst hx;exact ⟨d,rfl,hd⟩
      | succ j=>exact hh j x' (by simpa using hx)
    · cases h
def Scal' (d : D) : Prop:=Scal d
def pus (st : St) : List Operand → Bool
  | []=>true
  | x :: r=>pu (st.ev x) && pus st r
theorem pus_get {st : St} : ∀ {l : List Operand},pus st l = true → ∀ x ∈ l,pu (st.ev x) = true
  | [],_,x,hx=>by cases hx
  | y :: r,h,x,hx=>by
    simp only [pus,Bool.and_eq_true] at h
    rcases List.mem_cons.1 hx with rfl|hx
    · exact h.1
    · exact pus_get h.2 x hx
theorem toD_rd {w0 w : World} {oa : OA} {φ : Nat → Option Value} {hp : List (Nat × Ob)} (hr : HR w0 oa φ (go hp) w) {x : V} {y : Value} (hv : VR φ w (okB w0 oa φ (go hp) w) x y) {d : D} (h : toD hp x = some d) :
    Rd w (fun b=>b < w.heap.size) d y ∧ (pu x = true → Rd w (okB w0 oa φ (go hp) w) d y):=by
  cases x with
  | agg l =>
    simp only [toD] at h
    obtain ⟨ds,hds,rfl⟩:=Option.map_eq_some_iff.1 h
    obtain ⟨cs,rfl,hl,h1,hh⟩:=vr_agg hv
    obtain ⟨hdl,hdg⟩:=toDs_get hds
    have hget : ∀ (j : Nat) (d' : D),ds[j]? = some d' → ∃ hj : j < l.length,toD1 hp l[j] = some d':=by
      intro j d' hd'
      have hj : j < l.length:=by rw [← hdl];exact (List.getElem?_eq_some_iff.1 hd').1
      obtain ⟨d2,hd2,ht⟩:=hdg j l[j] (by simp)
      exact ⟨hj,by rw [ht,← hd2,hd']⟩
    refine ⟨.agg _ _ (by rw [hl,hdl]) h1 fun j d' y' hd' hy'=>?_,fun hp1=>.agg _ _ (by rw [hl,hdl]) h1 fun j d' y' hd' hy'=>?_⟩
    · obtain ⟨hj,ht⟩:=hget j d' hd'
      exact (toD1_rd hr (hh j l[j] y' (by simp) hy') ht).1
    · obtain ⟨hj,ht⟩:=hget j d' hd'
      exact (toD1_rd hr (hh j l[j] y' (by simp) hy') ht).2 (List.all_eq_true.1 hp1 _ (List.getElem_mem hj))
  | d x=>exact toD1_rd hr hv (x:=.d x) h
  | nil=>exact toD1_rd hr hv (x:=.nil) h
  | sl a b c e f=>exact toD1_rd hr hv (x:=.sl a b c e f) h
  | ptr a b=>exact toD1_rd hr hv (x:=.ptr a b) h
  | ep a b c e=>exact toD1_rd hr hv (x:=.ep a b c e) h
  | slc a b c e f=>exact toD1_rd hr hv (x:=.slc a b c e f) h
  | mp a=>exact toD1_rd hr hv (x:=.mp a) h
  | bs a b c=>exact toD1_rd hr hv (x:=.bs a b c) h
  | es a b c e f=>exact toD1_rd hr hv (x:=.es a b c e f) h
  | tup l=>exact toD1_rd hr hv (x:=.tup l) h
  | junk=>exact toD1_rd hr hv (x:=.junk) h
def freshL (n : Nat) (hp : List (Nat × Ob)) : List (Nat × Ob) → Prop
  | []=>True
  | p :: r=>(go hp (shift n p.1) = none ∧ shift n p.1 < 1000000) ∧ freshL n hp r
theorem freshL_get {n : Nat} {hp : List (Nat × Ob)} : ∀ {l : List (Nat × Ob)},freshL n hp l → ∀ p ∈ l,go hp (shift n p.1) = none ∧ shift n p.1 < 1000000
  | [],_,p,hp=>by cases hp
  | q :: r,h,p,hp=>by
    rcases List.mem_cons.1 hp with rfl|hp
    · exact h.1
    · exact freshL_get h.2 p hp
def vaOL (Pd : D → Prop) (dom : Nat → Prop) : List (Nat × Ob) → Prop
  | []=>True
  | p :: r=>vaO Pd dom p.2 ∧ vaOL Pd dom r
theorem vaOL_get {Pd : D → Prop} {dom : Nat → Prop} : ∀ {l : List (Nat × Ob)},vaOL Pd dom l → ∀ p ∈ l,vaO Pd dom p.2
  | [],_,p,hp=>by cases hp
  | q :: r,h,p,hp=>by
    rcases List.mem_cons.1 hp with rfl|hp
    · exact h.1
    · exact vaOL_get h.2 p hp
def outB (Pd : D → Prop) (out : Out) : Prop:=va Pd (inDom out.obs) out.val ∧ vaOL Pd (inDom out.obs) out.obs
theorem outB_A {Pd : D → Prop} {out : Out} (h : outB Pd out) : outA Pd out:=⟨h.1,vaOL_get h.2⟩
def e_call (Sp : FuncId → List D → Out → Prop) (f : FuncId) (xs : Array Operand) (o : Oper) (st : St) (K : V → List (Nat × Ob) → Prop) : Prop :=
  dOk o.dst st.nt ∧ match args st.hp st xs.toList with
  | some ds=>∃ out,Sp f ds out ∧ freshL (o.dst.getD 0) st.hp out.obs ∧ ((pus st xs.toList = true ∧ outB tt out) ∨ outB Scal' out) ∧
      K (ren (shift (o.dst.getD 0)) out.val) (renM (o.dst.getD 0) out.obs)
  | none=>False
theorem s_call {P : Program} {Sp : FuncId → List D → Out → Prop} (hG : ∀ f ds out,Sp f ds out → Ent P f ∧ Good P f (fun a b=>a = ds ∧ b = out)) {f : FuncId} {xs : Array Operand} {ts : Array TypeId} {o : Oper} {st : St} {K : St → Prop} (ho : o.op = .call { callee:=.value (.func f),args:=xs,argTypes:=ts })
    (h : e_call Sp f xs o st fun x ups=>K (st.upd o.dst x ups)) : Does P o st K:=by
  obtain ⟨hd,h⟩:=h
  split at h
  case h_2=>exact h.elim
  rename_i ds hds
  obtain ⟨out,hsp,hfr,hsh,hk⟩:=h
  have hfr:=freshL_get hfr
  replace hsh:=hsh.imp (fun h=>(⟨h.1,outB_A h.2⟩ : _ ∧ _)) outB_A
  obtain ⟨⟨fn,hfn,hbody,hname⟩,hgood⟩:=hG f ds out hsp
  obtain ⟨hal,hag⟩:=args_get hds
  intro w0 oa φ a w hs next Q hnext
  have hrun : (execOp a.eval o).run P w = .ok (.enter f (xs.map a.eval)) w:=by
    have hb : ¬ fn.body = none:=by cases hb : fn.body <;> simp [hb] at hbody ⊢
    have hnm : ¬ fn.name = "runtime.NumGoroutine" := by simpa using hname
    simp [execOp,ho,resolve,Act.eval,Deferred.ofValue,invoke,callFunc,hfn,hnm,hb]
  unfold Oper.wp
  rw [hrun]
  have hsz : (xs.map a.eval).size = ds.length:=by rw [hal];simp
  have hget : ∀ (i : Nat) (d : D) (y : Value),ds[i]? = some d → (xs.map a.eval)[i]? = some y → ∃ x ∈ xs.toList,y = a.eval x ∧ toD st.hp (st.ev x) = some d:=by
    intro i d y hd' hy
    have hi : i < xs.size:=by
      have:=(Array.getElem?_eq_some_iff.1 hy).1
      simpa using this
    obtain ⟨d2,hd2,ht⟩:=hag i xs[i] (by simp)
    have hy2 : y = a.eval xs[i]:=by simp at hy;obtain ⟨z,hz,rfl⟩:=hy;rw [Array.getElem?_eq_getElem hi] at hz;cases hz;rfl
    exact ⟨xs[i],by simp,hy2,by rw [ht,← hd2,hd']⟩
  show Calls P f (xs.map a.eval) w _
  rcases hsh with ⟨hpu,hA⟩|hA
  · refine (hgood ds out ⟨rfl,rfl⟩ (okB w0 oa φ (go st.hp) w) (xs.map a.eval) w hsz (fun i d y hd' hy=>?_)).mono fun e w' he=>?_
    · obtain ⟨x,hx,rfl,ht⟩:=hget i d y hd' hy
      exact ((toD_rd hs.hr (hs.ev x) ht).2 (pus_get hpu x hx)).mono (fun _ _=>rfl) (fun b hb=>⟨hb,okB_lt hs.hr.below.size hb⟩)
    · obtain ⟨y,rfl,φ1,h1,h2⟩:=he
      obtain ⟨φ2,hs2,hv2⟩:=call_state hs (fun p hp=>(hfr p hp).1) hA (fun p hp=>(hfr p hp).2) h1 h2 (fun ok hok d z _ hr=>hr.mono (fun _ _=>rfl) hok)
      exact hnext _ _ _ hk (hs2.put o.dst hd hv2).sr
  · refine (hgood ds out ⟨rfl,rfl⟩ (fun _=>True) (xs.map a.eval) w hsz (fun i d y hd' hy=>?_)).mono fun e w' he=>?_
    · obtain ⟨x,hx,rfl,ht⟩:=hget i d y hd' hy
      exact (toD_rd hs.hr (hs.ev x) ht).1.mono (fun _ _=>rfl) (fun b hb=>⟨trivial,hb⟩)
    · obtain ⟨y,rfl,φ1,h1,h2⟩:=he
      obtain ⟨φ2,hs2,hv2⟩:=call_state hs (fun p hp=>(hfr p hp).1) hA (fun p hp=>(hfr p hp).2) h1 h2 (fun ok hok d z hsc hr=>hr.scal hsc)
      exact hnext _ _ _ hk (hs2.put o.dst hd hv2).sr
def idsA (st : St) : List Operand → List Nat
  | []=>[]
  | x :: r=>idsW (st.ev x) ++ idsA st r
theorem idsA_mem {st : St} : ∀ {l : List Operand} {x : Operand},x ∈ l → ∀ id ∈ idsW (st.ev x),id ∈ idsA st l
  | [],_,h=>by cases h
  | y :: r,x,h=>fun id hid=>by
    simp only [idsA,List.mem_append]
    rcases List.mem_cons.1 h with rfl|h
    · exact .inl hid
    · exact .inr (idsA_mem h id hid)
theorem idsA_own {st : St} : ∀ {l : List Operand} {ds : List D},args st.hp st l = some ds → ∀ id ∈ idsA st l,go st.hp id ≠ none
  | [],_,_,id,h=>by cases h
  | x :: r,ds,ha,id,h=>by
    simp only [args] at ha
    split at ha
    · rename_i d hd
      obtain ⟨ds',hds,rfl⟩:=Option.map_eq_some_iff.1 ha
      simp only [idsA,List.mem_append] at h
      rcases h with h|h
      · exact toD_ids hd id h
      · exact idsA_own hds id h
    · cases ha
def e_callF (Sp : FuncId → List D → Out → Prop) (f : FuncId) (xs : Array Operand) (o : Oper) (st : St) (K : V → List (Nat × Ob) → Prop) : Prop :=
  dOk o.dst st.nt ∧ match args st.hp st xs.toList with
  | some ds=>∃ out,Sp f ds out ∧ freshL (o.dst.getD 0) (killL st.hp (idsA st xs.toList)) out.obs ∧ outB tt out ∧
      K (ren (shift (o.dst.getD 0)) out.val) (renM (o.dst.getD 0) out.obs ++ (idsA st xs.toList).map fun i=>(i,.dead))
  | none=>False
theorem s_callF {P : Program} {Sp : FuncId → List D → Out → Prop} (hG : ∀ f ds out,Sp f ds out → Ent P f ∧ Good P f (fun a b=>a = ds ∧ b = out)) {f : FuncId} {xs : Array Operand} {ts : Array TypeId} {o : Oper} {st : St} {K : St → Prop} (ho : o.op = .call { callee:=.value (.func f),args:=xs,argTypes:=ts })
    (h : e_callF Sp f xs o st fun x ups=>K (st.upd o.dst x ups)) : Does P o st K:=by
  obtain ⟨hd,h⟩:=h
  split at h
  case h_2=>exact h.elim
  rename_i ds hds
  obtain ⟨out,hsp,hfr,hA,hk⟩:=h
  have hfr:=freshL_get hfr
  replace hA:=outB_A hA
  have hids:=idsA_own hds
  obtain ⟨⟨fn,hfn,hbody,hname⟩,hgood⟩:=hG f ds out hsp
  obtain ⟨hal,hag⟩:=args_get hds
  intro w0 oa φ a w hs next Q hnext
  have hrun : (execOp a.eval o).run P w = .ok (.enter f (xs.map a.eval)) w:=by
    have hb : ¬ fn.body = none:=by cases hb : fn.body <;> simp [hb] at hbody ⊢
    have hnm : ¬ fn.name = "runtime.NumGoroutine" := by simpa using hname
    simp [execOp,ho,resolve,Act.eval,Deferred.ofValue,invoke,callFunc,hfn,hnm,hb]
  unfold Oper.wp
  rw [hrun]
  have hsz : (xs.map a.eval).size = ds.length:=by rw [hal];simp
  have hget : ∀ (i : Nat) (d : D) (y : Value),ds[i]? = some d → (xs.map a.eval)[i]? = some y → ∃ x ∈ xs.toList,y = a.eval x ∧ toD st.hp (st.ev x) = some d:=by
    intro i d y hd' hy
    have hi : i < xs.size:=by
      have:=(Array.getElem?_eq_some_iff.1 hy).1
      simpa using this
    obtain ⟨d2,hd2,ht⟩:=hag i xs[i] (by simp)
    have hy2 : y = a.eval xs[i]:=by simp at hy;obtain ⟨z,hz,rfl⟩:=hy;rw [Array.getElem?_eq_getElem hi] at hz;cases hz;rfl
    exact ⟨xs[i],by simp,hy2,by rw [ht,← hd2,hd']⟩
  show Calls P f (xs.map a.eval) w _
  have hs1:=hs.kill (idsA st xs.toList) hids
  refine (hgood ds out ⟨rfl,rfl⟩ (okB w0 oa φ (go (killL st.hp (idsA st xs.toList))) w) (xs.map a.eval) w hsz (fun i d y hd' hy=>?_)).mono fun e w' he=>?_
  · obtain ⟨x,hx,rfl,ht⟩:=hget i d y hd' hy
    exact (toD_kill hs.hr hids (hs.ev x) ht (idsA_mem hx)).mono (fun _ _=>rfl) (fun b hb=>⟨hb,okB_lt hs1.hr.below.size hb⟩)
  · obtain ⟨y,rfl,φ1,h1,h2⟩:=he
    obtain ⟨φ2,hs2,hv2⟩:=call_state hs1 (fun p hp=>(hfr p hp).1) hA (fun p hp=>(hfr p hp).2) h1 h2 (fun ok hok d z _ hr=>hr.mono (fun _ _=>rfl) hok)
    refine hnext _ _ _ hk ?_
    have h3:=(hs2.put o.dst hd hv2).sr
    simp only [St.upd,killL_eq,List.append_assoc] at h3 ⊢
    exact h3
def GoodM (P : Program) (f : FuncId) (Sp : List V → List (Nat × Ob) → Out → Prop) : Prop :=
  ∀ as lent out,Sp as lent out → ∀ (oa : OA) (φ0 : Nat → Option Value) (args : Array Value) (w : World),args.size = as.length → HR w oa φ0 (go lent) w →
    (∀ (i : Nat) (x : V) (y : Value),as[i]? = some x → args[i]? = some y → VR φ0 w (okB w oa φ0 (go lent) w) x y) →
    Calls P f args w fun e w'=>∃ y,e = .returned y ∧ ∃ φ,HR w oa φ (go out.obs) w' ∧ VR φ w' (okB w oa φ (go out.obs) w') out.val y
def nm : List (Nat × Nat) → Nat → Nat
  | [],k=>k
  | (a,b) :: r,k=>if k = a then b else nm r k
def shM (σ : Nat → Nat) (n k : Nat) : Nat:=if 1000000 ≤ k then σ k else shift n k
def memN (k : Nat) : List Nat → Prop
  | []=>False
  | x :: r=>if k = x then True else memN k r
theorem memN_mem {k : Nat} : ∀ {l : List Nat},memN k l → k ∈ l
  | [],h=>h.elim
  | x :: r,h=>by
    simp only [memN] at h
    split at h
    · rename_i e;simp [e]
    · exact List.mem_cons_of_mem _ (memN_mem h)
theorem mem_memN {k : Nat} : ∀ {l : List Nat},k ∈ l → memN k l
  | [],h=>by cases h
  | x :: r,h=>by
    simp only [memN]
    split
    · trivial
    · rename_i e;exact mem_memN ((List.mem_cons.1 h).resolve_left e)
def addN : List Nat → List Nat → List Nat
  | [],acc=>acc
  | k :: r,acc=>addN r (addN1 k acc)
where addN1 (k : Nat) : List Nat → List Nat
  | []=>[k]
  | x :: r=>if k = x then x :: r else x :: addN1 k r
def own1 : V → List Nat
  | .sl id _ _ _ _=>[id]
  | .ptr id _=>[id]
  | .ep id _ _ _=>[id]
  | .slc id _ _ _ _=>[id]
  | .mp id=>[id]
  | .bs id _ _=>[id]
  | .es id _ _ _ _=>[id]
  | _=>[]
def own1L : List V → List Nat
  | []=>[]
  | x :: r=>own1 x ++ own1L r
def ownO : Option Ob → List Nat
  | some (.box l)=>own1L l
  | some (.rowv _ l)=>own1L l
  | _=>[]
def ownOL (hp : List (Nat × Ob)) : List Nat → List Nat
  | []=>[]
  | k :: r=>ownO (go hp k) ++ ownOL hp r
def lv (b : Bool) : V → Option Nat
  | .ptr id _=>some id
  | .sl id _ _ _ _=>if b = true then some id else none
  | .slc id _ _ _ _=>if b = true then some id else none
  | _=>none
def ptrs (b : Bool) (st : St) : List Operand → List Nat
  | []=>[]
  | x :: r=>(match lv b (st.ev x) with|some id=>[id]|none=>[]) ++ ptrs b st r
def lends (b : Bool) (st : St) (xs : List Operand) : List Nat :=
  let a:=addN (ptrs b st xs) []
  let b:=addN (ownOL st.hp a) a
  addN (ownOL st.hp b) b
def argM (b : Bool) (hp : List (Nat × Ob)) (τ : Nat → Nat) (x : V) : Option V :=
  match lv b x with
  | some _=>some (ren1 τ x)
  | none=>(toD hp x).map ofD
def argsM (b : Bool) (st : St) (τ : Nat → Nat) : List Operand → Option (List V)
  | []=>some []
  | x :: r=>match argM b st.hp τ (st.ev x) with
    | some a=>(argsM b st τ r).map (a :: ·)
    | none=>none
def pusM (b : Bool) (st : St) : List Operand → Bool
  | []=>true
  | x :: r=>(match lv b (st.ev x) with|some _=>true|none=>pu (st.ev x)) && pusM b st r
def idsL (b : Bool) (st : St) : List Operand → List Nat
  | []=>[]
  | x :: r=>(match lv b (st.ev x) with|some _=>[]|none=>idsW (st.ev x)) ++ idsL b st r
def lentM (hp : List (Nat × Ob)) (τ : Nat → Nat) : List Nat → List (Nat × Ob)
  | []=>[]
  | k :: r=>(match go hp k with|some o=>(τ k,renO τ o)|none=>(τ k,.dead)) :: lentM hp τ r
def lentOk (hp : List (Nat × Ob)) (σ τ : Nat → Nat) (ids : List Nat) : List Nat → Prop
  | []=>True
  | k :: r=>((match go hp k with|some o=>vaO tt (fun i=>memN i ids) o|none=>False) ∧ σ (τ k) = k) ∧ lentOk hp σ τ ids r
theorem lentOk_get {hp : List (Nat × Ob)} {σ τ : Nat → Nat} {ids : List Nat} : ∀ {l : List Nat},lentOk hp σ τ ids l → ∀ k ∈ l,(∃ o,go hp k = some o ∧ vaO tt (fun i=>memN i ids) o) ∧ σ (τ k) = k
  | [],_,k,h=>by cases h
  | x :: r,h,k,hk=>by
    rcases List.mem_cons.1 hk with rfl|hk
    · refine ⟨?_,h.1.2⟩
      have h1:=h.1.1
      split at h1
      · rename_i o ho;exact ⟨o,ho,h1⟩
      · exact h1.elim
    · exact lentOk_get h.2 k hk
theorem go_lentM {hp : List (Nat × Ob)} {σ τ : Nat → Nat} : ∀ {ids : List Nat},(∀ k ∈ ids,(∃ o,go hp k = some o) ∧ σ (τ k) = k) → ∀ (i : Nat) (o' : Ob),go (lentM hp τ ids) i = some o' ↔ ∃ k ∈ ids,i = τ k ∧ ∃ o,go hp k = some o ∧ o' = renO τ o
  | [],_,i,o'=>by simp [lentM,go]
  | k :: r,h,i,o'=>by
    have ih:=go_lentM (ids:=r) (fun k hk=>h k (List.mem_cons_of_mem _ hk)) i o'
    obtain ⟨⟨o,ho⟩,hst⟩:=h k (by simp)
    simp only [lentM,ho,go]
    by_cases e : i = τ k
    · rw [if_pos e]
      constructor
      · intro h1;cases h1;exact ⟨k,by simp,e,o,ho,rfl⟩
      · rintro ⟨k2,hk2,e2,o2,ho2,rfl⟩
        have : k2 = k:=by rw [← (h k2 hk2).2,← e2,e,hst]
        subst this
        rw [ho] at ho2;cases ho2;rfl
    · rw [if_neg e,ih]
      constructor
      · rintro ⟨k2,hk2,h2⟩;exact ⟨k2,List.mem_cons_of_mem _ hk2,h2⟩
      · rintro ⟨k2,hk2,e2,h2⟩
        rcases List.mem_cons.1 hk2 with rfl|hk2
        · exact absurd e2 e
        · exact ⟨k2,hk2,e2,h2⟩
def renMM (σ : Nat → Nat) (n : Nat) (m : List (Nat × Ob)) : List (Nat × Ob):=m.map fun p=>(shM σ n p.1,renO (shM σ n) p.2)
def deadM (τ : Nat → Nat) : List Nat → List (Nat × Ob)
  | []=>[]
  | k :: r=>if 1000000 ≤ τ k then deadM τ r else (k,.dead) :: deadM τ r
theorem go_deadM {τ : Nat → Nat} : ∀ (ids : List Nat) (k : Nat),go (deadM τ ids) k = if k ∈ ids ∧ τ k < 1000000 then some .dead else none
  | [],k=>by simp [deadM,go]
  | x :: r,k=>by
    have ih:=go_deadM (τ:=τ) r k
    simp only [deadM]
    split
    · rename_i h1
      rw [ih]
      by_cases e : k = x
      · subst e;simp [show ¬ τ k < 1000000 by omega]
      · simp [e]
    · rename_i h1
      simp only [go]
      by_cases e : k = x
      · subst e;simp;omega
      · simp [e,ih]
def outM (Pd : D → Prop) (hp : List (Nat × Ob)) (σ τ : Nat → Nat) (ids : List Nat) (n : Nat) (dom : Nat → Prop) : List (Nat × Ob) → Prop
  | []=>True
  | p :: r=>((if 1000000 ≤ p.1 then memN (σ p.1) ids ∧ τ (σ p.1) = p.1 else go hp (shift n p.1) = none ∧ shift n p.1 < 1000000) ∧ vaO Pd dom p.2) ∧ outM Pd hp σ τ ids n dom r
theorem outM_get {Pd : D → Prop} {hp : List (Nat × Ob)} {σ τ : Nat → Nat} {ids : List Nat} {n : Nat} {dom : Nat → Prop} : ∀ {l : List (Nat × Ob)},outM Pd hp σ τ ids n dom l → ∀ p ∈ l,(1000000 ≤ p.1 → σ p.1 ∈ ids ∧ τ (σ p.1) = p.1) ∧ (p.1 < 1000000 → go hp (shift n p.1) = none ∧ shift n p.1 < 1000000) ∧ vaO Pd dom p.2
  | [],_,p,h=>by cases h
  | q :: r,h,p,hp'=>by
    rcases List.mem_cons.1 hp' with rfl|hp'
    · have h1:=h.1.1
      refine ⟨fun hle=>?_,fun hlt=>?_,h.1.2⟩
      · rw [if_pos hle] at h1;exact ⟨memN_mem h1.1,h1.2⟩
      · rw [if_neg (by omega)] at h1;exact h1
    · exact outM_get h.2 p hp'
def OA.lent (rd : Nat → Prop) (φ : Nat → Option Value) (ids : List Nat) (φ0 : Nat → Option Value) : OA :=
  ⟨rd,fun b=>∃ id ∈ ids,∃ v,φ id = some v ∧ blk v = some b,fun k=>if 1000000 ≤ k then φ0 k else none⟩
def phi0 (φ : Nat → Option Value) (σ τ : Nat → Nat) (ids : List Nat) (k : Nat) : Option Value:=if σ k ∈ ids ∧ τ (σ k) = k then φ (σ k) else none
theorem phi0_τ {φ : Nat → Option Value} {σ τ : Nat → Nat} {ids : List Nat} {k : Nat} (hk : k ∈ ids) (h : σ (τ k) = k) : phi0 φ σ τ ids (τ k) = φ k:=by
  unfold phi0;rw [h,if_pos ⟨hk,rfl⟩]
theorem HR.lend {w0 w : World} {oa : OA} {φ : Nat → Option Value} {hp : List (Nat × Ob)} (h : HR w0 oa φ (go hp) w) {σ τ : Nat → Nat} {ids : List Nat} (hl : ∀ k ∈ ids,(∃ o,go hp k = some o ∧ vaO tt (fun i=>memN i ids) o) ∧ σ (τ k) = k) {rd : Nat → Prop}
    (hrd : ∀ b,okB w0 oa φ (go hp) w b → rd b) :
    HR w (.lent rd φ ids (phi0 φ σ τ ids)) (phi0 φ σ τ ids) (go (lentM hp τ ids)) w ∧ ∀ b,okB w0 oa φ (go hp) w b → okB w (.lent rd φ ids (phi0 φ σ τ ids)) (phi0 φ σ τ ids) (go (lentM hp τ ids)) w b:=by
  have hgo:=go_lentM (hp:=hp) (σ:=σ) (τ:=τ) (ids:=ids) fun k hk=>⟨(hl k hk).1.imp fun o ho=>ho.1,(hl k hk).2⟩
  have hnd : ∀ {k : Nat} {o : Ob},k ∈ ids → go hp k = some o → o ≠ .dead:=by
    intro k o hk ho e
    subst e
    obtain ⟨o2,ho2,hv⟩:=(hl k hk).1
    rw [ho] at ho2;cases ho2;exact hv
  have hok : ∀ b,okB w0 oa φ (go hp) w b → okB w (.lent rd φ ids (phi0 φ σ τ ids)) (phi0 φ σ τ ids) (go (lentM hp τ ids)) w b:=by
    intro b hb
    refine ⟨.inl ⟨.inl (hrd b hb),okB_lt h.below.size hb⟩,fun id o v ho hn hv=>?_⟩
    obtain ⟨k,hk,rfl,o2,ho2,rfl⟩:=(hgo id o).1 ho
    rw [phi0_τ hk (hl k hk).2] at hv
    exact hb.2 k o2 v ho2 (hnd hk ho2) hv
  have hφ : ∀ id v,φ id = some v → memN id ids → phi0 φ σ τ ids (τ id) = some v:=fun id v hv hm=>by rw [phi0_τ (memN_mem hm) (hl id (memN_mem hm)).2];exact hv
  refine ⟨⟨Bel.refl _ _,fun id o ho=>?_,fun id o v b ho hn hv hb=>?_,fun id v hv=>?_,fun id hid=>?_,fun id id' o o' v v' ho ho' hn hn' hne hv hv'=>?_⟩,hok⟩
  · obtain ⟨k,hk,rfl,o2,ho2,rfl⟩:=(hgo id o).1 ho
    have hobj:=h.obj k o2 ho2
    obtain ⟨⟨o3,ho3,hva⟩,hst⟩:=hl k hk
    rw [ho2] at ho3;cases ho3
    cases o2 with
    | dead=>trivial
    | opq R=>obtain ⟨b,x,hu,hh,hr⟩:=hobj;exact ⟨b,x,hφ _ _ hu (mem_memN hk),hh,hr⟩
    | rowv e l =>
      obtain ⟨u,cs,hu,hw,hl2,h1,hr⟩:=hobj
      refine ⟨u,cs,hφ _ _ hu (mem_memN hk),by rw [List.length_map];exact hw,by rw [List.length_map];exact hl2,h1,fun j x y hx hy=>?_⟩
      rw [List.getElem?_map] at hx
      obtain ⟨z,hz,rfl⟩:=Option.map_eq_some_iff.1 hx
      exact vr_ren1 (Pd:=tt) hφ (fun d y _ hr=>hr.mono (fun _ _=>rfl) hok) (hr j z y hz hy) (hva z (List.mem_of_getElem? hz))
    | mp l =>
      obtain ⟨b,es,c,hu,hh,hl2,hr⟩:=hobj
      exact ⟨b,es,c,hφ _ _ hu (mem_memN hk),hh,hl2,fun j k d en hx hy=>⟨(hr j k d en hx hy).1,(hr j k d en hx hy).2.mono (fun _ _=>rfl) hok⟩⟩
    | row e sz l=>obtain ⟨u,cs,hu,hs,hw,hr⟩:=hobj;exact ⟨u,cs,hφ _ _ hu (mem_memN hk),hs,hw,hr.mono (fun _ _=>rfl) hok⟩
    | box l =>
      obtain ⟨b,t,cs,hu,hb,hh,hl2,h1,hr⟩:=hobj
      refine ⟨b,t,cs,hφ _ _ hu (mem_memN hk),hb,hh,by simpa using hl2,h1,fun j x y hx hy=>?_⟩
      rw [List.getElem?_map] at hx
      obtain ⟨z,hz,rfl⟩:=Option.map_eq_some_iff.1 hx
      exact vr_ren1 (Pd:=tt) hφ (fun d y _ hr=>hr.mono (fun _ _=>rfl) hok) (hr j z y hz hy) (hva z (List.mem_of_getElem? hz))
  · obtain ⟨k,hk,rfl,o2,ho2,rfl⟩:=(hgo id o).1 ho
    rw [phi0_τ hk (hl k hk).2] at hv
    exact .inr ⟨k,hk,v,hv,hb⟩
  · simp only [OA.lent] at hv
    split at hv
    · rename_i hle
      refine ⟨hle,?_,fun _ _ _=>hv⟩
      unfold phi0 at hv
      split at hv
      · rename_i hc
        obtain ⟨⟨o,ho,_⟩,_⟩:=hl _ hc.1
        have:=(hgo id (renO τ o)).2 ⟨σ id,hc.1,hc.2.symm,o,ho,rfl⟩
        rw [this];simp
      · cases hv
    · cases hv
  · unfold phi0
    rw [if_neg]
    rintro ⟨h1,h2⟩
    obtain ⟨⟨o,ho,_⟩,_⟩:=hl _ h1
    have:=(hgo id (renO τ o)).2 ⟨σ id,h1,h2.symm,o,ho,rfl⟩
    rw [hid] at this;cases this
  · obtain ⟨k,hk,rfl,o2,ho2,rfl⟩:=(hgo id o).1 ho
    obtain ⟨k',hk',rfl,o2',ho2',rfl⟩:=(hgo id' o').1 ho'
    rw [phi0_τ hk (hl k hk).2] at hv
    rw [phi0_τ hk' (hl k' hk').2] at hv'
    exact h.inj k k' o2 o2' v v' ho2 ho2' (hnd hk ho2) (hnd hk' ho2') (fun e=>hne (by rw [e])) hv hv'
theorem rw_D {w : World} {ok ok' : Nat → Prop} {Pd : D → Prop} {sz : Nat} {l : List D} {cs : List Value} (hs : 0 < sz) (hDD : ∀ d z,Pd d → Rd w ok d z → Rd w ok' d z) (hax : ∀ d ∈ l,Pd d) (hr : Rw w ok sz l cs) : Rw w ok' sz l cs:=by
  refine ⟨hr.1,hr.2.1,hr.2.2.1,fun i' j d x' u' a b c=>?_⟩
  have hr0:=hr.2.2.2 i' j d x' u' a b c
  have hpd:=hax d (List.mem_of_getElem? a)
  by_cases hcell : d.cells = [d]
  · rw [hcell] at b
    cases j with
    | zero=>simp at b;subst b;exact hDD _ _ hpd hr0
    | succ j=>simp at b
  · cases d with
    | v z=>exact absurd rfl hcell
    | list z=>exact absurd rfl hcell
    | ref z=>exact absurd rfl hcell
    | agg z =>
      have hz : z.length = sz:=hr.2.2.1 _ (List.mem_of_getElem? a)
      have hi : i' < l.length:=(List.getElem?_eq_some_iff.1 a).1
      have hlt : ∀ k,k < sz → i' * sz + k < cs.length:=fun k hk=>by
        rw [hr.1]
        calc i' * sz + k < i' * sz + sz:=by omega
          _ = (i' + 1) * sz:=by rw [Nat.add_mul,Nat.one_mul]
          _ ≤ l.length * sz:=Nat.mul_le_mul_right _ hi
      have hagg : Rd w ok (.agg z) (.agg ((cs.drop (i' * sz)).take sz).toArray):=by
        refine .agg _ _ ?_ (fun k y' hy=>?_) (fun k d' y' hd' hy=>?_)
        · have:=hlt (sz - 1) (by omega)
          simp only [List.size_toArray,List.length_take,List.length_drop,hz]
          omega
        · simp only [List.getElem?_toArray,List.getElem?_take,List.getElem?_drop] at hy
          split at hy
          · exact hr.2.1 _ (List.mem_of_getElem? hy)
          · cases hy
        · simp only [List.getElem?_toArray,List.getElem?_take,List.getElem?_drop] at hy
          split at hy
          · exact hr.2.2.2 i' k _ d' y' a hd' hy
          · cases hy
      have h5:=hDD _ _ hpd hagg
      cases h5 with
      | agg _ _ _ _ h6 =>
        have hj : j < sz:=by rw [← hz];exact (List.getElem?_eq_some_iff.1 b).1
        exact h6 j x' u' b (by simp only [List.getElem?_toArray,List.getElem?_take,List.getElem?_drop,if_pos hj];exact c)
theorem call_stateM {w0 w w' : World} {oa : OA} {rd : Nat → Prop} {φ φ1 : Nat → Option Value} {st : St} {a : Act} (h : SRp w0 oa φ st a w) {out : Out} {y : Value} {n : Nat} {σ τ : Nat → Nat} {ids : List Nat}
    (hl : ∀ k ∈ ids,(∃ o,go st.hp k = some o ∧ vaO tt (fun i=>memN i ids) o) ∧ σ (τ k) = k) {Pd : D → Prop} (hva : va Pd (inDom out.obs) out.val)
    (ho : ∀ p ∈ out.obs,(1000000 ≤ p.1 → σ p.1 ∈ ids ∧ τ (σ p.1) = p.1) ∧ (p.1 < 1000000 → go st.hp (shift n p.1) = none ∧ shift n p.1 < 1000000) ∧ vaO Pd (inDom out.obs) p.2)
    (h1 : HR w (.lent rd φ ids (phi0 φ σ τ ids)) φ1 (go out.obs) w') (hv : VR φ1 w' (okB w (.lent rd φ ids (phi0 φ σ τ ids)) φ1 (go out.obs) w') out.val y)
    (hD : ∀ (ok : Nat → Prop),(∀ b,okB w (.lent (okB w0 oa φ (go st.hp) w) φ ids (phi0 φ σ τ ids)) φ1 (go out.obs) w' b → ok b) → ∀ d z,Pd d → Rd w' (okB w (.lent rd φ ids (phi0 φ σ τ ids)) φ1 (go out.obs) w') d z → Rd w' ok d z) :
    ∃ φ2,SRp w0 oa φ2 { st with hp:=renMM σ n out.obs ++ deadM τ ids ++ st.hp } a w' ∧ VR φ2 w' (okB w0 oa φ2 (go (renMM σ n out.obs ++ deadM τ ids ++ st.hp)) w') (ren (shM σ n) out.val) y:=by
  have hbs:=h1.below.size
  have hnd1 : ∀ {i : Nat} {x : Ob},go out.obs i = some x → x ≠ .dead:=by
    intro i x hx he
    subst he
    exact (ho _ (go_mem hx)).2.2
  have hndI : ∀ {k : Nat} {o : Ob},k ∈ ids → go st.hp k = some o → o ≠ .dead:=by
    intro k o hk hko e
    subst e
    obtain ⟨o2,ho2,hv⟩:=(hl k hk).1
    rw [hko] at ho2;cases ho2;exact hv
  have hpres : ∀ k ∈ ids,1000000 ≤ τ k → ∃ o,go out.obs (τ k) = some o:=by
    intro k hk hle
    obtain ⟨⟨o,ho2,_⟩,hst⟩:=hl k hk
    obtain ⟨v,hv⟩:=h.hr.has k o ho2 (hndI hk ho2)
    have:=(h1.pin (τ k) v (by simp only [OA.lent];rw [if_pos hle,phi0_τ hk hst];exact hv)).2.1
    exact Option.ne_none_iff_exists'.1 this
  have hpin1 : ∀ k o v,go out.obs k = some o → 1000000 ≤ k → φ (σ k) = some v → φ1 k = some v:=by
    intro k o v hko hle hv
    obtain ⟨g1,g2⟩:=(ho _ (go_mem hko)).1 hle
    dsimp only at g1 g2
    have e : phi0 φ σ τ ids k = some v:=by unfold phi0;rw [if_pos ⟨g1,g2⟩];exact hv
    exact (h1.pin k v (by simp only [OA.lent];rw [if_pos hle];exact e)).2.2 o hko (hnd1 hko)
  have hshi : ∀ k o k' o',go out.obs k = some o → go out.obs k' = some o' → shM σ n k = shM σ n k' → k = k':=by
    intro k o k' o' hk hk' e
    obtain ⟨a1,a2,_⟩:=ho _ (go_mem hk)
    obtain ⟨b1,b2,_⟩:=ho _ (go_mem hk')
    dsimp only at a1 a2 b1 b2
    simp only [shM] at e
    split at e <;> split at e
    · rename_i c1 c2;rw [← (a1 c1).2,e,(b1 c2).2]
    · rename_i c1 c2
      obtain ⟨⟨o2,ho2,_⟩,_⟩:=hl _ (a1 c1).1
      rw [e,(b2 (by omega)).1] at ho2;cases ho2
    · rename_i c1 c2
      obtain ⟨⟨o2,ho2,_⟩,_⟩:=hl _ (b1 c2).1
      rw [← e,(a2 (by omega)).1] at ho2;cases ho2
    · simp only [shift] at e;omega
  have hgoR : ∀ (m : List (Nat × Ob)) (id : Nat) (o : Ob),go (renMM σ n m) id = some o → ∃ k x,id = shM σ n k ∧ (k,x) ∈ m ∧ o = renO (shM σ n) x:=by
    intro m
    induction m with
    | nil=>intro id o hh;cases hh
    | cons p r ih =>
      intro id o hh
      simp only [renMM,List.map_cons,go] at hh
      split at hh
      · rename_i e;cases hh;exact ⟨p.1,p.2,e,by simp,rfl⟩
      · obtain ⟨k,x,q1,q2,q3⟩:=ih id o hh
        exact ⟨k,x,q1,List.mem_cons_of_mem _ q2,q3⟩
  have hgoR1 : ∀ (m : List (Nat × Ob)),(∀ p ∈ m,∃ o,go out.obs p.1 = some o) → ∀ k x,go m k = some x → (∃ o,go out.obs k = some o) → go (renMM σ n m) (shM σ n k) = some (renO (shM σ n) x):=by
    intro m
    induction m with
    | nil=>intro _ k x hh;cases hh
    | cons p r ih =>
      intro hm k x hh hk
      simp only [renMM,List.map_cons,go] at hh ⊢
      by_cases e : k = p.1
      · rw [if_pos e] at hh;cases hh;rw [if_pos (by rw [e])]
      · rw [if_neg e] at hh
        obtain ⟨o1,ho1⟩:=hk
        obtain ⟨o2,ho2⟩:=hm p (by simp)
        rw [if_neg fun e2=>e (hshi k o1 p.1 o2 ho1 ho2 e2)]
        exact ih (fun q hq=>hm q (List.mem_cons_of_mem _ hq)) k x hh ⟨o1,ho1⟩
  have hmem : ∀ (m : List (Nat × Ob)) (p : Nat × Ob),p ∈ m → ∃ o,go m p.1 = some o:=by
    intro m
    induction m with
    | nil=>intro p hp;cases hp
    | cons q r ih =>
      intro p hp
      simp only [go]
      by_cases e : p.1 = q.1
      · rw [if_pos e];exact ⟨_,rfl⟩
      · rw [if_neg e];exact ih p ((List.mem_cons.1 hp).resolve_left fun e2=>e (by rw [e2]))
  have hgo2 : ∀ id o,go (renMM σ n out.obs) id = some o → ∃ k x,id = shM σ n k ∧ go out.obs k = some x ∧ o = renO (shM σ n) x:=by
    intro id o hh
    obtain ⟨k,x,rfl,hm,rfl⟩:=hgoR _ _ _ hh
    obtain ⟨x2,hx2⟩:=hmem _ _ hm
    refine ⟨k,x2,rfl,hx2,?_⟩
    have:=hgoR1 out.obs (fun p hp=>hmem _ p hp) k x2 hx2 ⟨x2,hx2⟩
    rw [this] at hh;exact (Option.some.inj hh).symm
  have hgo1 : ∀ k x,go out.obs k = some x → go (renMM σ n out.obs) (shM σ n k) = some (renO (shM σ n) x):=fun k x hx=>hgoR1 out.obs (fun p hp=>hmem _ p hp) k x hx ⟨x,hx⟩
  obtain ⟨φ2,hφ2⟩ : ∃ φ2 : Nat → Option Value,φ2 = fun k=>match φ k with|some v=>some v|none=>if go (renMM σ n out.obs) k = none then none else φ1 ((k - n) / 1000):=⟨_,rfl⟩
  have hold : ∀ id v,φ id = some v → φ2 id = some v:=by intro id v hv;rw [hφ2];simp [hv]
  have hsm : ∀ k o,go out.obs k = some o → ¬ 1000000 ≤ k → φ (shift n k) = none ∧ go st.hp (shift n k) = none:=by
    intro k o hk hle
    have:=((ho _ (go_mem hk)).2.1 (by dsimp only;omega)).1
    exact ⟨h.hr.fresh _ this,this⟩
  have hpi : ∀ k o,go out.obs k = some o → 1000000 ≤ k → ∃ v o',φ (σ k) = some v ∧ φ1 k = some v ∧ go st.hp (σ k) = some o' ∧ o' ≠ .dead ∧ σ k ∈ ids:=by
    intro k o hk hle
    obtain ⟨g1,g2⟩:=(ho _ (go_mem hk)).1 hle
    dsimp only at g1 g2
    obtain ⟨⟨o2,ho2,_⟩,_⟩:=hl _ g1
    obtain ⟨v,hv⟩:=h.hr.has _ _ ho2 (hndI g1 ho2)
    exact ⟨v,o2,hv,hpin1 k o v hk hle hv,ho2,hndI g1 ho2,g1⟩
  have hnew : ∀ k v,φ1 k = some v → inDom out.obs k → φ2 (shM σ n k) = some v:=by
    intro k v hv hd
    obtain ⟨o,hko⟩:=Option.ne_none_iff_exists'.1 hd
    by_cases hle : 1000000 ≤ k
    · obtain ⟨v2,o',e1,e2,_⟩:=hpi k o hko hle
      simp only [shM,if_pos hle]
      rw [hv] at e2;cases e2
      exact hold _ _ e1
    · obtain ⟨h0,_⟩:=hsm k o hko hle
      have hg : go (renMM σ n out.obs) (shift n k) ≠ none:=by
        have:=hgo1 k o hko
        simp only [shM,if_neg hle] at this
        rw [show shM σ n = shM σ n from rfl] at this
        rw [this];simp
      have he : (shift n k - n) / 1000 = k:=by simp only [shift];omega
      simp only [shM,if_neg hle]
      rw [hφ2]
      simp only [h0,if_neg hg,he,hv]
  have hnew' : ∀ k v o,go out.obs k = some o → φ2 (shM σ n k) = some v → φ1 k = some v:=by
    intro k v o hko hv
    have hd : inDom out.obs k:=by unfold inDom;rw [hko];simp
    obtain ⟨u,hu⟩:=h1.has k o hko (hnd1 hko)
    rw [hnew k u hu hd] at hv
    cases hv;exact hu
  have hsplit : ∀ id o,go (renMM σ n out.obs ++ deadM τ ids ++ st.hp) id = some o → o ≠ .dead → (go st.hp id = some o ∧ id ∉ ids) ∨ ∃ k x,id = shM σ n k ∧ go out.obs k = some x ∧ o = renO (shM σ n) x ∧ ¬ (go st.hp id = some o ∧ id ∉ ids):=by
    intro id o hio hne
    rw [go_app,go_app] at hio
    cases hr : go (renMM σ n out.obs) id with
    | some o' =>
      simp only [hr] at hio
      cases hio
      obtain ⟨k,x,rfl,hx,rfl⟩:=hgo2 _ _ hr
      refine .inr ⟨k,x,rfl,hx,rfl,fun hc=>?_⟩
      by_cases hle : 1000000 ≤ k
      · obtain ⟨_,_,_,_,_,_,hi⟩:=hpi k x hx hle
        simp only [shM,if_pos hle] at hc
        exact hc.2 hi
      · have:=(hsm k x hx hle).2
        have h2:=hc.1
        simp only [shM,if_neg hle] at h2
        rw [this] at h2;cases h2
    | none =>
      simp only [hr] at hio
      rw [go_deadM] at hio
      by_cases hc : id ∈ ids ∧ τ id < 1000000
      · rw [if_pos hc] at hio;cases hio;exact absurd rfl hne
      · rw [if_neg hc] at hio
        refine .inl ⟨hio,fun hi=>?_⟩
        obtain ⟨o2,ho2⟩:=hpres id hi (by have : ¬ τ id < 1000000:=fun hlt=>hc ⟨hi,hlt⟩;omega)
        have:=hgo1 _ _ ho2
        simp only [shM] at this
        rw [if_pos (by have : ¬ τ id < 1000000:=fun hlt=>hc ⟨hi,hlt⟩;omega),(hl id hi).2,hr] at this
        cases this
  have hown : ∀ b,(∃ id ∈ ids,∃ v,φ id = some v ∧ blk v = some b) → ∃ id ∈ ids,∃ o v,go st.hp id = some o ∧ o ≠ .dead ∧ φ id = some v ∧ blk v = some b:=by
    rintro b ⟨id,hi,v,hv,hb⟩
    obtain ⟨⟨o,hoo,_⟩,_⟩:=hl id hi
    exact ⟨id,hi,o,v,hoo,hndI hi hoo,hv,hb⟩
  have hapart : ∀ b id o v,(∃ id ∈ ids,∃ v,φ id = some v ∧ blk v = some b) → go st.hp id = some o → o ≠ .dead → id ∉ ids → φ id = some v → blk v ≠ some b:=by
    intro b id o v hb hio hne hni hv he
    obtain ⟨id2,hi2,o2,v2,q1,q2,q3,q4⟩:=hown b hb
    rcases h.hr.inj id id2 o o2 v v2 hio q1 hne q2 (fun e=>hni (e ▸ hi2)) hv q3 with h3|h3
    · rw [he] at h3;cases h3
    · exact h3 (by rw [he,q4])
  have hok : ∀ b,okB w (.lent (okB w0 oa φ (go st.hp) w) φ ids (phi0 φ σ τ ids)) φ1 (go out.obs) w' b → okB w0 oa φ2 (go (renMM σ n out.obs ++ deadM τ ids ++ st.hp)) w' b:=by
    intro b hb
    refine ⟨?_,fun id o v hio hne hv he=>?_⟩
    · rcases hb.1 with h3|h3
      · rcases h3.1 with h4|h4
        · rcases h4.1 with h5|h5
          · exact .inl h5
          · exact .inr ⟨h5.1,by omega⟩
        · obtain ⟨id2,hi2,o2,v2,q1,q2,q3,q4⟩:=hown b h4
          exact ours_ok (h.hr.mine id2 o2 v2 b q1 q2 q3 q4) (by omega)
      · exact .inr ⟨by have:=h.hr.below.size;omega,h3.2⟩
    · rcases hsplit id o hio hne with ⟨h3,hni⟩|⟨k,x,rfl,hx,rfl,_⟩
      · obtain ⟨v0,hv0⟩:=h.hr.has id o h3 hne
        obtain rfl : v0 = v:=Option.some.inj ((hold _ _ hv0).symm.trans hv)
        have hlt:=(h.hr.blk_lt h3 hne hv0 he).2
        rcases hb.1 with h4|h4
        · rcases h4.1 with h5|h5
          · exact h5.2 id o v0 h3 hne hv0 he
          · exact hapart b id o v0 h5 h3 hne hni hv0 he
        · omega
      · exact hb.2 k x v hx (hnd1 hx) (hnew' k v x hx hv) he
  have hDD:=hD _ hok
  have key:=HR.step (hp':=go (renMM σ n out.obs ++ deadM τ ids ++ st.hp)) (φ':=φ2) (w':=w') h.hr (fun i=>i ∈ ids) hbs (h.hr.below.step h1.below.os h1.below.tape h1.below.output hbs fun k hk hno=>h1.below.block k hk fun ho2=>?_) (fun b hb hb2=>h1.below.block b hb fun ho2=>?_) hold ?_ ?_ h.hr.has ?_ ?_ ?_
  · exact ⟨φ2,h.heap hold key,vr_ren hnew hDD hv hva⟩
  · obtain ⟨id2,hi2,o2,v2,q1,q2,q3,q4⟩:=hown k ho2
    exact hno (h.hr.mine id2 o2 v2 k q1 q2 q3 q4)
  · obtain ⟨id2,hi2,o2,v2,q1,q2,q3,q4⟩:=hown b ho2
    exact hb2 id2 o2 v2 hi2 q1 q2 q3 q4
  · intro id hid
    rw [go_app,go_app] at hid
    have hr : go (renMM σ n out.obs) id = none:=by
      cases hr : go (renMM σ n out.obs) id with
      | none=>rfl
      | some o=>simp [hr] at hid
    simp only [hr] at hid
    have hg : go st.hp id = none:=by
      split at hid
      · cases hid
      · exact hid
    rw [hφ2]
    simp only [h.hr.fresh id hg,hr,if_true]
  · intro id o hio hne
    rcases hsplit id o hio hne with h3|⟨k,x,rfl,hx,rfl,hc⟩
    · exact .inl h3
    · refine .inr ⟨fun v b hv hb=>?_,hc⟩
      rcases (h1.blk_lt hx (hnd1 hx) (hnew' k v x hx hv) hb).1 with h4|h4
      · exact .inl h4
      · obtain ⟨id2,hi2,o2,v2,q1,q2,q3,q4⟩:=hown b h4
        exact .inr ⟨id2,o2,v2,hi2,q1,q2,q3,q4⟩
  · intro id o hio hc
    by_cases hne : o = .dead
    · subst hne;trivial
    rcases hsplit id o hio hne with h3|⟨k,x,rfl,hx,rfl,_⟩
    · exact absurd h3 hc
    · have hobj:=h1.obj k x hx
      have hd : inDom out.obs k:=by unfold inDom;rw [hx];simp
      have hax:=(ho _ (go_mem hx)).2.2
      cases x with
      | dead=>exact absurd rfl (hnd1 hx)
      | opq R =>
        obtain ⟨bb,z,hu,hh,hr⟩:=hobj
        exact ⟨bb,z,hnew _ _ hu hd,hh,hr⟩
      | rowv e l =>
        obtain ⟨u,cs,hu,hw,hl2,ho1,hr⟩:=hobj
        refine ⟨u,cs,hnew _ _ hu hd,by rw [List.length_map];exact hw,by rw [List.length_map];exact hl2,ho1,fun j x y hx' hy=>?_⟩
        rw [List.getElem?_map] at hx'
        obtain ⟨z,hz,rfl⟩:=Option.map_eq_some_iff.1 hx'
        exact vr_ren1 hnew hDD (hr j z y hz hy) (hax z (List.mem_of_getElem? hz))
      | mp l =>
        obtain ⟨bb,es,c,hu,hh,hl2,hr⟩:=hobj
        exact ⟨bb,es,c,hnew _ _ hu hd,hh,hl2,fun j k d en hx' hy=>⟨(hr j k d en hx' hy).1,hDD _ _ (hax _ (List.mem_of_getElem? hx')) (hr j k d en hx' hy).2⟩⟩
      | row e sz l =>
        obtain ⟨u,cs,hu,hs,hw,hr⟩:=hobj
        exact ⟨u,cs,hnew _ _ hu hd,hs,hw,rw_D hs hDD hax hr⟩
      | box l =>
        obtain ⟨bb,t,cs,hu,hb,hh,hl2,ho1,hr⟩:=hobj
        refine ⟨bb,t,cs,hnew _ _ hu hd,Nat.zero_le _,hh,by simpa using hl2,ho1,fun j x y hx' hy=>?_⟩
        rw [List.getElem?_map] at hx'
        obtain ⟨z,hz,rfl⟩:=Option.map_eq_some_iff.1 hx'
        exact vr_ren1 hnew hDD (hr j z y hz hy) (hax z (List.mem_of_getElem? hz))
  · intro id hid hne
    rw [go_app,go_app]
    cases hr : go (renMM σ n out.obs) id with
    | some o =>
      simp only
      refine ⟨by simp,fun o2 ho2 hd2 hdead=>?_⟩
      obtain ⟨k,x,rfl,hx,rfl⟩:=hgo2 _ _ hr
      by_cases hle : 1000000 ≤ k
      · obtain ⟨_,o',_,_,q1,q2,_⟩:=hpi k x hx hle
        simp only [shM,if_pos hle] at hdead
        rw [hdead] at q1;cases q1;exact q2 rfl
      · have:=(hsm k x hx hle).2
        simp only [shM,if_neg hle] at hdead
        rw [this] at hdead;cases hdead
    | none =>
      simp only
      rw [go_deadM]
      by_cases hc : id ∈ ids ∧ τ id < 1000000
      · simp only [if_pos hc]
        refine ⟨by simp,fun o2 ho2 hd2 _=>?_⟩
        exact hd2 (Option.some.inj ho2).symm
      · simp only [if_neg hc]
        exact ⟨hne,fun o2 ho2 hd2 e=>by rw [ho2] at e;exact hd2 (Option.some.inj e)⟩
  · intro id id' o1 o2 v v' ho1 ho2 hn1 hn2 hc hne hv hv'
    rcases hsplit id o1 ho1 hn1 with h3|⟨k,x,rfl,hx,rfl,_⟩
    · exact absurd h3 hc
    · have hv1:=hnew' k v x hx hv
      rcases hsplit id' o2 ho2 hn2 with ⟨h3,hni⟩|⟨k',x',rfl,hx',rfl,_⟩
      · obtain ⟨v0,hv0⟩:=h.hr.has id' o2 h3 hn2
        obtain rfl : v0 = v':=Option.some.inj ((hold _ _ hv0).symm.trans hv')
        by_cases hb : blk v = none
        · exact .inl hb
        · refine .inr fun he=>?_
          obtain ⟨b,hb⟩:=Option.ne_none_iff_exists'.1 hb
          rcases (h1.blk_lt hx (hnd1 hx) hv1 hb).1 with e1|e1
          · have e2:=(h.hr.blk_lt h3 hn2 hv0 (he ▸ hb)).2
            omega
          · exact hapart b id' o2 v0 e1 h3 hn2 hni hv0 (he ▸ hb)
      · exact h1.inj k k' x x' v v' hx hx' (hnd1 hx) (hnd1 hx') (fun e=>hne (by rw [e])) hv1 (hnew' k' v' x' hx' hv')
def nonN (k : Nat) : List Nat → Prop
  | []=>True
  | x :: r=>if k = x then False else nonN k r
theorem nonN_get {k : Nat} : ∀ {l : List Nat},nonN k l → k ∉ l
  | [],_=>by simp
  | x :: r,h=>by
    simp only [nonN] at h
    split at h
    · exact h.elim
    · rename_i e
      intro hm
      exact (List.mem_cons.1 hm).elim e (nonN_get h)
def nonM (ids : List Nat) : List Nat → Prop
  | []=>True
  | k :: r=>nonN k ids ∧ nonM ids r
theorem nonM_get {ids : List Nat} : ∀ {l : List Nat},nonM ids l → ∀ k ∈ l,k ∉ ids
  | [],_,k,h=>by cases h
  | x :: r,h,k,hk=>by
    rcases List.mem_cons.1 hk with rfl|hk
    · exact nonN_get h.1
    · exact nonM_get h.2 k hk
theorem mem_idsL {b : Bool} {st : St} : ∀ {l : List Operand} {id : Nat},id ∈ idsL b st l → ∃ x ∈ l,lv b (st.ev x) = none ∧ id ∈ idsW (st.ev x)
  | [],_,h=>by cases h
  | y :: r,id,h=>by
    simp only [idsL,List.mem_append] at h
    rcases h with h|h
    · split at h
      · cases h
      · rename_i e;exact ⟨y,by simp,e,h⟩
    · obtain ⟨x,hx,h2⟩:=mem_idsL h
      exact ⟨x,List.mem_cons_of_mem _ hx,h2⟩
theorem idsL_mem {b : Bool} {st : St} : ∀ {l : List Operand} {x : Operand},x ∈ l → lv b (st.ev x) = none → ∀ id ∈ idsW (st.ev x),id ∈ idsL b st l
  | y :: r,x,h,hn,id,hid=>by
    simp only [idsL,List.mem_append]
    rcases List.mem_cons.1 h with rfl|h
    · exact .inl (by rw [hn];exact hid)
    · exact .inr (idsL_mem h hn id hid)
def e_callM (b : Bool) (Sp : FuncId → List V → List (Nat × Ob) → Out → Prop) (ns : List Nat) (f : FuncId) (xs : Array Operand) (o : Oper) (st : St) (K : V → List (Nat × Ob) → Prop) : Prop :=
  dOk o.dst st.nt ∧ (lends b st xs.toList).length = ns.length ∧ lentOk st.hp (nm (ns.zip (lends b st xs.toList))) (nm ((lends b st xs.toList).zip ns)) (lends b st xs.toList) (lends b st xs.toList) ∧
    match argsM b st (nm ((lends b st xs.toList).zip ns)) xs.toList with
    | some as=>∃ out,Sp f as (lentM st.hp (nm ((lends b st xs.toList).zip ns)) (lends b st xs.toList)) out ∧
        ((pusM b st xs.toList = true ∧ va tt (inDom out.obs) out.val ∧ outM tt st.hp (nm (ns.zip (lends b st xs.toList))) (nm ((lends b st xs.toList).zip ns)) (lends b st xs.toList) (o.dst.getD 0) (inDom out.obs) out.obs) ∨
          (nonM (lends b st xs.toList) (idsL b st xs.toList) ∧ va Scal' (inDom out.obs) out.val ∧ outM Scal' st.hp (nm (ns.zip (lends b st xs.toList))) (nm ((lends b st xs.toList).zip ns)) (lends b st xs.toList) (o.dst.getD 0) (inDom out.obs) out.obs)) ∧
        K (ren (shM (nm (ns.zip (lends b st xs.toList))) (o.dst.getD 0)) out.val) (renMM (nm (ns.zip (lends b st xs.toList))) (o.dst.getD 0) out.obs ++ deadM (nm ((lends b st xs.toList).zip ns)) (lends b st xs.toList))
    | none=>False
theorem argsM_get {b : Bool} {st : St} {τ : Nat → Nat} : ∀ {l : List Operand} {as : List V},argsM b st τ l = some as → as.length = l.length ∧ ∀ (j : Nat) (x : Operand),l[j]? = some x → ∃ a,as[j]? = some a ∧ argM b st.hp τ (st.ev x) = some a
  | [],as,h=>by simp only [argsM,Option.some.injEq] at h;subst h;simp
  | x :: r,as,h=>by
    simp only [argsM] at h
    split at h
    · rename_i d hd
      obtain ⟨as',has,rfl⟩:=Option.map_eq_some_iff.1 h
      obtain ⟨hl,hh⟩:=argsM_get has
      refine ⟨by simp [hl],fun j x' hx=>?_⟩
      cases j with
      | zero=>simp at hx;subst hx;exact ⟨d,rfl,hd⟩
      | succ j=>exact hh j x' (by simpa using hx)
    · cases h
theorem pusM_get {b : Bool} {st : St} : ∀ {l : List Operand},pusM b st l = true → ∀ x ∈ l,lv b (st.ev x) = none → pu (st.ev x) = true
  | [],_,x,hx=>by cases hx
  | y :: r,h,x,hx=>by
    simp only [pusM,Bool.and_eq_true] at h
    rcases List.mem_cons.1 hx with rfl|hx
    · intro hn
      have h1:=h.1
      rw [hn] at h1
      exact h1
    · exact pusM_get h.2 x hx
theorem mem_addN {k : Nat} : ∀ (l acc : List Nat),(k ∈ l ∨ k ∈ acc) → k ∈ addN l acc
  | [],acc,h=>h.resolve_left (by simp)
  | x :: r,acc,h=>by
    refine mem_addN r _ ?_
    have h1 : ∀ (acc : List Nat),x ∈ addN.addN1 x acc ∧ ∀ j ∈ acc,j ∈ addN.addN1 x acc:=by
      intro acc
      induction acc with
      | nil=>simp [addN.addN1]
      | cons a r ih =>
        simp only [addN.addN1]
        split
        · rename_i e;subst e;simp
        · refine ⟨List.mem_cons_of_mem _ ih.1,fun j hj=>?_⟩
          rcases List.mem_cons.1 hj with rfl|hj
          · simp
          · exact List.mem_cons_of_mem _ (ih.2 j hj)
    rcases h with h|h
    · rcases List.mem_cons.1 h with rfl|h
      · exact .inr (h1 acc).1
      · exact .inl h
    · exact .inr ((h1 acc).2 k h)
theorem ptrs_mem {b : Bool} {st : St} : ∀ {l : List Operand} {x : Operand},x ∈ l → ∀ {id : Nat},lv b (st.ev x) = some id → id ∈ ptrs b st l
  | y :: r,x,h,id,he=>by
    simp only [ptrs,List.mem_append]
    rcases List.mem_cons.1 h with rfl|h
    · exact .inl (by rw [he];simp)
    · exact .inr (ptrs_mem h he)
theorem s_callM {lc : Bool} {P : Program} {Sp : FuncId → List V → List (Nat × Ob) → Out → Prop} (hG : ∀ f as lent out,Sp f as lent out → Ent P f ∧ GoodM P f (fun a l b=>a = as ∧ l = lent ∧ b = out)) {ns : List Nat} {f : FuncId} {xs : Array Operand} {ts : Array TypeId} {o : Oper} {st : St} {K : St → Prop} (ho : o.op = .call { callee:=.value (.func f),args:=xs,argTypes:=ts })
    (h : e_callM lc Sp ns f xs o st fun x ups=>K (st.upd o.dst x ups)) : Does P o st K:=by
  obtain ⟨hd,hlen,hl,h⟩:=h
  have hids : ∀ {x : Operand},x ∈ xs.toList → ∀ {id : Nat},lv lc (st.ev x) = some id → id ∈ lends lc st xs.toList:=fun hx _ he=>mem_addN _ _ (.inr (mem_addN _ _ (.inr (mem_addN _ _ (.inl (ptrs_mem hx he))))))
  generalize lends lc st xs.toList = ids at *
  generalize nm (ids.zip ns) = τ at *
  generalize nm (ns.zip ids) = σ at *
  replace hl:=lentOk_get hl
  split at h
  case h_2=>exact h.elim
  rename_i as has
  obtain ⟨out,hsp,hsh,hk⟩:=h
  obtain ⟨⟨fn,hfn,hbody,hname⟩,hgood⟩:=hG f as _ out hsp
  obtain ⟨hal,hag⟩:=argsM_get has
  intro w0 oa φ a w hs next Q hnext
  have hrun : (execOp a.eval o).run P w = .ok (.enter f (xs.map a.eval)) w:=by
    have hb : ¬ fn.body = none:=by cases hb : fn.body <;> simp [hb] at hbody ⊢
    have hnm : ¬ fn.name = "runtime.NumGoroutine" := by simpa using hname
    simp [execOp,ho,resolve,Act.eval,Deferred.ofValue,invoke,callFunc,hfn,hnm,hb]
  unfold Oper.wp
  rw [hrun]
  have hsz : (xs.map a.eval).size = as.length:=by rw [hal];simp
  have hget : ∀ (i : Nat) (d : V) (y : Value),as[i]? = some d → (xs.map a.eval)[i]? = some y → ∃ x ∈ xs.toList,y = a.eval x ∧ argM lc st.hp τ (st.ev x) = some d:=by
    intro i d y hd' hy
    have hi : i < xs.size:=by
      have:=(Array.getElem?_eq_some_iff.1 hy).1
      simpa using this
    obtain ⟨d2,hd2,ht⟩:=hag i xs[i] (by simp)
    have hy2 : y = a.eval xs[i]:=by simp at hy;obtain ⟨z,hz,rfl⟩:=hy;rw [Array.getElem?_eq_getElem hi] at hz;cases hz;rfl
    exact ⟨xs[i],by simp,hy2,by rw [ht,← hd2,hd']⟩
  show Calls P f (xs.map a.eval) w _
  have hptr : ∀ (ok : Nat → Prop) (x : Operand) (id : Nat),x ∈ xs.toList → lv lc (st.ev x) = some id → VR (phi0 φ σ τ ids) w ok (ren1 τ (st.ev x)) (a.eval x):=by
    intro ok x id hx he
    have hv:=hs.ev x
    have hi:=hids hx he
    generalize st.ev x = X at hv he
    generalize a.eval x = y at hv
    cases hv with
    | ptr k _ bb hid =>
      simp only [lv,Option.some.injEq] at he;subst he
      exact .ptr _ _ bb (by rw [phi0_τ hi (hl _ hi).2];exact hid)
    | sl k sz off len full u A c hid hc hf ha =>
      simp only [lv] at he
      split at he
      · cases he;exact .sl _ _ _ _ _ u A c (by rw [phi0_τ hi (hl _ hi).2];exact hid) hc hf ha
      · cases he
    | slc k sz off len cap bb n c hid hc =>
      simp only [lv] at he
      split at he
      · cases he;exact .slc _ _ _ _ _ bb n c (by rw [phi0_τ hi (hl _ hi).2];exact hid) hc
      · cases he
    | _=>simp [lv] at he
  rcases hsh with ⟨hpu,hva,hA⟩|⟨hnon,hva,hA⟩
  · replace hA:=outM_get hA
    obtain ⟨hL,hLok⟩:=hs.hr.lend (σ:=σ) (τ:=τ) (ids:=ids) hl (rd:=okB w0 oa φ (go st.hp) w) (fun b hb=>hb)
    refine (hgood as _ out ⟨rfl,rfl,rfl⟩ _ _ (xs.map a.eval) w hsz hL (fun i d y hd' hy=>?_)).mono fun e w' he=>?_
    · obtain ⟨x,hx,rfl,ht⟩:=hget i d y hd' hy
      by_cases hp : ∃ id,lv lc (st.ev x) = some id
      · obtain ⟨id,he⟩:=hp
        simp only [argM,he,Option.some.injEq] at ht;subst ht
        exact hptr _ x id hx he
      · have hn : lv lc (st.ev x) = none:=by
          cases h : lv lc (st.ev x) with
          | none=>rfl
          | some id=>exact absurd ⟨id,h⟩ hp
        simp only [argM,hn] at ht
        obtain ⟨dd,hdd,rfl⟩:=Option.map_eq_some_iff.1 ht
        have hpx:=pusM_get hpu x hx hn
        exact ofD_vr (((toD_rd hs.hr (hs.ev x) hdd).2 hpx).mono (fun _ _=>rfl) hLok)
    · obtain ⟨y,rfl,φ1,h1,h2⟩:=he
      obtain ⟨φ2,hs2,hv2⟩:=call_stateM hs hl hva hA h1 h2 (fun ok hok d z _ hr=>hr.mono (fun _ _=>rfl) hok)
      have h3:=(hs2.put o.dst hd hv2).sr
      simp only [List.append_assoc] at h3 hk
      refine hnext _ _ _ hk ?_
      simp only [St.upd,List.append_assoc]
      exact h3
  · replace hA:=outM_get hA
    have hids2 : ∀ id ∈ idsL lc st xs.toList,go st.hp id ≠ none:=by
      intro id hid
      obtain ⟨x,hx,hn,hi⟩:=mem_idsL hid
      obtain ⟨j,hj⟩:=List.getElem?_of_mem hx
      obtain ⟨d,_,ht⟩:=hag j x hj
      simp only [argM,hn] at ht
      obtain ⟨dd,hdd,_⟩:=Option.map_eq_some_iff.1 ht
      exact toD_ids hdd id hi
    have hless : ∀ b,okB w0 oa φ (go st.hp) w b → okB w0 oa φ (go (killL st.hp (idsL lc st xs.toList))) w b:=fun b hb=>⟨hb.1,fun id o v hio hn hv=>by
      rw [go_killL] at hio
      split at hio
      · cases hio;exact absurd rfl hn
      · exact hb.2 id o v hio hn hv⟩
    obtain ⟨hL,hLok⟩:=hs.hr.lend (σ:=σ) (τ:=τ) (ids:=ids) hl hless
    have hkok : ∀ b,okB w0 oa φ (go (killL st.hp (idsL lc st xs.toList))) w b → okB w (.lent (okB w0 oa φ (go (killL st.hp (idsL lc st xs.toList))) w) φ ids (phi0 φ σ τ ids)) (phi0 φ σ τ ids) (go (lentM st.hp τ ids)) w b:=by
      intro b hb
      refine ⟨.inl ⟨.inl hb,okB_lt hs.hr.below.size hb⟩,fun id o v hio hn hv=>?_⟩
      obtain ⟨k,hk,rfl,o2,ho2,rfl⟩:=(go_lentM (fun k hk=>⟨(hl k hk).1.imp fun o ho=>ho.1,(hl k hk).2⟩) id o).1 hio
      rw [phi0_τ hk (hl k hk).2] at hv
      refine hb.2 k o2 v ?_ ?_ hv
      · rw [go_killL,if_neg fun hm=>nonM_get hnon k hm hk];exact ho2
      · intro e;subst e
        obtain ⟨⟨o3,ho3,hv3⟩,_⟩:=hl k hk
        rw [ho2] at ho3;cases ho3;exact hv3
    refine (hgood as _ out ⟨rfl,rfl,rfl⟩ _ _ (xs.map a.eval) w hsz hL (fun i d y hd' hy=>?_)).mono fun e w' he=>?_
    · obtain ⟨x,hx,rfl,ht⟩:=hget i d y hd' hy
      by_cases hp : ∃ id,lv lc (st.ev x) = some id
      · obtain ⟨id,he⟩:=hp
        simp only [argM,he,Option.some.injEq] at ht;subst ht
        exact hptr _ x id hx he
      · have hn : lv lc (st.ev x) = none:=by
          cases h : lv lc (st.ev x) with
          | none=>rfl
          | some id=>exact absurd ⟨id,h⟩ hp
        simp only [argM,hn] at ht
        obtain ⟨dd,hdd,rfl⟩:=Option.map_eq_some_iff.1 ht
        exact ofD_vr ((toD_kill hs.hr hids2 (hs.ev x) hdd (idsL_mem hx hn)).mono (fun _ _=>rfl) hkok)
    · obtain ⟨y,rfl,φ1,h1,h2⟩:=he
      obtain ⟨φ2,hs2,hv2⟩:=call_stateM hs hl hva hA h1 h2 (fun ok hok d z hsc hr=>hr.scal hsc)
      have h3:=(hs2.put o.dst hd hv2).sr
      simp only [List.append_assoc] at h3 hk
      refine hnext _ _ _ hk ?_
      simp only [St.upd,List.append_assoc]
      exact h3
structure Env where
  P : Program
  Sp : FuncId → List D → Out → Prop
  Es : TypeId → Nat → Prop
  Fz : FuncId → Bool
  Sm : FuncId → List V → List (Nat × Ob) → Out → Prop:=fun _ _ _ _=>False
  Ln : FuncId → Option (List Nat):=fun _=>none
  Lc : FuncId → Bool:=fun _=>false
  Cp : Bool:=false
  At : FuncId → Option Nat:=fun _=>none
structure Env.Ok (E : Env) : Prop where
  sp : ∀ f ds out,E.Sp f ds out → Ent E.P f ∧ Good E.P f (fun a b=>a = ds ∧ b = out)
  es : ∀ t n,E.Es t n → EqS E.P t n
  sm : ∀ f as lent out,E.Sm f as lent out → Ent E.P f ∧ GoodM E.P f (fun a l b=>a = as ∧ l = lent ∧ b = out):=by exact fun _ _ _ _ h=>False.elim h
  at' : ∀ f k,E.At f = some k → AtomOk E.P f k:=by exact fun _ _ h=>nomatch h
def evc (E : Env) (c : Call) (o : Oper) (st : St) (K : V → List (Nat × Ob) → Prop) : Prop :=
  match c with
  | { callee:=.value (.func f),args:=xs,.. }=>match E.Ln f with
    | some ns=>e_callM (E.Lc f) E.Sm ns f xs o st K
    | none=>match E.At f with
      | some k=>e_atom k xs o st K
      | none=>if E.Fz f = true then e_callF E.Sp f xs o st K else e_call E.Sp f xs o st K
  | { callee:=.builtin .len,args:=⟨[x]⟩,argTypes:=⟨[t]⟩ }=>e_len E.P t x o st K
  | { callee:=.builtin .cap,args:=⟨[x]⟩,argTypes:=⟨[t]⟩ }=>e_cap E.P t x o st K
  | { callee:=.builtin .append,args:=⟨[s,x]⟩,argTypes:=⟨[t,u]⟩ }=>if t = u then e_app E.P t s x o st K else e_appZ E.P t u s x o st K
  | { callee:=.builtin .copy,args:=⟨[x,y]⟩,argTypes:=⟨[t,u]⟩ }=>e_cpy E.P t x y o st K
  | { callee:=.builtin .min,args:=xs,.. }=>e_mm false xs o st K
  | { callee:=.builtin .max,args:=xs,.. }=>e_mm true xs o st K
  | _=>False
def evk (E : Env) (o : Oper) (st : St) (K : V → List (Nat × Ob) → Prop) : Prop :=
  match o.op with
  | .move x=>e_move x o st K
  | .assign x=>e_move x o st K
  | .pick c x y=>e_pick c x y o st K
  | .alloc t=>e_alloc E.P t o st K
  | .box t x=>e_box t x o st K
  | .build t ps=>e_build E.P t ps o st K
  | .buildSlice t n ps=>e_lit E.P t n ps o st K
  | .load t x=>e_load E.P t x o st K
  | .store t x y=>e_store E.P t x y o st K
  | .nilCheck x=>e_nil x o st K
  | .binOp op t x y _=>e_bin E.P E.Es op t x y o st K
  | .unOp op _ x=>e_un op x o st K
  | .convert s d x=>e_cnv E.P s d x o st K
  | .makeSlice t x c=>if E.Cp = true then e_makeC E.P t x c o st K else e_make E.P t x c o st K
  | .slice t x lo hi mx=>e_cut E.P t x lo hi mx o st K
  | .fieldAddr s x f=>e_field E.P s x f o st K
  | .field s x f=>e_fld E.P s x f o st K
  | .indexAddr t x i=>e_index E.P t x i o st K
  | .extract x i=>e_extract x i o st K
  | .makeMap t x=>e_mkmap E.P t x o st K
  | .lookup t x i ok=>e_lookup E.P t x i ok o st K
  | .mapUpdate t m k x=>e_mapup E.P t m k x o st K
  | .sliceToArrayPointer t x=>e_s2a E.P t x o st K
  | .call c=>evc E c o st K
  | _=>False
theorem s_evk {E : Env} (hE : E.Ok) {o : Oper} {st : St} {K : St → Prop} (h : evk E o st fun x ups=>K (st.upd o.dst x ups)) : Does E.P o st K:=by
  unfold evk at h
  split at h
  · exact s_move ‹_› h
  · exact s_assign ‹_› h
  · exact s_pick ‹_› h
  · exact s_alloc ‹_› h
  · exact s_box ‹_› h
  · exact s_build ‹_› h
  · exact s_lit ‹_› h
  · exact s_load ‹_› h
  · exact s_store ‹_› h
  · exact s_nil ‹_› h
  · exact s_bin hE.es ‹_› h
  · exact s_un ‹_› h
  · exact s_cnv ‹_› h
  · split at h
    · exact s_makeC ‹_› h
    · exact s_make ‹_› h
  · exact s_cut ‹_› h
  · exact s_field ‹_› h
  · exact s_fld ‹_› h
  · exact s_index ‹_› h
  · exact s_extract ‹_› h
  · exact s_mkmap ‹_› h
  · exact s_lookup ‹_› h
  · exact s_mapup ‹_› h
  · exact s_s2a ‹_› h
  · unfold evc at h
    split at h
    · split at h
      · exact s_callM hE.sm ‹_› h
      · split at h
        · exact s_atom (hE.at' _ _ ‹_›) ‹_› h
        · split at h
          · exact s_callF hE.sp ‹_› h
          · exact s_call hE.sp ‹_› h
    · exact s_len ‹_› h
    · exact s_cap ‹_› h
    · split at h
      · rename_i e;subst e;exact s_app ‹_› h
      · exact s_appZ ‹_› h
    · exact s_cpy ‹_› h
    · exact s_mm (mx:=false) ‹_› h
    · exact s_mm (mx:=true) ‹_› h
    · exact h.elim
  · exact h.elim
def gv (ops : Array Oper) (st : St) (j : Nat) : Option (Option Bool) :=
  match ops[j]? with
  | some o=>match o.dst with
    | some t=>if t < st.nt then match gt st.tm t with
      | .d (.v (.bool b))=>some (some b)
      | .d (.v (.tuple _))=>some none
      | _=>none
      else none
    | none=>none
  | none=>none
theorem gv_ok {ops : Array Oper} {w0 w : World} {oa : OA} {φ : Nat → Option Value} {st : St} {a : Act} (hs : SRp w0 oa φ st a w) {j : Nat} {r : Option Bool} (h : gv ops st j = some r) : yielded ops a.tmps j = r:=by
  unfold gv at h
  split at h
  case h_2=>cases h
  rename_i o ho
  split at h
  case h_2=>cases h
  rename_i t ht
  split at h
  case isFalse=>cases h
  rename_i hlt
  have hv:=hs.tm t
  have hg : a.tmps[t]? = some (a.tmps.getD t undef):=by
    have : t < a.tmps.size:=by rw [hs.sz];exact hlt
    simp [Array.getD_eq_getD_getElem?,this]
  split at h
  · rename_i b hb
    cases h
    rw [hb] at hv
    simp [yielded,ho,ht,hg,vr_v hv]
  · rename_i l hb
    cases h
    rw [hb] at hv
    simp [yielded,ho,ht,hg,vr_v hv]
  · cases h
def ev1 (E : Env) (ops : Array Oper) (o : Oper) (st : St) (K : V → List (Nat × Ob) → Prop) : Prop :=
  match o.guard with
  | none=>evk E o st K
  | some (j,want)=>match gv ops st j with
    | some (some b)=>(b = want → evk E o st K) ∧ (b = !want → dOk o.dst st.nt ∧ K (.d (.v undef)) [])
    | some none=>dOk o.dst st.nt ∧ K (.d (.v undef)) []
    | none=>False
theorem s_ev1 {E : Env} (hE : E.Ok) {ops : Array Oper} {o : Oper} {st : St} {K : St → Prop} (h : ev1 E ops o st fun x ups=>K (st.upd o.dst x ups)) {w0 w : World} {oa : OA} {φ : Nat → Option Value} {a : Act} (hs : SRp w0 oa φ st a w) {next : Act → World → Prop} {Q : Exit → Act → World → Prop}
    (hn : ∀ st' a' w',K st' → SR w0 oa st' a' w' → next a' w') : if Region.wanted o (yielded ops a.tmps) = true then o.wp E.P a w next Q else next (a.put o.dst undef) w:=by
  unfold ev1 at h
  split at h
  · rename_i hg
    rw [if_pos (by simp [Region.wanted,hg])]
    exact s_evk hE h _ _ _ _ _ hs next Q hn
  · rename_i j want hg
    split at h
    · rename_i b hb
      have hy:=gv_ok hs hb
      by_cases hbw : b = want
      · rw [if_pos (by simp [Region.wanted,hg,hy,hbw])]
        exact s_evk hE (h.1 hbw) _ _ _ _ _ hs next Q hn
      · have hne : b = !want:=by cases b <;> cases want <;> simp_all
        rw [if_neg (by simp [Region.wanted,hg,hy,hbw])]
        obtain ⟨hd,hk⟩:=h.2 hne
        exact hn _ _ _ hk (hs.put o.dst hd (.d _ _ (.v _))).sr
    · rename_i hb
      have hy:=gv_ok hs hb
      rw [if_neg (by simp [Region.wanted,hg,hy])]
      exact hn _ _ _ h.2 (hs.put o.dst h.1 (.d _ _ (.v _))).sr
    · exact h.elim
def awl (E : Env) (ops : Array Oper) : List Oper → St → (St → Prop) → Prop
  | [],st,K=>K st
  | o :: r,st,K=>ev1 E ops o st fun x ups=>awl E ops r (st.upd o.dst x ups) K
theorem awl_ok {E : Env} (hE : E.Ok) {ops : Array Oper} {w0 : World} {oa : OA} {Q : Exit → Act → World → Prop} {K : St → Prop} (hQ : ∀ st' a' w',K st' → SR w0 oa st' a' w' → Q .normal a' w') :
    ∀ (l pre : List Oper) (st : St) (a : Act) (w : World),ops.toList = pre ++ l → awl E ops l st K → SR w0 oa st a w → wpOps E.P ops Q (List.range' pre.length l.length) a w
  | [],pre,st,a,w,_,h,hs=>by
    simp only [List.length_nil,List.range'_zero,wpOps]
    exact hQ _ _ _ h hs
  | o :: r,pre,st,a,w,he,h,hs=>by
    obtain ⟨φ,hs⟩:=hs.open
    simp only [List.length_cons,List.range'_succ,wpOps]
    have ho : ops[pre.length]? = some o:=by
      have : ops.toList[pre.length]? = some o:=by rw [he];simp
      simpa using this
    rw [ho]
    have:=s_ev1 hE (K:=fun st'=>awl E ops r st' K) (next:=wpOps E.P ops Q (List.range' (pre.length + 1) r.length)) (Q:=Q) h hs (fun st' a' w' hk hs'=>by
      have:=awl_ok hE hQ r (pre ++ [o]) st' a' w' (by rw [he];simp) hk hs'
      simpa using this)
    simp only
    split at this
    · rename_i hw
      rw [if_pos hw]
      exact .inl this
    · rename_i hw
      rw [if_neg hw]
      exact this
def AWr (E : Env) (c : Code) (st : St) (Q : Exit → St → Prop) : Prop :=
  ∀ w0 oa a w,SR w0 oa st a w → c.wp E.P (fun e a' w'=>∃ st',Q e st' ∧ SR w0 oa st' a' w') a w
theorem AWr.mono {E : Env} {c : Code} {st : St} {Q Q' : Exit → St → Prop} (h : AWr E c st Q) (hq : ∀ e s,Q e s → Q' e s) : AWr E c st Q' :=
  fun w0 oa a w hs=>wp_mono (h w0 oa a w hs) fun e a w ⟨s,h1,h2⟩=>⟨s,hq _ _ h1,h2⟩
theorem AWr.weak {E : Env} {c : Code} {st st' : St} {Q : Exit → St → Prop} (h : AWr E c st' Q) (hw : ∀ w0 oa a w,SR w0 oa st a w → SR w0 oa st' a w) : AWr E c st Q:=fun w0 oa a w hs=>h w0 oa a w (hw _ _ _ _ hs)
theorem AWr.skip {E : Env} {st : St} {Q : Exit → St → Prop} (h : Q .normal st) : AWr E .skip st Q:=fun _ _ _ _ hs=>wp_skip ⟨st,h,hs⟩
theorem AWr.exit {E : Env} {st : St} {Q : Exit → St → Prop} {id : Nat} (h : Q (.exit id) st) : AWr E (.exit id) st Q:=fun _ _ _ _ hs=>wp_exit ⟨st,h,hs⟩
theorem AWr.ret {E : Env} {st : St} {Q : Exit → St → Prop} (h : Q .ret st) : AWr E .ret st Q:=fun _ _ _ _ hs=>wp_ret ⟨st,h,hs⟩
def thenR (next : St → Prop) (Q : Exit → St → Prop) : Exit → St → Prop
  | .normal,s=>next s
  | e,s=>Q e s
theorem AWr.seq {E : Env} {x y : Code} {st : St} {Q : Exit → St → Prop} (h : AWr E x st (thenR (fun s=>AWr E y s Q) Q)) : AWr E (.seq x y) st Q:=by
  intro w0 oa a w hs
  refine wp_seq (wp_mono (h w0 oa a w hs) fun e a' w' ⟨s,h1,h2⟩=>?_)
  cases e with
  | normal=>exact h1 w0 oa a' w' h2
  | _=>exact ⟨s,h1,h2⟩
theorem AWr.cond {E : Env} {c : Operand} {x y : Code} {st : St} {Q : Exit → St → Prop} {b : Bool} (hc : st.ev c = .d (.v (.bool b))) (ht : b = true → AWr E x st Q) (hf : b = false → AWr E y st Q) : AWr E (.cond c x y) st Q:=by
  intro w0 oa a w hs
  obtain ⟨φ,hs'⟩:=hs.open
  have e1:=hs'.ev c
  rw [hc] at e1
  refine wp_cond (vr_v e1) ?_
  cases b with
  | true=>exact ht rfl w0 oa a w hs
  | false=>exact hf rfl w0 oa a w hs
def blockR (id : Nat) (Q : Exit → St → Prop) : Exit → St → Prop
  | .exit i,s=>if i = id then Q .normal s else Q (.exit i) s
  | e,s=>Q e s
theorem AWr.block {E : Env} {id : Nat} {c : Code} {st : St} {Q : Exit → St → Prop} (h : AWr E c st (blockR id Q)) : AWr E (.block id c) st Q:=by
  intro w0 oa a w hs
  refine wp_block (wp_mono (h w0 oa a w hs) fun e a' w' ⟨s,h1,h2⟩=>?_)
  cases e with
  | exit i =>
    simp only [blockR] at h1
    simp only [Exit.inBlock]
    split at h1
    · rename_i hi;rw [if_pos hi];exact ⟨s,h1,h2⟩
    · rename_i hi;rw [if_neg hi];exact ⟨s,h1,h2⟩
  | _=>exact ⟨s,h1,h2⟩
def keepL (tm : List (Nat × V)) : List Nat → List (Nat × V)
  | []=>[]
  | k :: r=>(k,gt tm k) :: keepL tm r
def St.keep (st : St) (l : List Nat) : St:={ st with tm:=keepL st.tm l }
theorem gt_keep (st : St) (l : List Nat) (k : Nat) : gt (st.keep l).tm k = if k ∈ l then gt st.tm k else .junk:=by
  simp only [St.keep]
  induction l with
  | nil=>simp [gt,keepL]
  | cons j r ih =>
    simp only [keepL,gt]
    by_cases h : k = j
    · subst h;simp
    · rw [if_neg h,ih];simp [h]
theorem keep_sr {w0 w : World} {oa : OA} {st : St} {a : Act} (l : List Nat) (hs : SR w0 oa st a w) : SR w0 oa (st.keep l) a w:=by
  obtain ⟨φ,h1,h2,h3,h4⟩:=hs
  refine ⟨φ,h1,h2,h3,fun k=>?_⟩
  rw [gt_keep]
  split
  · exact h4 k
  · exact .junk _
theorem AWr.region {E : Env} (hE : E.Ok) {id : Nat} {ops : Array Oper} {st : St} {Q : Exit → St → Prop} (l : List Nat) (h : awl E ops ops.toList st fun s=>Q .normal (s.keep l)) : AWr E (.region id ops false) st Q:=by
  intro w0 oa a w hs
  refine wp_region ?_
  have:=awl_ok (ops:=ops) hE (w0:=w0) (oa:=oa) (Q:=fun e a' w'=>∃ st',Q e st' ∧ SR w0 oa st' a' w') (K:=fun s=>Q .normal (s.keep l)) (fun st' a' w' hk hs'=>⟨_,hk,keep_sr l hs'⟩) ops.toList [] st a w rfl h hs
  simpa [List.range_eq_range'] using this
theorem AWr.loop {E : Env} {c : Code} {st : St} {Q : Exit → St → Prop} {ι : Type} (S : ι → St) (G : ι → Prop) (μ : ι → Nat) (i0 : ι) (g0 : G i0) (h0 : ∀ w0 oa a w,SR w0 oa st a w → SR w0 oa (S i0) a w)
    (round : ∀ i,G i → AWr E c (S i) (thenR (fun s=>∃ j,G j ∧ μ j < μ i ∧ ∀ w0 oa a w,SR w0 oa s a w → SR w0 oa (S j) a w) Q)) : AWr E (.loop c) st Q:=by
  intro w0 oa a w hs
  refine wp_loop_ghost (fun n a w=>∃ i,μ i = n ∧ G i ∧ SR w0 oa (S i) a w) (μ i0) ⟨i0,rfl,g0,h0 w0 oa a w hs⟩ ?_
  rintro n a w ⟨i,rfl,hg,hs⟩
  refine wp_mono (round i hg w0 oa a w hs) fun e a' w' ⟨s,h1,h2⟩=>?_
  cases e with
  | normal =>
    obtain ⟨j,hj,hlt,hw⟩:=h1
    exact ⟨μ j,hlt,j,rfl,hj,hw _ _ _ _ h2⟩
  | _=>exact ⟨s,h1,h2⟩
def resV (P : Program) (st : St) : ResultVar → Option V
  | .tmp t=>some (gt st.tm t)
  | .cell c t=>match gt st.tm c with
    | .ptr id off=>match go st.hp id with
      | some (.box l)=>match tk P t with
        | some (b,n)=>ldV b n (l.drop off)
        | none=>none
      | _=>none
    | _=>none
def resM (tmps : Array Value) : ResultVar → Sem Value
  | .tmp t=>pure (tmps.getD t undef)
  | .cell a t=>do loadVar t (← asAddr (tmps.getD a undef))
theorem results_eq (fn : Func) (tmps : Array Value) : results fn tmps = (do
    let vs ← fn.results.mapM (resM tmps)
    pure (if h : vs.size = 1 then vs[0] else .tuple vs)):=by
  unfold results
  congr 1
theorem resV_ok {P : Program} {w0 w : World} {oa : OA} {φ : Nat → Option Value} {st : St} {a : Act} (hs : SRp w0 oa φ st a w) {r : ResultVar} {v : V} (h : resV P st r = some v) :
    ∃ y,(resM a.tmps r).run P w = .ok y w ∧ VR φ w (okB w0 oa φ (go st.hp) w) v y:=by
  cases r with
  | tmp t =>
    simp only [resV,Option.some.injEq] at h
    subst h
    exact ⟨_,rfl,hs.tm t⟩
  | cell c t =>
    simp only [resV] at h
    split at h
    case h_2=>cases h
    rename_i id off hc
    split at h
    case h_2=>cases h
    rename_i l hg
    split at h
    case h_2=>cases h
    rename_i b n ht
    have e1:=hs.tm c
    rw [hc] at e1
    obtain ⟨bb,hb,e1⟩:=vr_ptr e1
    obtain ⟨bb',f,hu,hw⟩:=box_win hs.hr hg
    obtain rfl : bb = bb':=by have:=hb.symm.trans hu;simpa using this
    obtain ⟨y,hy,hvy⟩:=win_load (hw.drop off) ht h
    refine ⟨y,?_,hvy⟩
    simp only [resM,e1,asAddr]
    simpa using hy
def resL (P : Program) (st : St) : List ResultVar → Option (List V)
  | []=>some []
  | r :: rs=>match resV P st r with
    | some v=>(resL P st rs).map (v :: ·)
    | none=>none
def resW (P : Program) (st : St) (rs : Array ResultVar) : Option V :=
  match resL P st rs.toList with
  | some [v]=>some v
  | some l=>some (.tup l)
  | none=>none
theorem resL_ok {P : Program} {w0 w : World} {oa : OA} {φ : Nat → Option Value} {st : St} {a : Act} (hs : SRp w0 oa φ st a w) : ∀ {l : List ResultVar} {vs : List V},resL P st l = some vs →
    ∃ ys : List Value,(l.mapM (resM a.tmps)).run P w = .ok ys w ∧ ys.length = vs.length ∧
      ∀ (j : Nat) (x : V) (y : Value),vs[j]? = some x → ys[j]? = some y → VR φ w (okB w0 oa φ (go st.hp) w) x y
  | [],vs,h=>by
    simp only [resL,Option.some.injEq] at h
    subst h
    exact ⟨[],by simp,rfl,by simp⟩
  | r :: l,vs,h=>by
    simp only [resL] at h
    split at h
    case h_2=>cases h
    rename_i v hv
    obtain ⟨vs',hvs,rfl⟩:=Option.map_eq_some_iff.1 h
    obtain ⟨y,hy,hvy⟩:=resV_ok hs hv
    obtain ⟨ys,h1,h2,h3⟩:=resL_ok hs hvs
    refine ⟨y :: ys,?_,by simp [h2],fun j x z hx hz=>?_⟩
    · rw [List.mapM_cons]
      simp only [Sem.run_bind]
      rw [hy]
      simp only [Result.andThen_ok]
      rw [h1]
      simp
    · cases j with
      | zero=>simp at hx hz;subst hx;subst hz;exact hvy
      | succ j=>exact h3 j x z (by simpa using hx) (by simpa using hz)
theorem resW_ok {P : Program} {w0 w : World} {oa : OA} {φ : Nat → Option Value} {st : St} {a : Act} (hs : SRp w0 oa φ st a w) {fn : Func} {v : V} (h : resW P st fn.results = some v) :
    ∃ y,(results fn a.tmps).run P w = .ok y w ∧ VR φ w (okB w0 oa φ (go st.hp) w) v y:=by
  unfold resW at h
  have hm : ∀ vs,resL P st fn.results.toList = some vs → ∃ ys : List Value,(fn.results.mapM (resM a.tmps)).run P w = .ok ys.toArray w ∧ ys.length = vs.length ∧
      ∀ (j : Nat) (x : V) (y : Value),vs[j]? = some x → ys[j]? = some y → VR φ w (okB w0 oa φ (go st.hp) w) x y:=by
    intro vs hvs
    obtain ⟨ys,h1,h2,h3⟩:=resL_ok hs hvs
    refine ⟨ys,?_,h2,h3⟩
    rw [Array.mapM_eq_mapM_toList]
    simp only [Sem.run_map]
    rw [h1]
    rfl
  split at h
  · rename_i v' hv'
    cases h
    obtain ⟨ys,h1,h2,h3⟩:=hm _ hv'
    match ys,h2 with
    | [y],_ =>
      refine ⟨y,?_,h3 0 _ y rfl rfl⟩
      rw [results_eq,Sem.run_bind,h1]
      rfl
  · rename_i l hne hl
    cases h
    obtain ⟨ys,h1,h2,h3⟩:=hm _ hl
    refine ⟨.tuple ys.toArray,?_,.tup _ _ (by simpa using h2) (fun j x y hx hy=>h3 j x y hx (by simpa using hy))⟩
    rw [results_eq,Sem.run_bind,h1]
    simp only [Result.andThen_ok,Sem.run_pure]
    have hlen : ¬ ys.toArray.size = 1:=by
      intro he
      match l,hne with
      | [x],hne=>exact hne x rfl
      | [],_=>simp at h2;subst h2;simp at he
      | x :: y :: r,_=>simp at he h2;omega
    rw [dif_neg hlen]
  · cases h
def Ends (P : Program) (rs : Array ResultVar) (out : Out) (e : Exit) (st : St) : Prop :=
  (e = .normal ∨ e = .ret) ∧ ∃ st2,(∀ w0 oa a w,SR w0 oa st a w → SR w0 oa st2 a w) ∧ ∃ ρ,resW P st2 rs = some (ren ρ out.val) ∧ va tt (inDom out.obs) out.val ∧ Sub ρ st2.hp out.obs
def tmOf : Nat → List D → List (Nat × V)
  | _,[]=>[]
  | i,d :: r=>(i,ofD d) :: tmOf (i + 1) r
theorem gt_tmOf : ∀ (ds : List D) (i k : Nat),gt (tmOf i ds) k = .junk ∨ ∃ j d,k = i + j ∧ ds[j]? = some d ∧ gt (tmOf i ds) k = ofD d
  | [],i,k=>.inl rfl
  | d :: r,i,k=>by
    simp only [tmOf,gt]
    split
    · rename_i e;exact .inr ⟨0,d,by omega,rfl,rfl⟩
    · rcases gt_tmOf r (i + 1) k with h|⟨j,d',h1,h2,h3⟩
      · exact .inl h
      · exact .inr ⟨j + 1,d',by omega,by simpa using h2,h3⟩
def vmOf (i : Nat) : List V → List (Nat × V)
  | []=>[]
  | x :: r=>(i,x) :: vmOf (i + 1) r
theorem gt_vmOf : ∀ (as : List V) (i k : Nat),gt (vmOf i as) k = .junk ∨ ∃ j x,k = i + j ∧ as[j]? = some x ∧ gt (vmOf i as) k = x
  | [],i,k=>.inl rfl
  | x :: r,i,k=>by
    simp only [vmOf,gt]
    split
    · rename_i e;exact .inr ⟨0,x,by omega,rfl,rfl⟩
    · rcases gt_vmOf r (i + 1) k with h|⟨j,y,h1,h2,h3⟩
      · exact .inl h
      · exact .inr ⟨j + 1,y,by omega,by simpa using h2,h3⟩
theorem goodM_bodyr {E : Env} {f : FuncId} {fn : Func} {c : Code} {nt : Nat} {rs : Array ResultVar} (hf : E.P.funcs[f]? = some fn) (hb : fn.body = some c) (hnt : fn.ntmps = nt) (hrs : fn.results = rs) {Sp : List V → List (Nat × Ob) → Out → Prop}
    (h : ∀ as lent out,Sp as lent out → as.length ≤ nt ∧ AWr E c ⟨vmOf 0 as,lent,nt⟩ (Ends E.P rs out)) : GoodM E.P f Sp:=by
  subst hnt hrs
  intro as lent out hsp oa φ0 args w hsz hr hrd
  obtain ⟨hle,hw⟩:=h as lent out hsp
  refine calls_of_wp hf hb ?_
  have hsr : SR w oa ⟨vmOf 0 as,lent,fn.ntmps⟩ { tmps:=args ++ Array.replicate (fn.ntmps - args.size) undef,defers:=[] } w:=by
    refine ⟨φ0,hr,by simp;omega,rfl,fun k=>?_⟩
    rcases gt_vmOf as 0 k with hj|⟨j,x,hk,hd,he⟩
    · simp only at hj ⊢;rw [hj];exact .junk _
    · simp only at he ⊢
      rw [he]
      obtain rfl : k = j:=by omega
      have hlt : k < args.size:=by rw [hsz];exact (List.getElem?_eq_some_iff.1 hd).1
      have hg : (args ++ Array.replicate (fn.ntmps - args.size) undef).getD k undef = args[k]:=by
        simp [Array.getD_eq_getD_getElem?,Array.getElem?_append_left hlt,hlt]
      rw [hg]
      exact hrd k x args[k] hd (by simp)
  refine wp_mono (hw w oa _ w hsr) fun e a' w' ⟨st',he,hs'⟩=>?_
  obtain ⟨hee,st2,hwk,ρ,h1,h2,h3⟩:=he
  obtain ⟨φ,hs'⟩:=(hwk _ _ _ _ hs').open
  obtain ⟨y,hy,hvy⟩:=resW_ok hs' h1
  obtain ⟨φ',g1,g2,g3⟩:=h3.hr hs'.hr
  have hv':=vr_back g3 (fun d y _ hr=>hr.mono (fun _ _=>rfl) g2) hvy h2
  rcases hee with rfl|rfl
  · exact ⟨hs'.df,y,hy,y,rfl,φ',g1,hv'⟩
  · exact ⟨hs'.df,y,hy,y,rfl,φ',g1,hv'⟩
theorem vmOf_ofD : ∀ (ds : List D) (i : Nat),vmOf i (ds.map ofD) = tmOf i ds
  | [],_=>rfl
  | d :: r,i=>by simp only [List.map_cons,vmOf,tmOf,vmOf_ofD r]
theorem HR.none (w : World) (oa : OA) (hp : ∀ id,oa.pin id = Option.none) : HR w oa (fun _=>Option.none) (go []) w where
  below:=Bel.refl _ _
  obj id o ho:=by cases ho
  mine id o v b ho:=by cases ho
  pin id v hv:=by rw [hp] at hv;cases hv
  fresh _ _:=rfl
  inj id id' o o' v v' ho:=by cases ho
theorem good_bodyr {E : Env} {f : FuncId} {fn : Func} {c : Code} {nt : Nat} {rs : Array ResultVar} (hf : E.P.funcs[f]? = some fn) (hb : fn.body = some c) (hnt : fn.ntmps = nt) (hrs : fn.results = rs) {Sp : List D → Out → Prop}
    (h : ∀ ds out,Sp ds out → ds.length ≤ nt ∧ AWr E c ⟨tmOf 0 ds,[],nt⟩ (Ends E.P rs out)) : Good E.P f Sp:=by
  intro ds out hsp rd args w hsz hrd
  obtain ⟨hle,hw⟩:=h ds out hsp
  have hM : GoodM E.P f (fun as lent o=>as = ds.map ofD ∧ lent = [] ∧ o = out):=goodM_bodyr hf hb hnt hrs fun as lent o ⟨h1,h2,h3⟩=>by
    subst h1 h2 h3
    rw [vmOf_ofD]
    exact ⟨by simpa using hle,hw⟩
  refine hM _ _ _ ⟨rfl,rfl,rfl⟩ (.no rd) (fun _=>none) args w (by simpa using hsz) (HR.none w _ fun _=>rfl) fun i x y hx hy=>?_
  rw [List.getElem?_map] at hx
  obtain ⟨d,hd,rfl⟩:=Option.map_eq_some_iff.1 hx
  exact ofD_vr ((hrd i d y hd hy).mono (fun _ _=>rfl) fun b hb=>⟨.inl ⟨.inl hb.1,hb.2⟩,fun id o v ho=>by simp [go] at ho⟩)
end Go.Proofs.Ytleahjfgedfgmaa.Am
end
section
set_option linter.unusedVariables false
set_option linter.unusedSimpArgs false
namespace Go.Proofs.Ytleahjfgedfgmaa.Am
open Go Go.RowKit
def ifc {α : Type} (b : Bool) (u h : List α) : List α :=
  match u with
  | []=>h
  | p :: r=>if b = true then p :: ifc b r h else ifc b r h
theorem ifc_true {α : Type} (u h : List α) : ifc true u h = u ++ h:=by
  induction u with
  | nil=>rfl
  | cons p r ih=>simp [ifc,ih]
theorem ifc_false {α : Type} (u h : List α) : ifc false u h = h:=by
  induction u with
  | nil=>rfl
  | cons p r ih=>simp [ifc,ih]
def dl (d : Option Tmp) (x : V) : List (Nat × V):=match d with|some k=>[(k,x)]|none=>[]
def St.updIf (st : St) (b : Bool) (d : Option Tmp) (x : V) (u : List (Nat × Ob)) : St:={ tm:=ifc b (dl d x) st.tm,hp:=ifc b u st.hp,nt:=st.nt }
theorem updIf_true (st : St) (d : Option Tmp) (x : V) (u : List (Nat × Ob)) : st.updIf true d x u = st.upd d x u:=by
  cases d <;> simp [St.updIf,St.upd,St.put,ifc_true,dl]
theorem updIf_false (st : St) (d : Option Tmp) (x : V) (u : List (Nat × Ob)) : st.updIf false d x u = st:=by
  simp [St.updIf,ifc_false]
def Sg (m : Nat → Bool) : Nat → List Oper → List (V × List (Nat × Ob)) → St → St
  | i,o :: os,(x,u) :: ds,st=>Sg m (i + 1) os ds (st.updIf (m i) o.dst x u)
  | _,_,_,st=>st
theorem Sg_congr {m m' : Nat → Bool} : ∀ (os : List Oper) (ds : List (V × List (Nat × Ob))) (i : Nat) (st : St),(∀ j,i ≤ j → j < i + os.length → m j = m' j) → Sg m i os ds st = Sg m' i os ds st
  | [],_,_,_,_=>by simp [Sg]
  | o :: os,[],_,_,_=>by simp [Sg]
  | o :: os,(x,u) :: ds,i,st,h=>by
    simp only [Sg]
    rw [h i (Nat.le_refl _) (by simp),Sg_congr os ds (i + 1) _ fun j h1 h2=>h j (by omega) (by simp only [List.length_cons];omega)]
theorem Sg_nt {m : Nat → Bool} : ∀ (os : List Oper) (ds : List (V × List (Nat × Ob))) (i : Nat) (st : St),(Sg m i os ds st).nt = st.nt
  | [],_,_,_=>by simp [Sg]
  | o :: os,[],_,_=>by simp [Sg]
  | o :: os,(x,u) :: ds,i,st=>by simp only [Sg];rw [Sg_nt os ds];rfl
theorem Sg_all : ∀ (os : List Oper) (ds : List (V × List (Nat × Ob))) (i : Nat) (st : St),Sg (fun _=>false) i os ds st = st
  | [],_,_,_=>by simp [Sg]
  | o :: os,[],_,_=>by simp [Sg]
  | o :: os,(x,u) :: ds,i,st=>by simp only [Sg,updIf_false];exact Sg_all os ds _ _
def Over (d : Option Tmp) (x : V) (u : List (Nat × Ob)) (st0 st1 : St) : Prop :=
  (∀ k,gt st1.tm k = if some k = d then x else gt st0.tm k) ∧ (∀ k,go st1.hp k = match go u k with|some o=>some o|none=>go st0.hp k) ∧ st1.nt = st0.nt
theorem gt_dl (d : Option Tmp) (x : V) (l : List (Nat × V)) (k : Nat) : gt (dl d x ++ l) k = if some k = d then x else gt l k:=by
  cases d with
  | none=>simp [dl]
  | some j=>simp only [dl,List.singleton_append,gt];by_cases h : k = j <;> simp [h]
theorem Over.upd (st : St) (d : Option Tmp) (x : V) (u : List (Nat × Ob)) : Over d x u st (st.updIf true d x u):=by
  refine ⟨fun k=>?_,fun k=>?_,rfl⟩
  · simp only [St.updIf,ifc_true]
    exact gt_dl d x st.tm k
  · simp only [St.updIf,ifc_true]
    exact go_app u st.hp k
theorem Over.step {d d' : Option Tmp} {x x' : V} {u u' : List (Nat × Ob)} {st0 st1 : St} (h : Over d x u st0 st1) (b : Bool) (hd : b = true → d = none ∨ d ≠ d') (hk : b = true → ∀ k,go u k = none ∨ go u' k = none) :
    Over d x u (st0.updIf b d' x' u') (st1.updIf b d' x' u'):=by
  cases b with
  | false=>rw [updIf_false,updIf_false];exact h
  | true =>
    refine ⟨fun k=>?_,fun k=>?_,h.2.2⟩
    · simp only [St.updIf,ifc_true]
      rw [gt_dl,gt_dl,h.1 k]
      by_cases h1 : some k = d'
      · rw [if_pos h1,if_pos h1,if_neg]
        intro h2
        rcases hd rfl with h3|h3
        · rw [h3] at h2;cases h2
        · exact h3 (by rw [← h2,h1])
      · rw [if_neg h1,if_neg h1]
    · simp only [St.updIf,ifc_true]
      rw [go_app,go_app,h.2.1 k]
      rcases hk rfl k with h1|h1
      · rw [h1]
      · rw [h1]
theorem Over.rest {m : Nat → Bool} {d : Option Tmp} {x : V} {u : List (Nat × Ob)} : ∀ (os : List Oper) (ds : List (V × List (Nat × Ob))) (i : Nat) (st0 st1 : St),Over d x u st0 st1 →
    (∀ j o p,os[j]? = some o → ds[j]? = some p → m (i + j) = true → (d = none ∨ d ≠ o.dst) ∧ ∀ k,go u k = none ∨ go p.2 k = none) → Over d x u (Sg m i os ds st0) (Sg m i os ds st1)
  | [],_,_,_,_,h,_=>by simpa [Sg] using h
  | o :: os,[],_,_,_,h,_=>by simpa [Sg] using h
  | o :: os,(x',u') :: ds,i,st0,st1,h,hc=>by
    simp only [Sg]
    refine Over.rest os ds (i + 1) _ _ (h.step (m i) (fun hm=>(hc 0 o (x',u') rfl rfl hm).1) (fun hm=>(hc 0 o (x',u') rfl rfl hm).2)) fun j o' p ho hp hm=>?_
    exact hc (j + 1) o' p (by simpa using ho) (by simpa using hp) (by rw [show i + (j + 1) = i + 1 + j by omega];exact hm)
def up (m : Nat → Bool) (i : Nat) : Nat → Bool:=fun j=>if j = i then true else m j
theorem Over.at {m : Nat → Bool} : ∀ (os : List Oper) (ds : List (V × List (Nat × Ob))) (s i : Nat) (st : St) (o : Oper) (x : V) (u : List (Nat × Ob)),os[i]? = some o → ds[i]? = some (x,u) → m (s + i) = false →
    (∀ j o' p,i < j → os[j]? = some o' → ds[j]? = some p → m (s + j) = true → (o.dst = none ∨ o.dst ≠ o'.dst) ∧ ∀ k,go u k = none ∨ go p.2 k = none) → Over o.dst x u (Sg m s os ds st) (Sg (up m (s + i)) s os ds st)
  | [],_,_,_,_,_,_,_,ho,_,_,_=>by simp at ho
  | o' :: os,[],_,_,_,_,_,_,_,hd,_,_=>by simp at hd
  | o' :: os,(x',u') :: ds,s,i,st,o,x,u,ho,hd,hm,hc=>by
    cases i with
    | zero =>
      simp at ho hd
      obtain ⟨rfl,rfl⟩:=hd
      subst ho
      simp only [Sg]
      simp only [Nat.add_zero] at hm
      have e1 : up m (s + 0) s = true:=by unfold up;rw [if_pos (by omega)]
      rw [e1,hm,updIf_false]
      have e2 : Sg (up m (s + 0)) (s + 1) os ds (st.updIf true o'.dst x' u') = Sg m (s + 1) os ds (st.updIf true o'.dst x' u'):=Sg_congr os ds (s + 1) _ fun j h1 _=>by simp only [up];rw [if_neg (by omega)]
      rw [e2]
      refine Over.rest os ds (s + 1) _ _ (Over.upd st o'.dst x' u') fun j o2 p h1 h2 h3=>?_
      exact hc (j + 1) o2 p (by omega) (by simpa using h1) (by simpa using h2) (by rw [show s + (j + 1) = s + 1 + j by omega];exact h3)
    | succ i =>
      simp only [Sg]
      have e1 : up m (s + (i + 1)) s = m s:=by unfold up;rw [if_neg (by omega)]
      rw [e1]
      have:=Over.at (m:=m) os ds (s + 1) i (st.updIf (m s) o'.dst x' u') o x u (by simpa using ho) (by simpa using hd) (by rw [show s + 1 + i = s + (i + 1) by omega];exact hm) fun j o2 p h0 h1 h2 h3 =>
        hc (j + 1) o2 p (by omega) (by simpa using h1) (by simpa using h2) (by rw [show s + (j + 1) = s + 1 + j by omega];exact h3)
      rwa [show s + 1 + i = s + (i + 1) by omega] at this
theorem SR.congr {w0 w : World} {oa : OA} {st st' : St} {a : Act} (hs : SR w0 oa st a w) (h1 : ∀ k,gt st'.tm k = gt st.tm k) (h2 : ∀ k,go st'.hp k = go st.hp k) (h3 : st'.nt = st.nt) : SR w0 oa st' a w:=by
  have e : go st'.hp = go st.hp:=funext h2
  obtain ⟨φ,q1,q2,q3,q4⟩:=hs
  refine ⟨φ,by rw [e];exact q1,by rw [h3];exact q2,q3,fun k=>?_⟩
  rw [e,h1 k]
  exact q4 k
theorem Over.sr {w0 w : World} {oa : OA} {st st1 : St} {a : Act} {d : Option Tmp} {x : V} {u : List (Nat × Ob)} (h : Over d x u st st1) (hs : SR w0 oa (st.upd d x u) a w) : SR w0 oa st1 a w:=by
  rw [← updIf_true] at hs
  have h2:=Over.upd st d x u
  exact hs.congr (fun k=>by rw [h.1 k,h2.1 k]) (fun k=>by rw [h.2.1 k,h2.2.1 k]) (by rw [h.2.2,h2.2.2])
def depsA (o : Oper) : List Nat:=(o.after.toList.filter (Region.binds .any ·)).map (·.on)
def bitsOk (ops : Array Oper) (B : List Nat) : Bool :=
  (List.range ops.size).all fun i=>match ops[i]? with
  | some o=>(depsA o).all (fun d=>decide (d < i)) && (B.getD i 0 == (depsA o).foldl (fun s d=>s ||| (2 ^ d ||| B.getD d 0)) 0)
  | none=>false
theorem fold_bit (B : List Nat) (j : Nat) : ∀ (l : List Nat) (s : Nat),(l.foldl (fun s d=>s ||| (2 ^ d ||| B.getD d 0)) s).testBit j = true → s.testBit j = true ∨ ∃ d ∈ l,d = j ∨ (B.getD d 0).testBit j = true
  | [],s,h=>.inl h
  | d :: r,s,h=>by
    simp only [List.foldl_cons] at h
    rcases fold_bit B j r _ h with h1|⟨d',h2,h3⟩
    · rw [Nat.testBit_or,Nat.testBit_or,Bool.or_eq_true,Bool.or_eq_true] at h1
      rcases h1 with h1|h1|h1
      · exact .inl h1
      · refine .inr ⟨d,by simp,.inl ?_⟩
        rw [Nat.testBit_two_pow] at h1
        simpa using h1
      · exact .inr ⟨d,by simp,.inr h1⟩
    · exact .inr ⟨d',by simp [h2],h3⟩
theorem bitsOk_row {ops : Array Oper} {B : List Nat} (h : bitsOk ops B = true) {i : Nat} {o : Oper} (ho : ops[i]? = some o) : (∀ d ∈ depsA o,d < i) ∧ B.getD i 0 = (depsA o).foldl (fun s d=>s ||| (2 ^ d ||| B.getD d 0)) 0:=by
  have hi : i < ops.size:=(Array.getElem?_eq_some_iff.1 ho).1
  have:=List.all_eq_true.1 h i (List.mem_range.2 hi)
  rw [ho] at this
  simp only [Bool.and_eq_true,List.all_eq_true,decide_eq_true_eq,beq_iff_eq] at this
  exact this
def Shutd (ops : Array Oper) (m : Nat → Bool) : Prop:=∀ i o,ops[i]? = some o → m i = true → ∀ d ∈ depsA o,m d = true
theorem anc_listed {ops : Array Oper} {B : List Nat} (hB : bitsOk ops B = true) {m : Nat → Bool} (hc : Shutd ops m) : ∀ (n i : Nat) (o : Oper),i ≤ n → ops[i]? = some o → (∀ d ∈ depsA o,m d = true) → ∀ j,(B.getD i 0).testBit j = true → m j = true:=by
  intro n
  induction n with
  | zero =>
    intro i o hi ho hd j hj
    obtain ⟨h1,h2⟩:=bitsOk_row hB ho
    rw [h2] at hj
    rcases fold_bit B j _ 0 hj with h3|⟨d,h3,h4⟩
    · simp at h3
    · have:=h1 d h3;omega
  | succ n ih =>
    intro i o hi ho hd j hj
    obtain ⟨h1,h2⟩:=bitsOk_row hB ho
    rw [h2] at hj
    rcases fold_bit B j _ 0 hj with h3|⟨d,h3,h4⟩
    · simp at h3
    · rcases h4 with rfl|h4
      · exact hd _ h3
      · have hlt:=h1 d h3
        have hdi : d < ops.size:=by have:=(Array.getElem?_eq_some_iff.1 ho).1;omega
        exact ih d ops[d] (by omega) (by simp) (hc d _ (by simp) (hd d h3)) j h4
def mk (B : List Nat) (i : Nat) (b : Nat → Bool) (j : Nat) : Bool:=if (B.getD i 0).testBit j = true then true else if j = i then false else if (B.getD j 0).testBit i = true then false else b j
def awc (E : Env) (ops : Array Oper) : List Oper → St → List (V × List (Nat × Ob)) → (List (V × List (Nat × Ob)) → St → Prop) → Prop
  | [],st,acc,K=>K acc st
  | o :: r,st,acc,K=>ev1 E ops o st fun x u=>awc E ops r (st.upd o.dst x u) (acc ++ [(x,u)]) K
def each (E : Env) (ops : Array Oper) (B : List Nat) (st : St) (δ : List (V × List (Nat × Ob))) : Nat → List Oper → List (V × List (Nat × Ob)) → Prop
  | i,o :: os,(x,u) :: ds=>(∀ b,ev1 E ops o (Sg (mk B i b) 0 ops.toList δ st) fun x' u'=>(Sg (mk B i b) 0 ops.toList δ st).upd o.dst x' u' = (Sg (mk B i b) 0 ops.toList δ st).upd o.dst x u) ∧ each E ops B st δ (i + 1) os ds
  | _,[],[]=>True
  | _,_,_=>False
def pair1 (B : List Nat) (i : Nat) (o : Oper) (u : List (Nat × Ob)) : Nat → List Oper → List (V × List (Nat × Ob)) → Prop
  | j,o' :: os,(_,u') :: ds=>((B.getD j 0).testBit i = true ∨ ((o.dst = none ∨ o.dst ≠ o'.dst) ∧ ∀ p ∈ u,∀ q ∈ u',p.1 ≠ q.1)) ∧ pair1 B i o u (j + 1) os ds
  | _,_,_=>True
def pairs (B : List Nat) : Nat → List Oper → List (V × List (Nat × Ob)) → Prop
  | i,o :: os,(_,u) :: ds=>pair1 B i o u (i + 1) os ds ∧ pairs B (i + 1) os ds
  | _,_,_=>True
theorem each_at {E : Env} {ops : Array Oper} {B : List Nat} {st : St} {δ : List (V × List (Nat × Ob))} : ∀ (os : List Oper) (ds : List (V × List (Nat × Ob))) (s i : Nat) (o : Oper),each E ops B st δ s os ds → os[i]? = some o → ∃ x u,ds[i]? = some (x,u) ∧ ∀ b,ev1 E ops o (Sg (mk B (s + i) b) 0 ops.toList δ st) fun x' u'=>(Sg (mk B (s + i) b) 0 ops.toList δ st).upd o.dst x' u' = (Sg (mk B (s + i) b) 0 ops.toList δ st).upd o.dst x u
  | [],_,_,_,_,_,h=>by simp at h
  | o' :: os,[],_,_,_,h,_=>by simp [each] at h
  | o' :: os,(x,u) :: ds,s,i,o,h,ho=>by
    simp only [each] at h
    cases i with
    | zero =>
      simp at ho
      subst ho
      exact ⟨x,u,rfl,h.1⟩
    | succ i =>
      obtain ⟨x2,u2,h1,h2⟩:=each_at os ds (s + 1) i o h.2 (by simpa using ho)
      refine ⟨x2,u2,by simpa using h1,fun b=>?_⟩
      have:=h2 b
      rwa [show s + 1 + i = s + (i + 1) by omega] at this
theorem go_mem_key {u : List (Nat × Ob)} {k : Nat} {o : Ob} (h : go u k = some o) : ∃ p ∈ u,p.1 = k:=⟨_,go_mem h,rfl⟩
theorem pair1_at {B : List Nat} {i : Nat} {o : Oper} {u : List (Nat × Ob)} : ∀ (os : List Oper) (ds : List (V × List (Nat × Ob))) (s j : Nat) (o' : Oper) (p : V × List (Nat × Ob)),pair1 B i o u s os ds → os[j]? = some o' → ds[j]? = some p →
    (B.getD (s + j) 0).testBit i = true ∨ ((o.dst = none ∨ o.dst ≠ o'.dst) ∧ ∀ k,go u k = none ∨ go p.2 k = none)
  | [],_,_,_,_,_,_,h,_=>by simp at h
  | o2 :: os,[],_,_,_,_,_,_,h=>by simp at h
  | o2 :: os,(x2,u2) :: ds,s,j,o',p,h,ho,hp=>by
    simp only [pair1] at h
    cases j with
    | zero =>
      simp at ho hp
      subst ho hp
      refine h.1.imp id fun h1=>⟨h1.1,fun k=>?_⟩
      cases h2 : go u k with
      | none=>exact .inl rfl
      | some z =>
        cases h3 : go u2 k with
        | none=>exact .inr rfl
        | some z' =>
          obtain ⟨p1,hp1,e1⟩:=go_mem_key h2
          obtain ⟨p2,hp2,e2⟩:=go_mem_key h3
          exact absurd (by rw [e1,e2]) (h1.2 p1 hp1 p2 hp2)
    | succ j =>
      have:=pair1_at os ds (s + 1) j o' p h.2 (by simpa using ho) (by simpa using hp)
      rwa [show s + 1 + j = s + (j + 1) by omega] at this
theorem pairs_at {B : List Nat} : ∀ (os : List Oper) (ds : List (V × List (Nat × Ob))) (s i j : Nat) (o o' : Oper) (q p : V × List (Nat × Ob)),pairs B s os ds → i < j → os[i]? = some o → ds[i]? = some q → os[j]? = some o' → ds[j]? = some p →
    (B.getD (s + j) 0).testBit (s + i) = true ∨ ((o.dst = none ∨ o.dst ≠ o'.dst) ∧ ∀ k,go q.2 k = none ∨ go p.2 k = none)
  | [],_,_,_,_,_,_,_,_,_,_,h,_,_,_=>by simp at h
  | o2 :: os,[],_,_,_,_,_,_,_,_,_,_,h,_,_=>by simp at h
  | o2 :: os,(x2,u2) :: ds,s,i,j,o,o',q,p,h,hij,ho,hq,ho',hp=>by
    simp only [pairs] at h
    obtain ⟨j,rfl⟩ : ∃ j',j = j' + 1:=⟨j - 1,by omega⟩
    cases i with
    | zero =>
      simp at ho hq
      subst ho hq
      have:=pair1_at os ds (s + 1) j o' p h.1 (by simpa using ho') (by simpa using hp)
      rwa [show s + 1 + j = s + (j + 1) by omega] at this
    | succ i =>
      have:=pairs_at os ds (s + 1) i j o o' q p h.2 (by omega) (by simpa using ho) (by simpa using hq) (by simpa using ho') (by simpa using hp)
      rwa [show s + 1 + j = s + (j + 1) by omega,show s + 1 + i = s + (i + 1) by omega] at this
def awd (E : Env) (ops : Array Oper) (B : List Nat) (st : St) (K : St → Prop) : Prop :=
  awc E ops ops.toList st [] fun δ s=>each E ops B st δ 0 ops.toList δ ∧ pairs B 0 ops.toList δ ∧ K s
theorem ex_pick {c x y : Operand} {o : Oper} {st : St} {K : V → List (Nat × Ob) → Prop} (h : e_pick c x y o st K) : ∃ x u,K x u:=by
  obtain ⟨_,h⟩:=h
  split at h
  · rename_i b _
    cases b with
    | true=>exact ⟨_,_,h.1 rfl⟩
    | false=>exact ⟨_,_,h.2 rfl⟩
  · exact h.elim
theorem ex_bin {P : Program} {Es : TypeId → Nat → Prop} {op : BinOp} {t : TypeId} {x y : V} {K : Value → Prop} (h : binW P Es op t x y K) : ∃ r,K r:=by
  unfold binW at h
  repeat' first|exact ⟨_,h⟩|exact h.elim|(obtain ⟨_,h⟩:=h)|split at h
theorem ex_evc {E : Env} {c : Call} {o : Oper} {st : St} {K : V → List (Nat × Ob) → Prop} (h : evc E c o st K) : ∃ x u,K x u:=by
  unfold evc at h
  split at h
  · split at h
    · obtain ⟨_,_,_,h⟩:=h
      split at h
      · obtain ⟨out,_,_,h⟩:=h;exact ⟨_,_,h⟩
      · exact h.elim
    · split at h
      · unfold e_atom at h
        repeat' first|exact ⟨_,_,h⟩|exact h.elim|(obtain ⟨_,h⟩:=h)|split at h
      split at h
      · obtain ⟨_,h⟩:=h
        split at h
        · obtain ⟨out,_,_,_,h⟩:=h;exact ⟨_,_,h⟩
        · exact h.elim
      · obtain ⟨_,h⟩:=h
        split at h
        · obtain ⟨out,_,_,_,h⟩:=h;exact ⟨_,_,h⟩
        · exact h.elim
  · unfold e_len at h
    repeat' first|exact ⟨_,_,h⟩|exact h.elim|(obtain ⟨_,h⟩:=h)|split at h
  · unfold e_cap at h
    repeat' first|exact ⟨_,_,h⟩|exact h.elim|(obtain ⟨_,h⟩:=h)|split at h
  · unfold e_app e_appZ at h
    repeat' first|exact ⟨_,_,h⟩|exact h.elim|(obtain ⟨_,h⟩:=h)|split at h
  · unfold e_cpy e_copyE e_copy at h
    repeat' first|exact ⟨_,_,h⟩|exact h.elim|(obtain ⟨_,h⟩:=h)|split at h
  · unfold e_mm at h
    repeat' first|exact ⟨_,_,h⟩|exact h.elim|(obtain ⟨_,h⟩:=h)|split at h
  · unfold e_mm at h
    repeat' first|exact ⟨_,_,h⟩|exact h.elim|(obtain ⟨_,h⟩:=h)|split at h
  · exact h.elim
theorem ex_evk {E : Env} {o : Oper} {st : St} {K : V → List (Nat × Ob) → Prop} (h : evk E o st K) : ∃ x u,K x u:=by
  unfold evk at h
  split at h
  · exact ⟨_,_,h.2⟩
  · exact ⟨_,_,h.2⟩
  · exact ex_pick h
  · unfold e_alloc at h
    repeat' first|exact ⟨_,_,h⟩|exact h.elim|(obtain ⟨_,h⟩:=h)|split at h
  · unfold e_box at h
    repeat' first|exact ⟨_,_,h⟩|exact h.elim|(obtain ⟨_,h⟩:=h)|split at h
  · unfold e_build at h
    repeat' first|exact ⟨_,_,h⟩|exact h.elim|(obtain ⟨_,h⟩:=h)|split at h
  · unfold e_lit at h
    repeat' first|exact ⟨_,_,h⟩|exact h.elim|(obtain ⟨_,h⟩:=h)|split at h
  · unfold e_load at h
    repeat' first|exact ⟨_,_,h⟩|exact h.elim|(obtain ⟨_,h⟩:=h)|split at h
  · unfold e_store at h
    repeat' first|exact ⟨_,_,h⟩|exact h.elim|(obtain ⟨_,h⟩:=h)|split at h
  · unfold e_nil at h
    repeat' first|exact ⟨_,_,h⟩|exact h.elim|(obtain ⟨_,h⟩:=h)|split at h
  · obtain ⟨r,h⟩:=ex_bin h.2;exact ⟨_,_,h⟩
  · unfold e_un at h
    repeat' first|exact ⟨_,_,h⟩|exact h.elim|(obtain ⟨_,h⟩:=h)|split at h
  · unfold e_cnv e_conv e_str e_mark at h
    repeat' first|exact ⟨_,_,h⟩|exact h.elim|(obtain ⟨_,h⟩:=h)|split at h
  · unfold e_make e_makeC at h
    repeat' first|exact ⟨_,_,h⟩|exact h.elim|(obtain ⟨_,h⟩:=h)|split at h
  · unfold e_cut at h
    repeat' first|exact ⟨_,_,h⟩|exact h.elim|(obtain ⟨_,h⟩:=h)|split at h
  · unfold e_field at h
    repeat' first|exact ⟨_,_,h⟩|exact h.elim|(obtain ⟨_,h⟩:=h)|split at h
  · unfold e_fld at h
    repeat' first|exact ⟨_,_,h⟩|exact h.elim|(obtain ⟨_,h⟩:=h)|split at h
  · unfold e_index at h
    repeat' first|exact ⟨_,_,h⟩|exact h.elim|(obtain ⟨_,h⟩:=h)|split at h
  · unfold e_extract at h
    repeat' first|exact ⟨_,_,h⟩|exact h.elim|(obtain ⟨_,h⟩:=h)|split at h
  · unfold e_mkmap at h
    repeat' first|exact ⟨_,_,h⟩|exact h.elim|(obtain ⟨_,h⟩:=h)|split at h
  · unfold e_lookup at h
    repeat' first|exact ⟨_,_,h⟩|exact h.elim|(obtain ⟨_,h⟩:=h)|split at h
  · unfold e_mapup at h
    repeat' first|exact ⟨_,_,h⟩|exact h.elim|(obtain ⟨_,h⟩:=h)|split at h
  · unfold e_s2a at h
    repeat' first|exact ⟨_,_,h⟩|exact h.elim|(obtain ⟨_,h⟩:=h)|split at h
  · exact ex_evc h
  · exact h.elim
theorem ex_ev1 {E : Env} {ops : Array Oper} {o : Oper} {st : St} {K : V → List (Nat × Ob) → Prop} (h : ev1 E ops o st K) : ∃ x u,K x u:=by
  unfold ev1 at h
  split at h
  · exact ex_evk h
  · rename_i j want _
    split at h
    · rename_i b _
      by_cases hb : b = want
      · exact ex_evk (h.1 hb)
      · have hne : b = !want:=by cases b <;> cases want <;> simp_all
        exact ⟨_,_,(h.2 hne).2⟩
    · exact ⟨_,_,h.2⟩
    · exact h.elim
theorem awc_ex {E : Env} {ops : Array Oper} {K : List (V × List (Nat × Ob)) → St → Prop} : ∀ (os : List Oper) (st : St) (acc : List (V × List (Nat × Ob))) (i : Nat),awc E ops os st acc K → ∃ δ,K (acc ++ δ) (Sg (fun _=>true) i os δ st) ∧ δ.length = os.length
  | [],st,acc,i,h=>⟨[],by simpa [awc,Sg] using h,rfl⟩
  | o :: r,st,acc,i,h=>by
    simp only [awc] at h
    obtain ⟨x,u,h⟩:=ex_ev1 h
    obtain ⟨δ,h1,h2⟩:=awc_ex r _ _ (i + 1) h
    refine ⟨(x,u) :: δ,?_,by simp [h2]⟩
    simp only [Sg,updIf_true]
    rw [List.append_assoc,List.singleton_append] at h1
    exact h1
theorem Bel.drew {w0 w : World} {oa : OA} (h : Bel w0 oa w) : Bel w0 oa w.drew:=h.step rfl rfl rfl (Nat.le_refl _) fun _ _ _=>rfl
theorem drew_sr {w0 w : World} {oa : OA} {st : St} {a : Act} (hs : SR w0 oa st a w) : SR w0 oa st a w.drew:=by
  obtain ⟨φ,h1,h2,h3,h4⟩:=hs
  have hb : ∀ b,okB w0 oa φ (go st.hp) w b → okB w0 oa φ (go st.hp) w.drew b:=fun b hb=>hb
  refine ⟨φ,⟨h1.below.drew,fun id o ho=>?_,h1.mine,h1.pin,h1.fresh,h1.inj⟩,h2,h3,fun k=>VR.mono (w:=w) (w':=w.drew) (fun _ _ hv=>hv) (fun _ _=>rfl) hb (h4 k)⟩
  have:=h1.obj id o ho
  cases o with
  | row e sz l =>
    obtain ⟨u,cs,q1,q2,q3,q4⟩:=this
    exact ⟨u,cs,q1,q2,q3,Rw.mono (w:=w) (w':=w.drew) (fun _ _=>rfl) hb q4⟩
  | box l =>
    obtain ⟨b,t,cs,q1,q2,q3,q4,q5,q6⟩:=this
    exact ⟨b,t,cs,q1,q2,q3,q4,q5,fun j x y hx hy=>VR.mono (w:=w) (w':=w.drew) (fun _ _ hv=>hv) (fun _ _=>rfl) hb (q6 j x y hx hy)⟩
  | opq R=>exact this
  | rowv e l =>
    obtain ⟨u,cs,q1,q3,q4,q5,q6⟩:=this
    exact ⟨u,cs,q1,q3,q4,q5,fun j x y hx hy=>VR.mono (w:=w) (w':=w.drew) (fun _ _ hv=>hv) (fun _ _=>rfl) hb (q6 j x y hx hy)⟩
  | mp l =>
    obtain ⟨b,es,c,q1,q3,q4,q6⟩:=this
    exact ⟨b,es,c,q1,q3,q4,fun j k d en hx hy=>⟨(q6 j k d en hx hy).1,Rd.mono (w:=w) (w':=w.drew) (fun _ _=>rfl) hb (q6 j k d en hx hy).2⟩⟩
  | dead=>trivial
theorem count_up (m : Nat → Bool) (i : Nat) (hm : m i = false) : ∀ n,i < n → ((List.range n).filter (up m i)).length = ((List.range n).filter m).length + 1
  | 0,h=>by omega
  | n + 1,h=>by
    rw [List.range_succ,List.filter_append,List.filter_append,List.length_append,List.length_append]
    by_cases hi : i = n
    · subst hi
      have e : (List.range i).filter (up m i) = (List.range i).filter m:=List.filter_congr fun j hj=>by
        have:=List.mem_range.1 hj
        simp only [up];rw [if_neg (by omega)]
      rw [e]
      simp [up,hm]
    · rw [count_up m i hm n (by omega)]
      have e : up m i n = m n:=by simp only [up];rw [if_neg (Ne.symm hi)]
      have e2 : [n].filter (up m i) = [n].filter m:=by simp only [List.filter_cons,e,List.filter_nil]
      rw [e2]
      omega
def lm (l : Array Bool) : Nat → Bool:=fun j=>l.getD j false
theorem AWr.draw {E : Env} (hE : E.Ok) (hm : E.P.follows .mixedOrders = true) {id : Nat} {ops : Array Oper} {st : St} {Q : Exit → St → Prop} (B : List Nat) (hB : bitsOk ops B = true) (l : List Nat) (h : awd E ops B st fun s=>Q .normal (s.keep l)) : AWr E (.region id ops true) st Q:=by
  intro w0 oa a w hs
  obtain ⟨δ,⟨h1,h2,h3⟩,hlen⟩:=awc_ex ops.toList st [] 0 h
  simp only [List.nil_append] at h1 h2
  have hlen' : δ.length = ops.size:=by rw [hlen];simp
  refine wp_region_any hm ?_
  have main : ∀ (fuel : Nat) (lst : Array Bool) (a : Act) (w : World),lst.size = ops.size → Shutd ops (lm lst) → (ops.size ≤ fuel + ((List.range ops.size).filter (lm lst)).length) → SR w0 oa (Sg (lm lst) 0 ops.toList δ st) a w →
      wpAny E.P .any ops (fun e a' w'=>∃ st',Q e st' ∧ SR w0 oa st' a' w') fuel lst a w:=by
    intro fuel
    have hready : ∀ (lst : Array Bool),lst.size = ops.size → Region.ready .any ops lst = [] → ∀ j,j < ops.size → lm lst j = true:=by
      intro lst hsz hr j
      induction j using Nat.strongRecOn with
      | _ j ih =>
        intro hj
        have hni : j ∉ Region.ready .any ops lst:=by rw [hr];simp
        unfold Region.ready at hni
        rw [List.mem_filter,List.mem_range] at hni
        have hall : ((ops[j]?).map (·.after.all fun e=>!Region.binds .any e || lst.getD e.on false)).getD false = true:=by
          rw [Array.getElem?_eq_getElem hj]
          simp only [Option.map_some,Option.getD_some]
          rw [Array.all_eq_true_iff_forall_mem]
          intro e he
          by_cases hb : Region.binds .any e = true
          · have hd : e.on ∈ depsA ops[j]:=by
              simp only [depsA,List.mem_map,List.mem_filter]
              exact ⟨e,⟨by simpa using he,hb⟩,rfl⟩
            have hlt:=(bitsOk_row hB (Array.getElem?_eq_getElem hj)).1 _ hd
            have:=ih _ hlt (by omega)
            simp only [lm] at this
            rw [this];simp
          · simp [hb]
        have hlt : j < lst.size:=by omega
        simp only [lm,Array.getD_eq_getD_getElem?,Array.getElem?_eq_getElem hlt,Option.getD_some]
        have : ¬ (!lst.getD j true) = true:=fun hn=>hni ⟨hj,by rw [hn,hall];rfl⟩
        simpa [Array.getD_eq_getD_getElem?,Array.getElem?_eq_getElem hlt] using this
    have hfin : ∀ (lst : Array Bool) (a : Act) (w : World),(∀ j,j < ops.size → lm lst j = true) → SR w0 oa (Sg (lm lst) 0 ops.toList δ st) a w → ∃ st',Q .normal st' ∧ SR w0 oa st' a w:=by
      intro lst a w hall hsr
      have e : Sg (lm lst) 0 ops.toList δ st = Sg (fun _=>true) 0 ops.toList δ st:=Sg_congr _ _ _ _ fun j _ hj=>by
        rw [hall j (by simpa using hj)]
      rw [e] at hsr
      exact ⟨_,h3,keep_sr l hsr⟩
    have hcount : ∀ (lst : Array Bool),((List.range ops.size).filter (lm lst)).length = ops.size → ∀ j,j < ops.size → lm lst j = true:=by
      intro lst hc j hj
      have : (List.range ops.size).filter (lm lst) = List.range ops.size:=by
        apply List.Sublist.eq_of_length List.filter_sublist
        rw [hc];simp
      have hm : j ∈ (List.range ops.size).filter (lm lst):=by rw [this];simpa using hj
      exact (List.mem_filter.1 hm).2
    induction fuel with
    | zero =>
      intro lst a w hsz hsh hf hsr
      have hle : ((List.range ops.size).filter (lm lst)).length ≤ ops.size:=by
        have:=List.length_filter_le (lm lst) (List.range ops.size)
        simpa using this
      have hall:=hcount lst (by omega)
      refine ⟨?_,hfin lst a w hall hsr⟩
      unfold Region.ready
      rw [List.filter_eq_nil_iff]
      intro j hj
      have hj':=List.mem_range.1 hj
      have:=hall j hj'
      have hlt : j < lst.size:=by omega
      simp only [lm,Array.getD_eq_getD_getElem?,Array.getElem?_eq_getElem hlt,Option.getD_some] at this
      simp [Array.getD_eq_getD_getElem?,Array.getElem?_eq_getElem hlt,this]
    | succ fuel ih =>
      intro lst a w hsz hsh hf hsr
      refine ⟨fun hr=>hfin lst a w (hready lst hsz hr) hsr,fun i hi=>?_⟩
      unfold Region.ready at hi
      rw [List.mem_filter,List.mem_range,Bool.and_eq_true] at hi
      obtain ⟨hin,hnl,hdeps⟩:=hi
      have hlt : i < lst.size:=by omega
      have hmi : lm lst i = false:=by
        simpa [lm,Array.getD_eq_getD_getElem?,Array.getElem?_eq_getElem hlt] using hnl
      have hoi : ops[i]? = some ops[i]:=Array.getElem?_eq_getElem hin
      have hdl : ∀ d ∈ depsA ops[i],lm lst d = true:=by
        intro d hd
        simp only [depsA,List.mem_map,List.mem_filter] at hd
        obtain ⟨e,⟨he,hb⟩,rfl⟩:=hd
        rw [hoi] at hdeps
        simp only [Option.map_some,Option.getD_some] at hdeps
        have:=Array.all_eq_true_iff_forall_mem.1 hdeps e (by simpa using he)
        simpa [hb,lm] using this
      have hanc:=anc_listed hB hsh i i _ (Nat.le_refl _) hoi hdl
      have hdesc : ∀ j,j < ops.size → (B.getD j 0).testBit i = true → lm lst j = false:=by
        intro j hj hb
        cases hmj : lm lst j with
        | false=>rfl
        | true =>
          have hoj : ops[j]? = some ops[j]:=Array.getElem?_eq_getElem hj
          have:=anc_listed hB hsh j j _ (Nat.le_refl _) hoj (hsh j _ hoj hmj) i hb
          rw [hmi] at this;cases this
      have hmk : Sg (lm lst) 0 ops.toList δ st = Sg (mk B i (lm lst)) 0 ops.toList δ st:=Sg_congr _ _ _ _ fun j _ hj=>by
        have hj' : j < ops.size:=by simpa using hj
        unfold mk
        split
        · rename_i hb;exact hanc j hb
        · split
          · rename_i e;rw [e];exact hmi
          · split
            · rename_i hb;exact hdesc j hj' hb
            · rfl
      obtain ⟨x,u,hδ,hev⟩:=each_at ops.toList δ 0 i ops[i] h1 (by simp)
      have hev:=hev (lm lst)
      rw [Nat.zero_add,← hmk] at hev
      obtain ⟨φ,hsp⟩:=hsr.open
      unfold wpOp
      rw [hoi]
      have key:=s_ev1 (K:=fun s=>s = (Sg (lm lst) 0 ops.toList δ st).upd ops[i].dst x u) (next:=wpAny E.P .any ops (fun e a' w'=>∃ st',Q e st' ∧ SR w0 oa st' a' w') fuel (lst.setIfInBounds i true)) (Q:=fun e a' w'=>∃ st',Q e st' ∧ SR w0 oa st' a' w') hE (ops:=ops) (o:=ops[i]) (st:=Sg (lm lst) 0 ops.toList δ st) ?_ hsp ?_
      · simp only
        split at key
        · rename_i hw;rw [if_pos hw];exact .inl key
        · rename_i hw;rw [if_neg hw];exact key
      · exact hev
      · rintro st' a' w' rfl hs'
        have hup : lm (lst.setIfInBounds i true) = up (lm lst) i:=by
          funext j
          simp only [lm,up,Array.getD_eq_getD_getElem?]
          by_cases h : j = i
          · subst h;simp [hlt]
          · rw [if_neg h,Array.getElem?_setIfInBounds_ne (Ne.symm h)]
        refine ih _ a' w' (by simpa using hsz) ?_ ?_ ?_
        · rw [hup]
          intro j o ho hj d hd
          unfold up at hj ⊢
          by_cases hdi : d = i
          · rw [if_pos hdi]
          · rw [if_neg hdi]
            by_cases hji : j = i
            · subst hji
              rw [hoi] at ho
              cases ho
              exact hdl d hd
            · rw [if_neg hji] at hj
              exact hsh j o ho hj d hd
        · rw [hup]
          have : ((List.range ops.size).filter (up (lm lst) i)).length = ((List.range ops.size).filter (lm lst)).length + 1:=count_up _ _ hmi _ hin
          omega
        · rw [hup]
          have hov:=Over.at (m:=lm lst) ops.toList δ 0 i st ops[i] x u (by simp) hδ (by rw [Nat.zero_add];exact hmi) fun j o' p hij ho' hp hm=>by
            rw [Nat.zero_add] at hm
            rcases pairs_at ops.toList δ 0 i j ops[i] o' (x,u) p h2 hij (by simp) hδ ho' hp with h5|h5
            · rw [Nat.zero_add,Nat.zero_add] at h5
              have:=hdesc j (by simpa using (List.getElem?_eq_some_iff.1 ho').1) h5
              rw [hm] at this;cases this
            · exact h5
          rw [Nat.zero_add] at hov
          exact hov.sr hs'
  have h0 : lm (Array.replicate ops.size false) = fun _=>false:=by
    funext j
    simp only [lm,Array.getD_eq_getD_getElem?]
    by_cases h : j < ops.size <;> simp [h]
  refine main ops.size _ a _ (by simp) ?_ (by omega) ?_
  · rw [h0];intro i o ho hi;cases hi
  · rw [h0,Sg_all]
    exact drew_sr hs
end Go.Proofs.Ytleahjfgedfgmaa.Am
end
section
set_option linter.unusedVariables false
set_option linter.unusedSimpArgs false
namespace Go.Proofs.Ytleahjfgedfgmaa.Am
open Go Go.RowKit
theorem GoodM.one {P : Program} {f : FuncId} {Sp : List V → List (Nat × Ob) → Out → Prop} (h : GoodM P f Sp) {as : List V} {lent : List (Nat × Ob)} {out : Out} (hs : Sp as lent out) : GoodM P f (fun a l b=>a = as ∧ l = lent ∧ b = out):=by
  rintro a l b ⟨rfl,rfl,rfl⟩;exact h _ _ _ hs
theorem Good.one {P : Program} {f : FuncId} {Sp : List D → Out → Prop} (h : Good P f Sp) {ds : List D} {out : Out} (hs : Sp ds out) : Good P f (fun a b=>a = ds ∧ b = out):=by
  rintro a b ⟨rfl,rfl⟩;exact h _ _ hs
def bare (P : Program) : Env:=⟨P,fun _ _ _=>False,fun _ _=>False,fun _=>false,fun _ _ _ _=>False,fun _=>none,fun _=>false,false,fun _=>none⟩
structure AW (P : Program) (c : Code) (st : St) (Q : Exit → St → Prop) : Prop where
  h : AWr (bare P) c st Q
theorem AWr.bare {E : Env} {c : Code} {st : St} {Q : Exit → St → Prop} (h : AWr E c st Q) : AWr (bare E.P) c st Q:=h
theorem AWr.full {E : Env} {c : Code} {st : St} {Q : Exit → St → Prop} (h : AWr (Am.bare E.P) c st Q) : AWr E c st Q:=h
structure thenA (next : St → Prop) (Q : Exit → St → Prop) (e : Exit) (s : St) : Prop where
  h : thenR next Q e s
structure blockA (id : Nat) (Q : Exit → St → Prop) (e : Exit) (s : St) : Prop where
  h : blockR id Q e s
section
variable {P : Program} {E : Env} {c x y : Code} {st st' : St} {Q Q' : Exit → St → Prop} {id : Nat}
theorem AW.mono (h : AW P c st Q) (hq : ∀ e s,Q e s → Q' e s) : AW P c st Q':=⟨h.h.mono hq⟩
theorem AW.weak (h : AW P c st' Q) (hw : ∀ w0 oa a w,SR w0 oa st a w → SR w0 oa st' a w) : AW P c st Q:=⟨h.h.weak hw⟩
theorem AW.skip (h : Q .normal st) : AW P .skip st Q:=⟨AWr.skip h⟩
theorem AW.exit (h : Q (.exit id) st) : AW P (.exit id) st Q:=⟨AWr.exit h⟩
theorem AW.ret (h : Q .ret st) : AW P .ret st Q:=⟨AWr.ret h⟩
theorem AW.seq (h : AW P x st (thenA (fun s=>AW P y s Q) Q)) : AW P (.seq x y) st Q :=
  ⟨AWr.seq (h.h.mono fun e s k=>by
    cases e with
    | normal=>exact AW.h k.h
    | _=>exact k.h)⟩
theorem AW.cond {o : Operand} {b : Bool} (hc : st.ev o = .d (.v (.bool b))) (ht : b = true → AW P x st Q) (hf : b = false → AW P y st Q) : AW P (.cond o x y) st Q :=
  ⟨AWr.cond hc (fun e=>(ht e).h) (fun e=>(hf e).h)⟩
theorem AW.block (h : AW P c st (blockA id Q)) : AW P (.block id c) st Q:=⟨AWr.block (h.h.mono fun e s k=>k.h)⟩
theorem AW.region (hE : E.Ok) {ops : Array Oper} (l : List Nat) (h : awl E ops ops.toList st fun s=>Q .normal (s.keep l)) : AW E.P (.region id ops false) st Q:=⟨(AWr.region hE l h).bare⟩
theorem AW.draw (hE : E.Ok) (hm : E.P.follows .mixedOrders = true) {ops : Array Oper} (B : List Nat) (hB : bitsOk ops B = true) (l : List Nat) (h : awd E ops B st fun s=>Q .normal (s.keep l)) : AW E.P (.region id ops true) st Q:=⟨(AWr.draw hE hm B hB l h).bare⟩
end
theorem good_body {E : Env} {f : FuncId} {fn : Func} {c : Code} {nt : Nat} {rs : Array ResultVar} (hf : E.P.funcs[f]? = some fn) (hb : fn.body = some c) (hnt : fn.ntmps = nt) (hrs : fn.results = rs) {Sp : List D → Out → Prop}
    (h : ∀ ds out,Sp ds out → ds.length ≤ nt ∧ AW E.P c ⟨tmOf 0 ds,[],nt⟩ (Ends E.P rs out)) : Good E.P f Sp :=
  good_bodyr hf hb hnt hrs fun ds out hs=>⟨(h ds out hs).1,(h ds out hs).2.h.full⟩
theorem goodM_body {E : Env} {f : FuncId} {fn : Func} {c : Code} {nt : Nat} {rs : Array ResultVar} (hf : E.P.funcs[f]? = some fn) (hb : fn.body = some c) (hnt : fn.ntmps = nt) (hrs : fn.results = rs) {Sp : List V → List (Nat × Ob) → Out → Prop}
    (h : ∀ as lent out,Sp as lent out → as.length ≤ nt ∧ AW E.P c ⟨vmOf 0 as,lent,nt⟩ (Ends E.P rs out)) : GoodM E.P f Sp :=
  goodM_bodyr hf hb hnt hrs fun as lent out hs=>⟨(h as lent out hs).1,(h as lent out hs).2.h.full⟩
theorem AW.reg {E : Env} (hE : E.Ok) {id : Nat} {ops : Array Oper} {st : St} {Q : Exit → St → Prop} (l : List Nat) (h : ∀ K : St → Prop,(∀ s,Q .normal s → K s) → awl E ops ops.toList st fun s=>K (s.keep l)) : AW E.P (.region id ops false) st Q :=
  AW.region hE l (h _ fun _ h=>h)
structure Awl (E : Env) (ops : Array Oper) (l : List Oper) (st : St) (K : St → Prop) : Prop where
  h : awl E ops l st K
theorem AW.regl {E : Env} (hE : E.Ok) {id : Nat} {ops : Array Oper} {st : St} {Q : Exit → St → Prop} (l : List Nat) (h : Awl E ops ops.toList st fun s=>Q .normal (s.keep l)) : AW E.P (.region id ops false) st Q :=
  AW.region hE l h.h
def gvt (ops : Array Oper) (j : Nat) : Option Tmp:=match ops[j]? with|some o=>o.dst|none=>none
def dOkb (d : Option Tmp) (nt : Nat) : Bool:=match d with|some k=>Nat.blt k nt|none=>true
theorem dOkb_ok {d : Option Tmp} {nt : Nat} (h : dOkb d nt = true) : dOk d nt:=by
  cases d with
  | none=>trivial
  | some k=>simpa [dOkb,dOk] using h
section
variable {E : Env} {ops : Array Oper} {o : Oper} {r : List Oper} {st : St} {K : St → Prop}
theorem awl_nil (h : K st) : Awl E ops [] st K:=⟨h⟩
theorem awl_none (hg : o.guard = none) (h : ∀ K' : V → List (Nat × Ob) → Prop,(∀ x u,Awl E ops r (st.upd o.dst x u) K → K' x u) → evk E o st K') : Awl E ops (o :: r) st K:=by
  refine ⟨?_⟩
  simp only [awl,ev1,hg];exact h _ fun _ _ h=>h.h
theorem awl_some {j : Nat} {want b : Bool} {t : Tmp} (hg : o.guard = some (j,want)) (ht : gvt ops j = some t) (htn : t < st.nt) (hb : gt st.tm t = .d (.v (.bool b))) (hd : dOkb o.dst st.nt = true)
    (h1 : b = want → ∀ K' : V → List (Nat × Ob) → Prop,(∀ x u,Awl E ops r (st.upd o.dst x u) K → K' x u) → evk E o st K') (h2 : b = !want → Awl E ops r (st.upd o.dst (.d (.v undef)) []) K) : Awl E ops (o :: r) st K:=by
  have hv : gv ops st j = some (some b):=by
    unfold gvt at ht
    unfold gv
    split at ht
    · rename_i q hq
      simp only [hq,ht,if_pos htn,hb]
    · cases ht
  refine ⟨?_⟩
  simp only [awl,ev1,hg,hv]
  exact ⟨fun e=>h1 e _ fun _ _ h=>h.h,fun e=>⟨dOkb_ok hd,(h2 e).h⟩⟩
theorem awl_skip {j : Nat} {want : Bool} {t : Tmp} {l : Array Value} (hg : o.guard = some (j,want)) (ht : gvt ops j = some t) (htn : t < st.nt) (hb : gt st.tm t = .d (.v (.tuple l))) (hd : dOkb o.dst st.nt = true)
    (h2 : Awl E ops r (st.upd o.dst (.d (.v undef)) []) K) : Awl E ops (o :: r) st K:=by
  have hv : gv ops st j = some none:=by
    unfold gvt at ht
    unfold gv
    split at ht
    · rename_i q hq
      simp only [hq,ht,if_pos htn,hb]
    · cases ht
  refine ⟨?_⟩
  simp only [awl,ev1,hg,hv]
  exact ⟨dOkb_ok hd,h2.h⟩
end
theorem AW.regd {E : Env} (hE : E.Ok) (hm : E.P.follows .mixedOrders = true) {id : Nat} {ops : Array Oper} {st : St} {Q : Exit → St → Prop} (B : List Nat) (hB : bitsOk ops B = true) (l : List Nat)
    (h : ∀ K : St → Prop,(∀ s,Q .normal s → K s) → awd E ops B st fun s=>K (s.keep l)) : AW E.P (.region id ops true) st Q :=
  AW.draw hE hm B hB l (h _ fun _ h=>h)
section
variable {next : St → Prop} {Q : Exit → St → Prop} {s : St} {i id : Nat}
theorem then_n (h : next s) : thenA next Q .normal s:=⟨h⟩
theorem then_x (h : Q (.exit i) s) : thenA next Q (.exit i) s:=⟨h⟩
theorem then_r (h : Q .ret s) : thenA next Q .ret s:=⟨h⟩
theorem block_x (h : Q .normal s) : blockA id Q (.exit id) s:=⟨by simp only [blockR,if_true];exact h⟩
theorem block_o (hi : i ≠ id) (h : Q (.exit i) s) : blockA id Q (.exit i) s:=⟨by simp only [blockR,if_neg hi];exact h⟩
theorem block_n (h : Q .normal s) : blockA id Q .normal s:=⟨h⟩
theorem block_r (h : Q .ret s) : blockA id Q .ret s:=⟨h⟩
end
theorem AW.loop_wk {P : Program} {c : Code} {st : St} {Q : Exit → St → Prop} {ι : Type} (S : ι → St) (G : ι → Prop) (μ : ι → Nat) (i0 : ι) (g0 : G i0) (h0 : ∀ w0 oa a w,SR w0 oa st a w → SR w0 oa (S i0) a w)
    (round : ∀ i,G i → AW P c (S i) (thenA (fun s=>∃ j,G j ∧ μ j < μ i ∧ ∃ ρ,Wk ρ s (S j)) Q)) : AW P (.loop c) st Q :=
  ⟨AWr.loop S G μ i0 g0 h0 fun i hi=>(round i hi).h.mono fun e s h=>by
    cases e with
    | normal=>obtain ⟨j,h1,h2,ρ,h3⟩:=h.h;exact ⟨j,h1,h2,fun w0 oa a w hs=>h3.sr hs⟩
    | _=>exact h.h⟩
theorem AW.mid {P : Program} {x y : Code} {st : St} {Q : Exit → St → Prop} (st' : St) (h1 : AW P x st fun e s=>e = .normal ∧ ∃ ρ,Wk ρ s st') (h2 : AW P y st' Q) : AW P (.seq x y) st Q :=
  AW.seq (h1.mono fun e s h=>by
    obtain ⟨rfl,ρ,hw⟩:=h
    exact then_n ⟨fun w0 oa a w hs=>h2.h w0 oa a w (hw.sr hs)⟩)
theorem AW.midx {P : Program} {x y : Code} {st : St} {Q : Exit → St → Prop} {ι : Type} (S : ι → St) (G : ι → Prop) (h1 : AW P x st fun e s=>e = .normal ∧ ∃ i,G i ∧ ∃ ρ,Wk ρ s (S i)) (h2 : ∀ i,G i → AW P y (S i) Q) : AW P (.seq x y) st Q :=
  AW.seq (h1.mono fun e s h=>by
    obtain ⟨rfl,i,hg,ρ,hw⟩:=h
    exact then_n ⟨fun w0 oa a w hs=>(h2 i hg).h w0 oa a w (hw.sr hs)⟩)
theorem nil_sr {w0 w : World} {oa : OA} {st : St} {a : Act} (k n e sz : Nat) (hk : gt st.tm k = .nil) (hkn : k < st.nt) (hn : go st.hp n = none) (hsz : 0 < sz) (hs : SR w0 oa st a w) : SR w0 oa (st.upd (some k) (.sl n sz 0 0 true) [(n,.row e sz [])]) a w:=by
  obtain ⟨φ,hs⟩:=hs.open
  have hv:=hs.tm k
  rw [hk] at hv
  have hv0 : a.tmps.getD k undef = .slice none 0 0:=by
    generalize a.tmps.getD k undef = X at hv
    cases hv;rfl
  obtain ⟨φ',hs',hv'⟩:=hs.newrow n hn e sz [] (.slice none 0 0) [] hsz (Below.refl _ _) (World.ownsRow_nil w w.heap.size e sz) Rw.nil
  have hput:=hs'.put (some k) hkn hv'
  have hsame : a.put (some k) (.slice none 0 0) = a:=by
    have hlt : k < a.tmps.size:=by rw [hs.sz];exact hkn
    have hget : a.tmps.getD k undef = a.tmps[k]:=by simp [Array.getD_eq_getD_getElem?,hlt]
    have : a.tmps.setIfInBounds k (.slice none 0 0) = a.tmps:=by
      apply Array.ext
      · simp
      · intro i h1 h2
        rw [Array.getElem_setIfInBounds]
        split
        · rename_i e
          subst e
          rw [← hv0,hget]
        · rfl
    simp only [Act.put,this]
  rw [hsame] at hput
  exact hput.sr
def wkTm (ρ : Nat → Nat) (tm : List (Nat × V)) (dom : Nat → Prop) : List (Nat × V) → Prop
  | []=>True
  | (k,x) :: r=>(match x with|.junk=>True|x=>gt tm k = ren ρ x ∧ va tt dom x) ∧ wkTm ρ tm dom r
def subL (ρ : Nat → Nat) (hp : List (Nat × Ob)) (dom : Nat → Prop) : List (Nat × Ob) → Prop
  | []=>True
  | p :: r=>(go hp (ρ p.1) = some (renO ρ p.2) ∧ vaO tt dom p.2) ∧ subL ρ hp dom r
def ninL (ρ : Nat → Nat) (k : Nat) : List (Nat × Ob) → Prop
  | []=>True
  | p :: r=>ρ k ≠ ρ p.1 ∧ ninL ρ k r
def injL (ρ : Nat → Nat) : List (Nat × Ob) → Prop
  | []=>True
  | p :: r=>ninL ρ p.1 r ∧ injL ρ r
theorem ninL_get {ρ : Nat → Nat} {k : Nat} : ∀ {l : List (Nat × Ob)},ninL ρ k l → ∀ p ∈ l,ρ k ≠ ρ p.1
  | [],_,p,hp=>by cases hp
  | q :: r,h,p,hm=>(List.mem_cons.1 hm).elim (fun e=>by rw [e];exact h.1) (fun hm2=>ninL_get h.2 p hm2)
theorem injL_get {ρ : Nat → Nat} : ∀ {l : List (Nat × Ob)},injL ρ l → ∀ p ∈ l,∀ q ∈ l,ρ p.1 = ρ q.1 → p.1 = q.1
  | [],_,p,hp,_,_,_=>by cases hp
  | x :: r,h,p,hp,q,hq,he=>by
    rcases List.mem_cons.1 hp with e1|hp2
    · rcases List.mem_cons.1 hq with e2|hq2
      · rw [e1,e2]
      · subst e1;exact absurd he (ninL_get h.1 q hq2)
    · rcases List.mem_cons.1 hq with e2|hq2
      · subst e2;exact absurd he.symm (ninL_get h.1 p hp2)
      · exact injL_get h.2 p hp2 q hq2 he
theorem subL_get {ρ : Nat → Nat} {hp : List (Nat × Ob)} {dom : Nat → Prop} : ∀ {l : List (Nat × Ob)},subL ρ hp dom l → ∀ p ∈ l,go hp (ρ p.1) = some (renO ρ p.2) ∧ vaO tt dom p.2
  | [],_,p,hp=>by cases hp
  | q :: r,h,p,hp=>by
    rcases List.mem_cons.1 hp with rfl|hp
    · exact h.1
    · exact subL_get h.2 p hp
theorem wkTm_get {ρ : Nat → Nat} {tm : List (Nat × V)} {dom : Nat → Prop} : ∀ {l : List (Nat × V)},wkTm ρ tm dom l → ∀ p ∈ l,p.2 = .junk ∨ (gt tm p.1 = ren ρ p.2 ∧ va tt dom p.2)
  | [],_,p,hp=>by cases hp
  | (k,x) :: r,h,p,hp=>by
    rcases List.mem_cons.1 hp with rfl|hp
    · have h1:=h.1
      cases x with
      | junk=>exact .inl rfl
      | _=>exact .inr h1
    · exact wkTm_get h.2 p hp
def pinL (ρ : Nat → Nat) (hp' : List (Nat × Ob)) : List (Nat × Ob) → Prop
  | []=>True
  | p :: r=>if 1000000 ≤ p.1 then (ρ p.1 = p.1 ∧ inDom hp' p.1) ∧ pinL ρ hp' r else pinL ρ hp' r
theorem pinL_get {ρ : Nat → Nat} {hp' : List (Nat × Ob)} : ∀ {l : List (Nat × Ob)},pinL ρ hp' l → ∀ id,1000000 ≤ id → go l id ≠ none → ρ id = id ∧ go hp' id ≠ none
  | [],_,id,_,hg=>absurd rfl hg
  | (k,x) :: r,h,id,hi,hg=>by
    simp only [pinL] at h
    simp only [go] at hg
    split at h
    · split at hg
      · rename_i e;subst e;exact h.1
      · exact pinL_get h.2 id hi hg
    · split at hg
      · rename_i h1 e;subst e;exact absurd hi h1
      · exact pinL_get h id hi hg
theorem Wk.of {ρ : Nat → Nat} {st st' : St} (h : st'.nt = st.nt ∧ wkTm ρ st.tm (inDom st'.hp) st'.tm ∧ subL ρ st.hp (inDom st'.hp) st'.hp ∧ injL ρ st'.hp ∧ pinL ρ st'.hp st.hp) : Wk ρ st st' :=
  ⟨h.1,wkTm_get h.2.1,⟨subL_get h.2.2.1,injL_get h.2.2.2.1,pinL_get h.2.2.2.2⟩⟩
theorem Ends.of {P : Program} {rs : Array ResultVar} {out : Out} {e : Exit} {st : St} (ρ : Nat → Nat) (he : e = .normal ∨ e = .ret) (h : resW P st rs = some (ren ρ out.val) ∧ va tt (inDom out.obs) out.val ∧ subL ρ st.hp (inDom out.obs) out.obs ∧ injL ρ out.obs ∧ pinL ρ out.obs st.hp) : Ends P rs out e st :=
  ⟨he,st,fun _ _ _ _ h=>h,ρ,h.1,h.2.1,⟨subL_get h.2.2.1,injL_get h.2.2.2.1,pinL_get h.2.2.2.2⟩⟩
theorem Ends.weak {P : Program} {rs : Array ResultVar} {out : Out} {e : Exit} {st st' : St} (hw : ∀ w0 oa a w,SR w0 oa st a w → SR w0 oa st' a w) (h : Ends P rs out e st') : Ends P rs out e st :=
  ⟨h.1,h.2.imp fun _ h=>⟨fun w0 oa a w hs=>h.1 w0 oa a w (hw w0 oa a w hs),h.2⟩⟩
theorem wrap_id (x : Int) (h0 : -9223372036854775808 ≤ x) (h1 : x < 9223372036854775808) : IntKind.i64.wrap x = x:=by rw [IntKind.wrap_i64];omega
def mB (n : Int) : D:=.v (.int .u8 n)
def mI (n : Int) : D:=.v (.int .i64 n)
def bys (l : List Int) : D:=.list (l.map mB)
theorem mB_cells (n : Int) : (mB n).cells = [mB n]:=rfl
theorem mI_cells (n : Int) : (mI n).cells = [mI n]:=rfl
theorem bys_cells (l : List Int) : (bys l).cells = [bys l]:=rfl
theorem list_cells (l : List D) : (D.list l).cells = [D.list l]:=rfl
theorem v_cells (x : Value) : (D.v x).cells = [D.v x]:=rfl
theorem agg_cells (l : List D) : (D.agg l).cells = l:=rfl
theorem ref_cells (d : D) : (D.ref d).cells = [D.ref d]:=rfl
theorem mB_inj (l m : List Int) : (l.map mB = m.map mB) = (l = m):=by
  simp only [eq_iff_iff]
  exact ⟨fun h=>by
    have:=congrArg (List.map fun d : D=>match d with|.v (.int _ n)=>n|_=>0) h
    simpa [List.map_map,Function.comp_def,mB] using this,fun h=>by rw [h]⟩
theorem mI_inj (l m : List Int) : (l.map mI = m.map mI) = (l = m):=by
  simp only [eq_iff_iff]
  exact ⟨fun h=>by
    have:=congrArg (List.map fun d : D=>match d with|.v (.int _ n)=>n|_=>0) h
    simpa [List.map_map,Function.comp_def,mI] using this,fun h=>by rw [h]⟩
theorem list_map_inj {α : Type} (f : α → D) (hf : ∀ a b,f a = f b → a = b) (l m : List α) : (l.map f = m.map f) = (l = m):=by
  simp only [eq_iff_iff]
  refine ⟨fun h=>?_,fun h=>by rw [h]⟩
  induction l generalizing m with
  | nil=>cases m with|nil=>rfl|cons _ _=>simp at h
  | cons a r ih=>cases m with
    | nil=>simp at h
    | cons b s =>
      simp only [List.map_cons,List.cons.injEq] at h
      rw [hf a b h.1,ih s h.2]
theorem bys_inj (l m : List Int) : (bys l = bys m) = (l = m):=by
  unfold bys
  rw [D.list.injEq,mB_inj]
theorem byL_B (l : List Int) : byL (l.map mB) = some l:=by
  induction l with
  | nil=>rfl
  | cons a r ih=>simp only [List.map_cons,mB,byL];rw [ih];rfl
theorem if_le {α : Type} {a b : Nat} (h : a ≤ b) (x y : α) : (if a ≤ b then x else y) = x:=if_pos h
theorem bb_tt : (true == true) = true:=rfl
theorem bb_ff : (false == false) = true:=rfl
theorem bb_tf : (true == false) = false:=rfl
theorem bb_ft : (false == true) = false:=rfl
theorem byL_cons (n : Int) (r : List D) : byL (D.v (.int .u8 n) :: r) = (byL r).map (n :: ·):=rfl
theorem byL_nil : byL [] = some []:=rfl
theorem byt_str {l m : List Int} (hl : ∀ x ∈ l,0 ≤ x ∧ x < 256) (hm : ∀ x ∈ m,0 ≤ x ∧ x < 256) : binV .eql (bsV l) (bsV m) = some (.bool (decide (l = m))):=by
  have key : ∀ (l : List Int) (s : ByteArray),(l.foldl (fun r n=>r.push (UInt8.ofNat n.toNat)) s).data.toList = s.data.toList ++ l.map fun n=>UInt8.ofNat n.toNat:=by
    intro l
    induction l with
    | nil=>simp
    | cons a r ih=>intro s;rw [List.foldl_cons,ih];simp [ByteArray.push]
  have inj : ∀ (l m : List Int),(∀ x ∈ l,0 ≤ x ∧ x < 256) → (∀ x ∈ m,0 ≤ x ∧ x < 256) → ((l.map fun n=>UInt8.ofNat n.toNat) = (m.map fun n=>UInt8.ofNat n.toNat)) → l = m:=by
    intro l
    induction l with
    | nil=>intro m _ _ h;cases m with|nil=>rfl|cons b s=>simp at h
    | cons a r ih =>
      intro m hl hm h
      cases m with
      | nil=>simp at h
      | cons b s =>
        simp only [List.map_cons,List.cons.injEq] at h
        have ha:=hl a (List.mem_cons_self ..)
        have hb:=hm b (List.mem_cons_self ..)
        have e : a = b:=by
          have e2:=congrArg UInt8.toNat h.1
          simp only [UInt8.toNat_ofNat'] at e2
          omega
        rw [e,ih s (fun x hx=>hl x (List.mem_cons_of_mem _ hx)) (fun x hx=>hm x (List.mem_cons_of_mem _ hx)) h.2]
  have e : ∀ s : ByteArray,s.toList = s.data.toList:=Go.ByteArray.toList_eq
  simp only [bsV,binV]
  congr 2
  rw [Bool.eq_iff_iff]
  simp only [beq_iff_eq,decide_eq_true_eq,e,key]
  constructor
  · intro h
    exact inj l m hl hm (by simpa using h)
  · rintro rfl;rfl
theorem nth_map {α : Type} (f : α → D) (l : List α) (i : Nat) (d : α) (h : i < l.length) : nth (l.map f) i = f (l.getD i d):=by
  simp [nth,List.getD_eq_getElem?_getD,h]
theorem nth_B (l : List Int) (i : Nat) (h : i < l.length) : nth (l.map mB) i = .v (.int .u8 (l.getD i 0)):=nth_map mB l i 0 h
theorem nth_I (l : List Int) (i : Nat) (h : i < l.length) : nth (l.map mI) i = .v (.int .i64 (l.getD i 0)):=nth_map mI l i 0 h
theorem all_B (l : List Int) : (∀ d ∈ l.map mB,d.cells.length = 1) = True:=by simp [mB_cells]
theorem all_I (l : List Int) : (∀ d ∈ l.map mI,d.cells.length = 1) = True:=by simp [mI_cells]
theorem sc_B (l : List Int) : (∀ d ∈ l.map mB,Scal' d) = True:=by simp only [eq_iff_iff,iff_true];intro d hd;obtain ⟨n,_,rfl⟩:=List.mem_map.1 hd;exact .v _
theorem sc_I (l : List Int) : (∀ d ∈ l.map mI,Scal' d) = True:=by simp only [eq_iff_iff,iff_true];intro d hd;obtain ⟨n,_,rfl⟩:=List.mem_map.1 hd;exact .v _
theorem sc_v (x : Value) : Scal' (.v x) = True:=by simp only [eq_iff_iff,iff_true];exact .v _
theorem set_B (l : List Int) (i : Nat) (n : Int) : (l.map mB).set i (.v (.int .u8 n)) = (l.set i n).map mB:=by rw [List.map_set];rfl
theorem set_I (l : List Int) (i : Nat) (n : Int) : (l.map mI).set i (.v (.int .i64 n)) = (l.set i n).map mI:=by rw [List.map_set];rfl
theorem repl_B (n : Nat) (x : Int) : List.replicate n (D.v (.int .u8 x)) = (List.replicate n x).map mB:=by rw [List.map_replicate];rfl
theorem repl_I (n : Nat) (x : Int) : List.replicate n (D.v (.int .i64 x)) = (List.replicate n x).map mI:=by rw [List.map_replicate];rfl
theorem cons_B (x : Int) (l : List Int) : D.v (.int .u8 x) :: l.map mB = (x :: l).map mB:=rfl
theorem cons_I (x : Int) (l : List Int) : D.v (.int .i64 x) :: l.map mI = (x :: l).map mI:=rfl
theorem c_t (b : Bool) (A B : Prop) : ((b = true → A) ∧ (b = !true → B)) = (if b = true then A else B):=by cases b <;> simp
theorem c_f (b : Bool) (A B : Prop) : ((b = false → A) ∧ (b = !false → B)) = (if b = true then B else A):=by cases b <;> simp
theorem c_p (b : Bool) (A B : Prop) : ((b = true → A) ∧ (b = false → B)) = (if b = true then A else B):=by cases b <;> simp
theorem ite_intro {c : Prop} [Decidable c] {A B : Prop} (h : c → A) (k : ¬ c → B) : if c then A else B:=by
  by_cases hc : c
  · rw [if_pos hc];exact h hc
  · rw [if_neg hc];exact k hc
theorem ifc_nil {α : Type} (b : Bool) (h : List α) : ifc b [] h = h:=rfl
theorem gt_ifc (b : Bool) (d : Option Tmp) (x : V) (h : List (Nat × V)) (j : Nat) : gt (ifc b (dl d x) h) j = if some j = d then (if b = true then x else gt h j) else gt h j:=by
  cases b with
  | true=>rw [ifc_true,gt_dl];rfl
  | false=>rw [ifc_false];simp
theorem go_ifc (b : Bool) (u h : List (Nat × Ob)) (j : Nat) : go (ifc b u h) j = if b = true then (go u j).or (go h j) else go h j:=by
  cases b with
  | true=>rw [ifc_true,go_app];cases go u j <;> rfl
  | false=>rw [ifc_false];rfl
theorem tt_eq (d : D) : tt d = True:=by simp only [tt]
theorem shr_eq (a : Int) (n : Nat) : a.fdiv (2 ^ n) = a / 2 ^ n:=Int.fdiv_eq_ediv_of_nonneg _ (Int.pow_nonneg (by decide))
section
variable (k : IntKind) (a b : Int)
theorem b_add : binV .add (.int k a) (.int k b) = some (.int k (k.wrap (a + b))):=by simp [binV]
theorem b_sub : binV .sub (.int k a) (.int k b) = some (.int k (k.wrap (a - b))):=by simp [binV]
theorem b_mul : binV .mul (.int k a) (.int k b) = some (.int k (k.wrap (a * b))):=by simp [binV]
theorem b_quo (h : b ≠ 0) : binV .quo (.int k a) (.int k b) = some (.int k (k.wrap (a.tdiv b))):=by simp [binV,h]
theorem b_rem (h : b ≠ 0) : binV .rem (.int k a) (.int k b) = some (.int k (a.tmod b)):=by simp [binV,h]
theorem b_and : binV .and (.int k a) (.int k b) = some (.int k (bits .and k a b)):=by simp [binV]
theorem b_or : binV .or (.int k a) (.int k b) = some (.int k (bits .or k a b)):=by simp [binV]
theorem b_xor : binV .xor (.int k a) (.int k b) = some (.int k (bits .xor k a b)):=by simp [binV]
theorem b_eql : binV .eql (.int k a) (.int k b) = some (.bool (decide (a = b))):=by simp [binV]
theorem b_neq : binV .neq (.int k a) (.int k b) = some (.bool (decide (a ≠ b))):=by simp [binV]
theorem b_lss : binV .lss (.int k a) (.int k b) = some (.bool (decide (a < b))):=by simp [binV]
theorem b_leq : binV .leq (.int k a) (.int k b) = some (.bool (decide (a ≤ b))):=by simp [binV]
theorem b_gtr : binV .gtr (.int k a) (.int k b) = some (.bool (decide (b < a))):=by simp [binV]
theorem b_geq : binV .geq (.int k a) (.int k b) = some (.bool (decide (b ≤ a))):=by simp [binV]
theorem b_shr (j : IntKind) (h0 : 0 ≤ b) (h1 : b ≤ k.bits) : binV .shr (.int k a) (.int j b) = some (.int k (a / 2 ^ b.toNat)):=by
  have : min b.toNat k.bits = b.toNat:=by omega
  simp [binV,h0,this,shr_eq]
theorem b_shl (j : IntKind) (h0 : 0 ≤ b) (h1 : b ≤ k.bits) : binV .shl (.int k a) (.int j b) = some (.int k (k.wrap (a * 2 ^ b.toNat))):=by
  have : min b.toNat k.bits = b.toNat:=by omega
  simp [binV,h0,this]
end
theorem b_shr_u64 (a b : Int) (j : IntKind) (h0 : 0 ≤ b) (h1 : b ≤ 64) : binV .shr (.int .u64 a) (.int j b) = some (.int .u64 (a / 2 ^ b.toNat)):=b_shr .u64 a b j h0 h1
theorem b_shl_u64 (a b : Int) (j : IntKind) (h0 : 0 ≤ b) (h1 : b ≤ 64) : binV .shl (.int .u64 a) (.int j b) = some (.int .u64 (IntKind.u64.wrap (a * 2 ^ b.toNat))):=b_shl .u64 a b j h0 h1
theorem b_shr_i64 (a b : Int) (j : IntKind) (h0 : 0 ≤ b) (h1 : b ≤ 64) : binV .shr (.int .i64 a) (.int j b) = some (.int .i64 (a / 2 ^ b.toNat)):=b_shr .i64 a b j h0 h1
theorem b_shl_i64 (a b : Int) (j : IntKind) (h0 : 0 ≤ b) (h1 : b ≤ 64) : binV .shl (.int .i64 a) (.int j b) = some (.int .i64 (IntKind.i64.wrap (a * 2 ^ b.toNat))):=b_shl .i64 a b j h0 h1
theorem b_shr_u32 (a b : Int) (j : IntKind) (h0 : 0 ≤ b) (h1 : b ≤ 32) : binV .shr (.int .u32 a) (.int j b) = some (.int .u32 (a / 2 ^ b.toNat)):=b_shr .u32 a b j h0 h1
theorem b_shl_u32 (a b : Int) (j : IntKind) (h0 : 0 ≤ b) (h1 : b ≤ 32) : binV .shl (.int .u32 a) (.int j b) = some (.int .u32 (IntKind.u32.wrap (a * 2 ^ b.toNat))):=b_shl .u32 a b j h0 h1
theorem b_shr_u8 (a b : Int) (j : IntKind) (h0 : 0 ≤ b) (h1 : b ≤ 8) : binV .shr (.int .u8 a) (.int j b) = some (.int .u8 (a / 2 ^ b.toNat)):=b_shr .u8 a b j h0 h1
theorem b_shl_u8 (a b : Int) (j : IntKind) (h0 : 0 ≤ b) (h1 : b ≤ 8) : binV .shl (.int .u8 a) (.int j b) = some (.int .u8 (IntKind.u8.wrap (a * 2 ^ b.toNat))):=b_shl .u8 a b j h0 h1
theorem wrap_u8 (x : Int) : IntKind.u8.wrap x = x % 256:=by simp [IntKind.wrap,IntKind.bits,IntKind.signed]
theorem wrap_u32 (x : Int) : IntKind.u32.wrap x = x % 4294967296:=by simp [IntKind.wrap,IntKind.bits,IntKind.signed]
theorem wrap_u64 (x : Int) : IntKind.u64.wrap x = x % 18446744073709551616:=by simp [IntKind.wrap,IntKind.bits,IntKind.signed]
theorem bits_u64 : IntKind.u64.bits = 64:=rfl
theorem bits_u32 : IntKind.u32.bits = 32:=rfl
theorem bits_i64 : IntKind.i64.bits = 64:=rfl
theorem bits_u8 : IntKind.u8.bits = 8:=rfl
end Go.Proofs.Ytleahjfgedfgmaa.Am
end
section
set_option linter.unusedVariables false
set_option linter.unusedSimpArgs false
namespace Go.Proofs.Ytleahjfgedfgmaa.Am
open Go Go.RowKit
structure Awc (E : Env) (ops : Array Oper) (l : List Oper) (st : St) (acc : List (V × List (Nat × Ob))) (K : List (V × List (Nat × Ob)) → St → Prop) : Prop where
  h : awc E ops l st acc K
def code1 (B : List Nat) (i j : Nat) : Option Bool:=if (B.getD i 0).testBit j = true then some true else if j = i then some false else if (B.getD j 0).testBit i = true then some false else none
def codes (B : List Nat) (i : Nat) : Nat → Nat → List (Option Bool)
  | _,0=>[]
  | j,n + 1=>code1 B i j :: codes B i (j + 1) n
def Sg2 (b : Nat → Bool) : List (Option Bool) → Nat → List Oper → List (V × List (Nat × Ob)) → St → St
  | some true :: cs,i,o :: os,(x,u) :: ds,st=>Sg2 b cs (i + 1) os ds (st.upd o.dst x u)
  | some false :: cs,i,_ :: os,_ :: ds,st=>Sg2 b cs (i + 1) os ds st
  | none :: cs,i,o :: os,(x,u) :: ds,st=>Sg2 b cs (i + 1) os ds (st.updIf (b i) o.dst x u)
  | _,_,_,_,st=>st
theorem Sg_two {B : List Nat} {i : Nat} {b : Nat → Bool} : ∀ (os : List Oper) (ds : List (V × List (Nat × Ob))) (j : Nat) (st : St),Sg (mk B i b) j os ds st = Sg2 b (codes B i j os.length) j os ds st
  | [],_,_,_=>by simp [Sg,Sg2,codes]
  | o :: os,[],j,st=>by
    simp only [Sg,List.length_cons,codes]
    cases code1 B i j with
    | none=>rfl
    | some c=>cases c <;> rfl
  | o :: os,(x,u) :: ds,j,st=>by
    simp only [Sg,List.length_cons,codes]
    have h : mk B i b j = match code1 B i j with|some c=>c|none=>b j:=by
      unfold mk code1
      split
      · rfl
      · split
        · rfl
        · split <;> rfl
    rw [h,Sg_two os ds]
    cases code1 B i j with
    | none=>rfl
    | some c=>cases c with
      | true=>rw [updIf_true];rfl
      | false=>rw [updIf_false];rfl
def Sg3 (b : Nat → Bool) : List (Option Bool) → Nat → List (Option Tmp) → List (V × List (Nat × Ob)) → St → St
  | some true :: cs,i,d :: os,(x,u) :: ds,st=>Sg3 b cs (i + 1) os ds (st.upd d x u)
  | some false :: cs,i,_ :: os,_ :: ds,st=>Sg3 b cs (i + 1) os ds st
  | none :: cs,i,d :: os,(x,u) :: ds,st=>Sg3 b cs (i + 1) os ds (st.updIf (b i) d x u)
  | _,_,_,_,st=>st
theorem Sg_three {b : Nat → Bool} : ∀ (cs : List (Option Bool)) (os : List Oper) (ds : List (V × List (Nat × Ob))) (i : Nat) (st : St),Sg2 b cs i os ds st = Sg3 b cs i (os.map (·.dst)) ds st
  | [],os,ds,i,st=>by cases os <;> rfl
  | c :: cs,[],ds,i,st=>by rcases c with _|_|_ <;> rfl
  | c :: cs,o :: os,[],i,st=>by rcases c with _|_|_ <;> rfl
  | c :: cs,o :: os,(x,u) :: ds,i,st=>by rcases c with _|_|_ <;> simp only [Sg2,Sg3,List.map_cons,Sg_three cs os ds]
def codesAll (B : List Nat) (n : Nat) : Nat → Nat → List (List (Option Bool))
  | _,0=>[]
  | i,m + 1=>codes B i 0 n :: codesAll B n (i + 1) m
def eachT (E : Env) (ops : Array Oper) (dd : List (Option Tmp)) (st : St) (δ : List (V × List (Nat × Ob))) : List (List (Option Bool)) → List Oper → List (V × List (Nat × Ob)) → Prop
  | cs :: css,o :: os,(x,u) :: ds=>(∀ (b : Nat → Bool) (K : V → List (Nat × Ob) → Prop),K x u → ev1 E ops o (Sg3 b cs 0 dd δ st) K) ∧ eachT E ops dd st δ css os ds
  | _,[],[]=>True
  | _,_,_=>False
structure Each (E : Env) (ops : Array Oper) (dd : List (Option Tmp)) (st : St) (δ : List (V × List (Nat × Ob))) (css : List (List (Option Bool))) (os : List Oper) (ds : List (V × List (Nat × Ob))) : Prop where
  h : eachT E ops dd st δ css os ds
theorem each_of {E : Env} {ops : Array Oper} {B : List Nat} {st : St} {δ : List (V × List (Nat × Ob))} : ∀ (os : List Oper) (ds : List (V × List (Nat × Ob))) (i : Nat),eachT E ops (ops.toList.map (·.dst)) st δ (codesAll B ops.toList.length i os.length) os ds → each E ops B st δ i os ds
  | [],[],_,_=>trivial
  | [],_ :: _,_,h=>h.elim
  | _ :: _,[],_,h=>by simp [codesAll,eachT] at h
  | o :: os,(x,u) :: ds,i,h=>by
    simp only [List.length_cons,codesAll,eachT] at h
    simp only [each]
    refine ⟨fun b=>?_,each_of os ds _ h.2⟩
    rw [Sg_two,Sg_three]
    exact h.1 b _ rfl
def pairB1 (B : List Nat) (i : Nat) (d : Option Tmp) (u : List Nat) : Nat → List Oper → List (List Nat) → Bool
  | j,o' :: os,u' :: ds=>((B.getD j 0).testBit i || ((d.isNone || decide (d ≠ o'.dst)) && u.all fun p=>u'.all fun q=>decide (p ≠ q))) && pairB1 B i d u (j + 1) os ds
  | _,_,_=>true
def pairsB (B : List Nat) : Nat → List Oper → List (List Nat) → Bool
  | i,o :: os,u :: ds=>pairB1 B i o.dst u (i + 1) os ds && pairsB B (i + 1) os ds
  | _,_,_=>true
def idsO (p : V × List (Nat × Ob)) : List Nat:=p.2.map (·.1)
theorem pair1_of {B : List Nat} {i : Nat} {o : Oper} {u : List (Nat × Ob)} : ∀ {os : List Oper} {ds : List (V × List (Nat × Ob))} {j : Nat},pairB1 B i o.dst (u.map (·.1)) j os (ds.map idsO) = true → pair1 B i o u j os ds
  | [],_,_,_=>by simp [pair1]
  | _ :: _,[],_,_=>by simp [pair1]
  | o' :: os,(x,u') :: ds,j,h=>by
    simp only [List.map_cons,pairB1,Bool.and_eq_true,Bool.or_eq_true,Option.isNone_iff_eq_none,decide_eq_true_eq,List.all_eq_true] at h
    simp only [pair1]
    refine ⟨h.1.imp id fun h=>⟨h.1,fun p hp q hq=>h.2 p.1 (List.mem_map_of_mem hp) q.1 ?_⟩,pair1_of h.2⟩
    exact List.mem_map_of_mem hq
theorem pairs_of {B : List Nat} : ∀ {os : List Oper} {ds : List (V × List (Nat × Ob))} {i : Nat},pairsB B i os (ds.map idsO) = true → pairs B i os ds
  | [],_,_,_=>by simp [pairs]
  | _ :: _,[],_,_=>by simp [pairs]
  | o :: os,(x,u) :: ds,i,h=>by
    simp only [List.map_cons,pairsB,Bool.and_eq_true] at h
    simp only [pairs]
    exact ⟨pair1_of h.1,pairs_of h.2⟩
section
variable {E : Env} {ops : Array Oper} {o : Oper} {r : List Oper} {st : St} {K : List (V × List (Nat × Ob)) → St → Prop} {acc : List (V × List (Nat × Ob))} {B : List Nat}
theorem awc_nil (h : K acc st) : Awc E ops [] st acc K:=⟨h⟩
theorem awc_none (hg : o.guard = none) (h : ∀ K' : V → List (Nat × Ob) → Prop,(∀ x u,Awc E ops r (st.upd o.dst x u) (acc ++ [(x,u)]) K → K' x u) → evk E o st K') : Awc E ops (o :: r) st acc K:=by
  refine ⟨?_⟩
  simp only [awc,ev1,hg];exact h _ fun _ _ h=>h.h
theorem awc_some {j : Nat} {want b : Bool} {t : Tmp} (hg : o.guard = some (j,want)) (ht : gvt ops j = some t) (htn : t < st.nt) (hb : gt st.tm t = .d (.v (.bool b))) (hd : dOkb o.dst st.nt = true)
    (h1 : b = want → ∀ K' : V → List (Nat × Ob) → Prop,(∀ x u,Awc E ops r (st.upd o.dst x u) (acc ++ [(x,u)]) K → K' x u) → evk E o st K') (h2 : b = !want → Awc E ops r (st.upd o.dst (.d (.v undef)) []) (acc ++ [(.d (.v undef),[])]) K) : Awc E ops (o :: r) st acc K:=by
  have hv : gv ops st j = some (some b):=by
    unfold gvt at ht
    unfold gv
    split at ht
    · rename_i q hq
      simp only [hq,ht,if_pos htn,hb]
    · cases ht
  refine ⟨?_⟩
  simp only [awc,ev1,hg,hv]
  exact ⟨fun e=>h1 e _ fun _ _ h=>h.h,fun e=>⟨dOkb_ok hd,(h2 e).h⟩⟩
variable {δ : List (V × List (Nat × Ob))} {dd : List (Option Tmp)} {css : List (List (Option Bool))} {cs : List (Option Bool)} {os : List Oper} {ds : List (V × List (Nat × Ob))} {x : V} {u : List (Nat × Ob)}
theorem each_nil : Each E ops dd st δ [] [] []:=⟨trivial⟩
theorem each_none (hg : o.guard = none) (h : ∀ (b : Nat → Bool) (K' : V → List (Nat × Ob) → Prop),K' x u → evk E o (Sg3 b cs 0 dd δ st) K') (hr : Each E ops dd st δ css os ds) : Each E ops dd st δ (cs :: css) (o :: os) ((x,u) :: ds):=by
  refine ⟨?_⟩
  simp only [eachT]
  refine ⟨fun b K hK=>?_,hr.h⟩
  simp only [ev1,hg]
  exact h b K hK
theorem Sg3_nt {b : Nat → Bool} : ∀ (cs : List (Option Bool)) (os : List (Option Tmp)) (ds : List (V × List (Nat × Ob))) (i : Nat) (st : St),(Sg3 b cs i os ds st).nt = st.nt
  | [],os,ds,i,st=>by cases os <;> rfl
  | c :: cs,[],ds,i,st=>by rcases c with _|_|_ <;> rfl
  | c :: cs,o :: os,[],i,st=>by rcases c with _|_|_ <;> rfl
  | c :: cs,o :: os,(x,u) :: ds,i,st=>by
    rcases c with _|_|_ <;> simp only [Sg3,Sg3_nt cs os ds]
    · rfl
    · cases o <;> rfl
theorem each_some {j : Nat} {want c : Bool} {t : Tmp} (hg : o.guard = some (j,want)) (ht : gvt ops j = some t) (htn : t < st.nt) (hd : dOkb o.dst st.nt = true)
    (h : if c = want then ∀ (b : Nat → Bool) (K' : V → List (Nat × Ob) → Prop),K' x u → evk E o (Sg3 b cs 0 dd δ st) K' else x = .d (.v undef) ∧ u = []) (hr : Each E ops dd st δ css os ds)
    (hb : ∀ b,gt (Sg3 b cs 0 dd δ st).tm t = .d (.v (.bool c)):=by (intro bb;simp only [Sg3,St.updIf,St.upd,St.put,ifc_nil,gt_ifc,gt,List.nil_append,List.cons_append,Option.some.injEq,reduceCtorEq,Nat.reduceEqDiff,↓reduceIte,ite_self];try rfl)) : Each E ops dd st δ (cs :: css) (o :: os) ((x,u) :: ds):=by
  refine ⟨?_⟩
  simp only [eachT]
  refine ⟨fun b K hK=>?_,hr.h⟩
  have hnt : (Sg3 b cs 0 dd δ st).nt = st.nt:=Sg3_nt _ _ _ _ _
  have hv : gv ops (Sg3 b cs 0 dd δ st) j = some (some c):=by
    unfold gvt at ht
    unfold gv
    split at ht
    · rename_i q hq
      simp only [hq,ht,hnt,if_pos htn,hb]
    · cases ht
  simp only [ev1,hg,hv]
  refine ⟨fun e=>?_,fun e=>?_⟩
  · rw [if_pos e] at h
    exact h b _ hK
  · rw [if_neg (by rw [e];cases want <;> simp)] at h
    obtain ⟨rfl,rfl⟩:=h
    exact ⟨by rw [hnt];exact dOkb_ok hd,hK⟩
end
theorem AW.regc {E : Env} (hE : E.Ok) (hm : E.P.follows .mixedOrders = true) {id : Nat} {ops : Array Oper} {st : St} {Q : Exit → St → Prop} (B : List Nat) (hB : bitsOk ops B = true) (l : List Nat)
    (h : Awc E ops ops.toList st [] fun δ s=>each E ops B st δ 0 ops.toList δ ∧ pairs B 0 ops.toList δ ∧ Q .normal (s.keep l)) : AW E.P (.region id ops true) st Q :=
  AW.draw hE hm B hB l h.h
theorem awc_leaf {E : Env} {ops ops' : Array Oper} {B : List Nat} {st s : St} {δ : List (V × List (Nat × Ob))} {l : List Nat} {Q : Exit → St → Prop} (dd : List (Option Tmp)) (css : List (List (Option Bool))) (hd : ops.toList.map (·.dst) = dd) (hc : codesAll B ops.toList.length 0 ops.toList.length = css)
    (h2 : pairsB B 0 ops.toList (δ.map idsO) = true) (h1 : Each E ops dd st δ css ops.toList δ) (h3 : Q .normal (s.keep l)) :
    Awc E ops' [] s δ fun δ s=>each E ops B st δ 0 ops.toList δ ∧ pairs B 0 ops.toList δ ∧ Q .normal (s.keep l):=by
  subst hd
  subst hc
  exact ⟨⟨each_of _ _ _ h1.h,pairs_of h2,h3⟩⟩
end Go.Proofs.Ytleahjfgedfgmaa.Am
end
