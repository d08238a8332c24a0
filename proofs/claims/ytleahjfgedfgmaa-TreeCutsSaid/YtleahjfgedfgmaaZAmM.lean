import Derived.Test.YtleahjfgedfgmaaZAmA
set_option linter.unusedVariables false
set_option linter.unusedSimpArgs false
namespace Go.Proofs.Ytleahjfgedfgmaa.Am
open Go Go.RowKit
def ofD : D → V
  | .agg l=>.agg (l.map .d)
  | x=>.d x
theorem ofD_vr {φ : Nat → Option Value} {w : World} {ok : Nat → Prop} {d : D} {y : Value} (h : Rd w ok d y) : VR φ w ok (ofD d) y:=by
  cases h with
  | agg l cs hl h1 h =>
    refine .agg _ _ (by simpa using hl) h1 fun j x y hx hy=>?_
    rw [List.getElem?_map] at hx
    obtain ⟨z,hz,rfl⟩:=Option.map_eq_some_iff.1 hx
    exact .d _ _ (h j z y hz hy)
  | v=>exact .d _ _ (.v _)
  | nil A c=>exact .d _ _ (.nil A c)
  | list l sz b o c vals hc hok hsz hd hv h1 h=>exact .d _ _ (.list l sz b o c vals hc hok hsz hd hv h1 h)
  | ref d b o vals hok hv h1 h=>exact .d _ _ (.ref d b o vals hok hv h1 h)
def mpT (P : Program) (t : TypeId) : Option (TypeId × TypeId) :=
  match P.underlying t with
  | some (.map k e)=>some (k,e)
  | _=>none
theorem mpT_open {P : Program} {t k e : TypeId} (h : mpT P t = some (k,e)) : P.underlying t = some (.map k e):=by
  unfold mpT at h
  split at h
  · cases h;assumption
  · cases h
def findM (k : Int) : List (Int × D) → Option D
  | []=>none
  | (a,d) :: r=>if a = k then some d else findM k r
def e_mkmap (P : Program) (t : TypeId) (x : Option Operand) (o : Oper) (st : St) (K : V → List (Nat × Ob) → Prop) : Prop :=
  dOk o.dst st.nt ∧ x = none ∧ match o.dst with
  | some n=>go st.hp n = none ∧ K (.mp n) [(n,.mp [])]
  | none=>False
theorem s_mkmap {P : Program} {t : TypeId} {x : Option Operand} {o : Oper} {st : St} {K : St → Prop} (ho : o.op = .makeMap t x) (h : e_mkmap P t x o st fun x ups=>K (st.upd o.dst x ups)) : Does P o st K:=by
  obtain ⟨hd,rfl,h⟩:=h
  split at h
  case h_2=>exact h.elim
  rename_i n hdst
  obtain ⟨hn,h⟩:=h
  refine does_run fun w0 oa φ a w hs=>?_
  have hb : Below w.heap.size w (w.alloc (.map #[] 0)):=(Below.refl _ _).alloc (Nat.le_refl _) _
  have hnew:=hs.hr.new n hn (.mp []) (.map (some w.heap.size)) (w':=w.alloc (.map #[] 0)) hb.size (hs.hr.below.alloc _)
    (fun b hlt=>hb.block b hlt) (fun b hb=>by simp only [blk,Option.some.injEq] at hb;omega)
    (fun ok _=>⟨w.heap.size,#[],0,by simp [upd],heap_alloc_new w _,rfl,by simp⟩)
  have hφn : φ n = none:=hs.hr.fresh n hn
  have hφ : ∀ id v,φ id = some v → upd φ n (.map (some w.heap.size)) id = some v:=by
    intro id v hv
    unfold upd
    split
    · rename_i e;subst e;rw [hφn] at hv;cases hv
    · exact hv
  have hs':=hs.heap hφ hnew
  refine ⟨.map (some w.heap.size),w.alloc (.map #[] 0),_,?_,h,(hs'.put o.dst hd (.mp n w.heap.size (by simp [upd]))).sr⟩
  simp [execOp,ho,Instr.makeMap]
theorem vr_mp {φ : Nat → Option Value} {w : World} {ok : Nat → Prop} {id : Nat} {y : Value} (h : VR φ w ok (.mp id) y) : ∃ b,y = .map (some b) ∧ φ id = some (.map (some b)):=by
  cases h with|mp _ b hid=>exact ⟨b,rfl,hid⟩
theorem find_at {kt : IntKind} (k : Int) : ∀ (es : List MapEntry) (l : List (Int × D)) (i : Nat),es.length = l.length → (∀ (j : Nat) (a : Int) (d : D) (en : MapEntry),l[j]? = some (a,d) → es[j]? = some en → en.key = .int .i64 a) →
    (∃ j d en,findM k l = some d ∧ l[j]? = some (k,d) ∧ es[j]? = some en ∧ Instr.findNow (.int .i64) (.int .i64 k) es i = some (some (i + j,en.val))) ∨ (findM k l = none ∧ Instr.findNow (.int .i64) (.int .i64 k) es i = some none)
  | [],[],i,_,_=>.inr ⟨rfl,rfl⟩
  | [],_ :: _,_,h,_=>by simp at h
  | _ :: _,[],_,h,_=>by simp at h
  | en :: es,(a,d) :: l,i,hl,hk=>by
    have h0:=hk 0 a d en rfl rfl
    simp only [findM,Instr.findNow,h0,Instr.sameNow,if_true]
    by_cases e : k = a
    · subst e
      refine .inl ⟨0,d,en,by simp,rfl,rfl,by simp⟩
    · have e1 : (k == a) = false:=by simp [e]
      have e2 : ¬ a = k:=fun h=>e h.symm
      rw [e1,if_neg e2]
      simp only
      rcases find_at (kt:=kt) k es l (i + 1) (by simpa using hl) (fun j a d en h1 h2=>hk (j + 1) a d en (by simpa using h1) (by simpa using h2)) with ⟨j,d',en',h1,h2,h3,h4⟩|⟨h1,h2⟩
      · exact .inl ⟨j + 1,d',en',h1,by simpa using h2,by simpa using h3,by rw [h4];congr 3;omega⟩
      · exact .inr ⟨h1,h2⟩
theorem check_int {P : Program} {t : TypeId} {k : IntKind} (h : P.underlying t = some (.int k)) (b : Bool) (v : Int) (w : World) : (Instr.checkKey b 10000 t (.int k v)).run P w = .ok () w:=by
  rw [show (10000 : Nat) = 9999 + 1 from rfl]
  unfold Instr.checkKey
  rw [Sem.run_bind,run_underlying h]
  rfl
theorem run_getMap {P : Program} {w : World} {r c : Nat} {es : Array MapEntry} (h : w.heap[r]? = some (.map es c)) : (getObj r).run P w = .ok (.map es c) w:=by
  simp [getObj,Sem.run,h]
theorem run_setMap {P : Program} {w : World} {r c : Nat} {es : Array MapEntry} (o : Obj) (h : w.heap[r]? = some (.map es c)) : (setObj r o).run P w = .ok () { w with heap:=w.heap.setIfInBounds r o }:=by
  simp [setObj,Sem.run,h]
def zvT (P : Program) (t : TypeId) : Option Value:=(P.info? t).bind (·.zero)
def e_lookup (P : Program) (t : TypeId) (x i : Operand) (ok : Bool) (o : Oper) (st : St) (K : V → List (Nat × Ob) → Prop) : Prop :=
  dOk o.dst st.nt ∧ ok = true ∧ match mpT P t with
  | some (kt,et)=>ik P kt = some .i64 ∧ match zvT P et with
    | some z=>match st.ev i with
      | .d (.v (.int .i64 k))=>match st.ev x with
        | .mp id=>match go st.hp id with
          | some (.mp l)=>match findM k l with
            | some d=>K (.tup [ofD d,.d (.v (.bool true))]) []
            | none=>K (.tup [cV z,.d (.v (.bool false))]) []
          | _=>False
        | _=>False
      | _=>False
    | none=>False
  | none=>False
theorem vr_pair {φ : Nat → Option Value} {w : World} {ok : Nat → Prop} {x : V} {y : Value} (b : Bool) (h : VR φ w ok x y) : VR φ w ok (.tup [x,.d (.v (.bool b))]) (.tuple #[y,.bool b]):=by
  refine .tup _ _ rfl fun j x' y' hx hy=>?_
  match j,hx,hy with
  | 0,hx,hy=>simp at hx hy;subst hx hy;exact h
  | 1,hx,hy=>simp at hx hy;subst hx hy;exact .d _ _ (.v _)
  | j + 2,hx,_=>simp at hx
theorem s_lookup {P : Program} {t : TypeId} {x i : Operand} {ok : Bool} {o : Oper} {st : St} {K : St → Prop} (ho : o.op = .lookup t x i ok) (h : e_lookup P t x i ok o st fun x ups=>K (st.upd o.dst x ups)) : Does P o st K:=by
  obtain ⟨hd,rfl,h⟩:=h
  split at h
  case h_2=>exact h.elim
  rename_i kt et hm
  obtain ⟨hik,h⟩:=h
  split at h
  case h_2=>exact h.elim
  rename_i z hz
  split at h
  case h_2=>exact h.elim
  rename_i k hi
  split at h
  case h_2=>exact h.elim
  rename_i id hx
  split at h
  case h_2=>exact h.elim
  rename_i l hg
  have hu:=mpT_open hm
  have hk:=ik_open hik
  obtain ⟨inf,hinf,hzv⟩:=Option.bind_eq_some_iff.1 hz
  have main : ∀ (w0 : World) (oa : OA) (φ : Nat → Option Value) (a : Act) (w : World),SRp w0 oa φ st a w → ∃ y,(Instr.lookup t (a.eval x) (a.eval i) true).run P w = .ok y w ∧
      ((∃ d,findM k l = some d ∧ VR φ w (okB w0 oa φ (go st.hp) w) (.tup [ofD d,.d (.v (.bool true))]) y) ∨ (findM k l = none ∧ VR φ w (okB w0 oa φ (go st.hp) w) (.tup [cV z,.d (.v (.bool false))]) y)):=by
    intro w0 oa φ a w hs
    have e1:=hs.ev x;rw [hx] at e1
    have e2:=hs.ev i;rw [hi] at e2
    obtain ⟨b,e1,hb⟩:=vr_mp e1
    obtain ⟨b',es,c,hb',hh,hl,hr⟩:=hs.hr.obj id _ hg
    have hbb : b = b':=by
      have:=hb.symm.trans hb'
      simpa using this
    subst hbb
    have hrun : ∀ (r : Option (Nat × Value)),Instr.findNow (.int .i64) (.int .i64 k) es.toList 0 = some r → (Instr.lookup t (a.eval x) (a.eval i) true).run P w = .ok (match r with|some (_,v)=>.tuple #[v,.bool true]|none=>.tuple #[z,.bool false]) w:=by
      intro r hr
      rw [e1,vr_v e2]
      cases r with
      | none=>simp [Instr.lookup,run_underlying hu,run_getMap hh,check_int hk,Instr.findKey,run_underlying hk,hr,zeroValue,typeInfo,hinf,hzv]
      | some p=>simp [Instr.lookup,run_underlying hu,run_getMap hh,check_int hk,Instr.findKey,run_underlying hk,hr]
    rcases find_at (kt:=.i64) k es.toList l 0 (by simpa using hl) (fun j a d en h1 h2=>(hr j a d en h1 (by simpa using h2)).1) with ⟨j,d,en,h1,h2,h3,h4⟩|⟨h1,h2⟩
    · exact ⟨_,hrun _ h4,.inl ⟨d,h1,vr_pair true (ofD_vr (hr j k d en h2 (by simpa using h3)).2)⟩⟩
    · exact ⟨_,hrun _ h2,.inr ⟨h1,vr_pair false (vr_c z)⟩⟩
  split at h
  · rename_i d hf
    refine does_val _ hd (fun w0 oa φ a w hs=>?_) h
    obtain ⟨y,h1,h2⟩:=main w0 oa φ a w hs
    refine ⟨y,by simp [execOp,ho,h1],?_⟩
    rcases h2 with ⟨d',hf',hv⟩|⟨hf',_⟩
    · rw [hf] at hf';cases hf';exact hv
    · rw [hf] at hf';cases hf'
  · rename_i hf
    refine does_val _ hd (fun w0 oa φ a w hs=>?_) h
    obtain ⟨y,h1,h2⟩:=main w0 oa φ a w hs
    refine ⟨y,by simp [execOp,ho,h1],?_⟩
    rcases h2 with ⟨d',hf',hv⟩|⟨hf',hv⟩
    · rw [hf] at hf';cases hf'
    · exact hv
def e_mapup (P : Program) (t : TypeId) (m k x : Operand) (o : Oper) (st : St) (K : V → List (Nat × Ob) → Prop) : Prop :=
  dOk o.dst st.nt ∧ match mpT P t with
  | some (kt,_)=>ik P kt = some .i64 ∧ match st.ev k with
    | .d (.v (.int .i64 n))=>match st.ev x with
      | .d d=>match st.ev m with
        | .mp id=>match go st.hp id with
          | some (.mp l)=>findM n l = none ∧ K (.d (.v undef)) [(id,.mp (l ++ [(n,d)]))]
          | _=>False
        | _=>False
      | _=>False
    | _=>False
  | none=>False
theorem s_mapup {P : Program} {t : TypeId} {m k x : Operand} {o : Oper} {st : St} {K : St → Prop} (ho : o.op = .mapUpdate t m k x) (h : e_mapup P t m k x o st fun x ups=>K (st.upd o.dst x ups)) : Does P o st K:=by
  obtain ⟨hd,h⟩:=h
  split at h
  case h_2=>exact h.elim
  rename_i kt et hm
  obtain ⟨hik,h⟩:=h
  split at h
  case h_2=>exact h.elim
  rename_i n hk
  split at h
  case h_2=>exact h.elim
  rename_i d hx
  split at h
  case h_2=>exact h.elim
  rename_i id hmp
  split at h
  case h_2=>exact h.elim
  rename_i l hg
  obtain ⟨hf,h⟩:=h
  have hu:=mpT_open hm
  have hki:=ik_open hik
  refine does_skip fun w0 oa φ a w hs=>?_
  have e1:=hs.ev m;rw [hmp] at e1
  have e2:=hs.ev k;rw [hk] at e2
  have e3:=hs.ev x;rw [hx] at e3
  obtain ⟨b,e1,hb⟩:=vr_mp e1
  obtain ⟨b',es,c,hb',hh,hl,hr⟩:=hs.hr.obj id _ hg
  have hbb : b = b':=by
    have:=hb.symm.trans hb'
    simpa using this
  subst hbb
  have hnow : Instr.findNow (.int .i64) (.int .i64 n) es.toList 0 = some none:=by
    rcases find_at (kt:=.i64) n es.toList l 0 (by simpa using hl) (fun j a d en h1 h2=>(hr j a d en h1 (by simpa using h2)).1) with ⟨j,d,en,h1,_⟩|⟨_,h2⟩
    · rw [hf] at h1;cases h1
    · exact h2
  have hlt : b < w.heap.size:=(Array.getElem?_eq_some_iff.1 hh).1
  have hrun : (Instr.mapUpdate t (a.eval m) (a.eval k) (a.eval x)).run P w = .ok () { w with heap:=w.heap.setIfInBounds b (.map (es.push { key:=.int .i64 n,val:=a.eval x,born:=c }) (c + 1)) }:=by
    rw [e1,vr_v e2]
    simp [Instr.mapUpdate,run_underlying hu,run_getMap hh,check_int hki,Instr.findKey,run_underlying hki,hnow,run_setMap _ hh]
  have hother : ∀ k,k ≠ b → ({ w with heap:=w.heap.setIfInBounds b (.map (es.push { key:=.int .i64 n,val:=a.eval x,born:=c }) (c + 1)) } : World).heap[k]? = w.heap[k]?:=fun k hk=>by
    simp [Array.getElem?_setIfInBounds,Ne.symm hk]
  have key:=hs.hr.touch hg (by simp) (ob':=.mp (l ++ [(n,d)])) (by simp) hb rfl (w':={ w with heap:=w.heap.setIfInBounds b (.map (es.push { key:=.int .i64 n,val:=a.eval x,born:=c }) (c + 1)) }) (by simp)
    (hs.hr.below.step rfl rfl rfl (by simp) fun k hk hn=>hother k fun e=>hn (e ▸ hs.hr.mine id _ _ b hg (by simp) hb rfl)) (fun k hk=>hother k hk) ?_
  · have hs':=hs.heap (fun _ _ hv=>hv) key
    refine ⟨_,_,?_,h,(hs'.put o.dst hd (.d _ _ (.v _))).sr⟩
    simp [execOp,ho,hrun]
  · intro ok hok
    have mono : ∀ {q : D} {z : Value},Rd w (okB w0 oa φ (go st.hp) w) q z → Rd { w with heap:=w.heap.setIfInBounds b (.map (es.push { key:=.int .i64 n,val:=a.eval x,born:=c }) (c + 1)) } ok q z:=fun hrd =>
      hrd.mono (fun k hk=>hother k (hok k hk).2) (fun k hk=>(hok k hk).1)
    refine ⟨b,es.push { key:=.int .i64 n,val:=a.eval x,born:=c },c + 1,hb,by simp [hlt],by simp [hl],fun j a' d' en h1 h2=>?_⟩
    rw [List.getElem?_append] at h1
    rw [Array.getElem?_push] at h2
    split at h1
    · rename_i hj
      rw [if_neg (by omega)] at h2
      exact ⟨(hr j a' d' en h1 h2).1,mono (hr j a' d' en h1 h2).2⟩
    · rename_i hj
      have hj0 : j - l.length = 0:=by
        have:=(List.getElem?_eq_some_iff.1 h1).1
        simp at this;omega
      rw [hj0] at h1
      simp at h1
      obtain ⟨rfl,rfl⟩:=h1
      rw [if_pos (by omega)] at h2
      cases h2
      refine ⟨rfl,mono ?_⟩
      cases e3 with|d _ _ e3=>exact e3
def e_copyE (P : Program) (t : TypeId) (x y : Operand) (o : Oper) (st : St) (K : V → List (Nat × Ob) → Prop) : Prop :=
  dOk o.dst st.nt ∧ match el P t with
  | some (_,s1,_)=>s1 = 1 ∧ match st.ev x with
    | .es id sz i c len=>match go st.hp id with
      | some (.row e sz' l)=>sz = sz' ∧ c = 0 ∧ len = sz ∧ 0 < len ∧ i < l.length ∧ match elems st.hp (st.ev y) with
        | some xs=>len ≤ xs.length ∧ (∀ d ∈ xs,d.cells = [d]) ∧ K (.d (.v (.int .i64 len))) [(id,.row e sz' (l.set i (.agg (xs.take len))))]
        | none=>False
      | _=>False
    | _=>False
  | none=>False
theorem s_copyE {P : Program} {t t2 : TypeId} {x y : Operand} {o : Oper} {st : St} {K : St → Prop} (ho : o.op = .call { callee:=.builtin .copy,args:=#[x,y],argTypes:=#[t,t2] }) (h : e_copyE P t x y o st fun x ups=>K (st.upd o.dst x ups)) : Does P o st K:=by
  obtain ⟨hd,h⟩:=h
  split at h
  case h_2=>exact h.elim
  rename_i e s1 by' he
  obtain ⟨rfl,h⟩:=h
  obtain ⟨inf,hu,hinf,hsz,_⟩:=el_open he
  have hs1 : (P.info? e).map (·.size) = some 1:=by rw [hinf];simp [hsz]
  split at h
  case h_2=>exact h.elim
  rename_i id sz i c len hx
  split at h
  case h_2=>exact h.elim
  rename_i e1 sz' l hg
  obtain ⟨rfl,rfl,rfl,hl0,hi,h⟩:=h
  split at h
  case h_2=>exact h.elim
  rename_i xs hxs
  obtain ⟨hle,hone,h⟩:=h
  refine does_run fun w0 oa φ a w hs=>?_
  have ex:=hs.ev x;rw [hx] at ex
  obtain ⟨A,c,ey,hA⟩:=src_open hs.hr (hs.ev y) hxs (sz:=1) (by decide) (fun d hd=>by rw [hone d hd];rfl)
  have hmin : Nat.min xs.length len = len:=Nat.min_eq_right hle
  generalize hX : a.eval x = X at ex
  cases ex with
  | es _ _ _ _ _ b n cap hid =>
    rcases hA with ⟨hn,_⟩|⟨ad,news,rfl,hc,hrw⟩
    · subst hn;simp at hle;omega
    have hnl : news.length = xs.length:=by have:=hrw.1;omega
    have htl : (news.take len).length = len:=by rw [List.length_take];omega
    obtain ⟨u,cs,hu',hszp,how,hrl⟩:=hs.hr.obj id _ hg
    obtain rfl : u = _:=Option.some.inj (hu'.symm.trans hid)
    rcases how.2 with ⟨h2,_⟩|⟨g',cap',cur,h2,hbase,hh,hnc,hcm,hcs,htake⟩
    · simp at h2
    simp only [Value.slice.injEq,Option.some.injEq,Addr.mk.injEq,and_true,true_and] at h2
    obtain ⟨rfl,rfl,rfl⟩:=h2
    have hil : i * len + len ≤ l.length * len:=by
      calc i * len + len = (i + 1) * len:=by rw [Nat.add_mul,Nat.one_mul]
        _ ≤ l.length * len:=Nat.mul_le_mul_right _ hi
    have hlc : l.length * len ≤ cur.size:=by rw [hcs];exact Nat.mul_le_mul_right _ hnc
    have hrun:=run_copy_row (P:=P) w t t2 o.type e b (i * len + 0) len len ad xs.length c cur e1 (news.take len) hu hs1 hh (by rw [htl,hmin]) (fun j v hv=>by
      rw [List.getElem?_take] at hv
      split at hv
      · exact hc j v hv
      · cases hv) (by rw [htl];omega) (fun v hv=>hrw.2.1 v (List.mem_of_mem_take hv))
    rw [htl] at hrun
    simp only [Nat.add_zero] at hrun
    have key:=hs.hr.touch hg (by simp) (ob':=.row e1 len (l.set i (.agg (xs.take len)))) (by simp) hid rfl (w':=w.setRow b (cur.toList.take (i * len) ++ news.take len ++ cur.toList.drop (i * len + len)).toArray) (by simp) (below_setRow hs.hr.below b (hs.hr.mine id _ _ b hg (by simp) hid rfl) _) (fun k hk=>setRow_other w b k _ hk) ?_
    · have hs':=hs.heap (fun _ _ hv=>hv) key
      refine ⟨.int .i64 ((len : Nat) : Int),_,_,?_,h,(hs'.put _ hd (.d _ _ (.v _))).sr⟩
      simp only [execOp,ho,resolve,invoke,builtin]
      simp [hX,ey,hrun,goInt]
    · intro ok hok
      have hcur:=mid_len cur.toList (news.take len) (i * len) (by rw [htl];simp;omega)
      have hget:=mid_get cur.toList (news.take len) (i * len) (by rw [htl];simp;omega)
      rw [htl] at hcur hget
      refine ⟨_,(cur.toList.take (i * len) ++ news.take len ++ cur.toList.drop (i * len + len)).take (l.length * len),hid,hszp,?_,?_,?_,?_,?_⟩
      · rw [List.length_set]
        refine ⟨by rw [List.length_take,hcur];simp;omega,.inr ⟨b,cap,_,rfl,hbase,setRow_heap w b cur _ e1 _ hh,hnc,hcm,?_,rfl⟩⟩
        simp only [List.size_toArray]
        rw [hcur];simpa using hcs
      · rw [List.length_take,hcur,List.length_set];simp;omega
      · intro z hz
        obtain ⟨j,hj⟩:=List.mem_iff_getElem?.1 hz
        rw [List.getElem?_take] at hj
        split at hj
        · rename_i hjl
          rw [hget j] at hj
          split at hj
          · exact hrw.2.1 z (List.mem_of_mem_take (List.mem_of_getElem? hj))
          · refine hrl.2.1 z (List.mem_of_getElem? (i:=j) ?_)
            rw [← htake,List.getElem?_take,if_pos hjl]
            exact hj
        · cases hj
      · intro q hq
        rcases List.mem_or_eq_of_mem_set hq with hq|rfl
        · exact hrl.2.2.1 q hq
        · show (xs.take len).length = len
          rw [List.length_take];omega
      · intro k j q z v hq hz hv
        have hmono : ∀ {q : D} {z : Value},Rd w (okB w0 oa φ (go st.hp) w) q z → Rd (w.setRow b (cur.toList.take (i * len) ++ news.take len ++ cur.toList.drop (i * len + len)).toArray) ok q z:=fun hr =>
          hr.mono (fun k hk=>setRow_other w b k _ (hok k hk).2) (fun k hk=>(hok k hk).1)
        have hk : k < l.length:=by
          have:=(List.getElem?_eq_some_iff.1 hq).1
          rwa [List.length_set] at this
        rw [List.getElem?_take] at hv
        split at hv
        case isFalse=>cases hv
        rename_i hjl
        rw [hget] at hv
        rw [List.getElem?_set] at hq
        by_cases hik : i = k
        · subst hik
          rw [if_pos rfl,if_pos hi] at hq
          cases hq
          have hz' : (xs.take len)[j]? = some z:=hz
          have hj : j < len:=by
            have:=(List.getElem?_eq_some_iff.1 hz').1
            rw [List.length_take] at this;omega
          rw [if_pos (by omega),show i * len + j - i * len = j by omega] at hv
          rw [List.getElem?_take,if_pos hj] at hz' hv
          have hone':=hone z (List.mem_of_getElem? hz')
          have:=hrw.2.2.2 j 0 z z v hz' (by rw [hone'];rfl) (by simpa using hv)
          exact hmono this
        · rw [if_neg hik] at hq
          have hj : j < len:=by rw [← hrl.2.2.1 q (List.mem_of_getElem? hq)];exact (List.getElem?_eq_some_iff.1 hz).1
          have hne : ¬ (i * len ≤ k * len + j ∧ k * len + j < i * len + len):=by
            intro hc
            rcases Nat.lt_or_ge i k with h6|h6
            · have : (i + 1) * len ≤ k * len:=Nat.mul_le_mul_right _ h6
              rw [Nat.add_mul,Nat.one_mul] at this
              omega
            · have : (k + 1) * len ≤ i * len:=Nat.mul_le_mul_right _ (by omega)
              rw [Nat.add_mul,Nat.one_mul] at this
              omega
          rw [if_neg hne] at hv
          refine hmono (hrl.2.2.2 k j q z v hq hz ?_)
          rw [← htake,List.getElem?_take,if_pos hjl]
          exact hv
def e_cpy (P : Program) (t : TypeId) (x y : Operand) (o : Oper) (st : St) (K : V → List (Nat × Ob) → Prop) : Prop :=
  match st.ev x with
  | .es _ _ _ _ _=>e_copyE P t x y o st K
  | _=>e_copy P t x y o st K
theorem s_cpy {P : Program} {t t2 : TypeId} {x y : Operand} {o : Oper} {st : St} {K : St → Prop} (ho : o.op = .call { callee:=.builtin .copy,args:=#[x,y],argTypes:=#[t,t2] }) (h : e_cpy P t x y o st fun x ups=>K (st.upd o.dst x ups)) : Does P o st K:=by
  unfold e_cpy at h
  split at h
  · exact s_copyE ho h
  · exact s_copy ho h
end Go.Proofs.Ytleahjfgedfgmaa.Am
