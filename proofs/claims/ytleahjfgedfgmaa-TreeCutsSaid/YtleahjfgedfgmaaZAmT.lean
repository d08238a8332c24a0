import Derived.Laws.LoneSync
import Derived.Test.YtleahjfgedfgmaaZAmM
set_option linter.unusedVariables false
set_option linter.unusedSimpArgs false
namespace Go.Proofs.Ytleahjfgedfgmaa.Am
open Go Go.RowKit
def AtomOk (P : Program) (f : FuncId) : Nat → Prop
  | 0=>∀ (a : Addr) (x : Int) (w : World),w.cell? a = some (.int .i64 x) → (callFunc f #[.pointer (some a)]).run P w = .ok (.value (.int .i64 x)) w
  | 1=>∀ (a : Addr) (u : Value) (y : Int) (w : World),w.cell? a = some u → w.frozen? a = false → (callFunc f #[.pointer (some a),.int .i64 y]).run P w = .ok (.value (.tuple #[])) (w.setCell a (.int .i64 y))
  | _=>∀ (a : Addr) (x y : Int) (w : World),w.cell? a = some (.int .i64 x) → w.frozen? a = false → (callFunc f #[.pointer (some a),.int .i64 y]).run P w = .ok (.value (.int .i64 (IntKind.i64.wrap (x + y)))) (w.setCell a (.int .i64 (IntKind.i64.wrap (x + y))))
theorem atom_load {P : Program} {f : FuncId} {fn : Func} (hf : P.funcs[f]? = some fn) (hname : (fn.name == "runtime.NumGoroutine") = false) (hb : fn.body.isNone = true) (hn : Extern.findNext fn = none) (he : Extern.find fn = some (Extern.Atomic.loadT (.int .i64))) : AtomOk P f 0 :=
  fun a x w hc=>run_call_load hf hname hb hn .i64 he hc
theorem atom_store {P : Program} {f : FuncId} {fn : Func} (hf : P.funcs[f]? = some fn) (hname : (fn.name == "runtime.NumGoroutine") = false) (hb : fn.body.isNone = true) (hn : Extern.findNext fn = none) (he : Extern.find fn = some Extern.Atomic.storeT) : AtomOk P f 1 :=
  fun a u y w hc hz=>run_call_store hf hname hb hn he hc hz
theorem atom_add {P : Program} {f : FuncId} {fn : Func} (hf : P.funcs[f]? = some fn) (hname : (fn.name == "runtime.NumGoroutine") = false) (hb : fn.body.isNone = true) (hn : Extern.findNext fn = none) (he : Extern.find fn = some (Extern.Atomic.update (Op.intArith .add) .i64 true)) : AtomOk P f 2 :=
  fun a x y w hc hz=>run_call_add hf hname hb hn .i64 he hc hz (by simp [Op.intArith])
def e_atom (k : Nat) (xs : Array Operand) (o : Oper) (st : St) (K : V → List (Nat × Ob) → Prop) : Prop :=
  dOk o.dst st.nt ∧ match xs.toList with
  | [x]=>k = 0 ∧ match st.ev x with
    | .ptr id off=>match go st.hp id with
      | some (.box l)=>match l[off]? with
        | some (.d (.v (.int .i64 n)))=>K (.d (.v (.int .i64 n))) []
        | _=>False
      | _=>False
    | _=>False
  | [x,y]=>(k = 1 ∨ k = 2) ∧ match st.ev y with
    | .d (.v (.int .i64 m))=>match st.ev x with
      | .ptr id off=>match go st.hp id with
        | some (.box l)=>match l[off]? with
          | some (.d (.v (.int .i64 n)))=>K (if k = 1 then .tup [] else .d (.v (.int .i64 (IntKind.i64.wrap (n + m))))) [(id,.box (l.take off ++ [.d (.v (.int .i64 (if k = 1 then m else IntKind.i64.wrap (n + m))))] ++ l.drop (off + 1)))]
          | _=>False
        | _=>False
      | _=>False
    | _=>False
  | _=>False
theorem s_atom {P : Program} {k : Nat} {f : FuncId} (hA : AtomOk P f k) {xs : Array Operand} {ts : Array TypeId} {o : Oper} {st : St} {K : St → Prop} (ho : o.op = .call { callee:=.value (.func f),args:=xs,argTypes:=ts })
    (h : e_atom k xs o st fun x ups=>K (st.upd o.dst x ups)) : Does P o st K:=by
  obtain ⟨hd,h⟩:=h
  have hrun : ∀ (a : Act) (w : World),(execOp a.eval o).run P w = (callFunc f (xs.map a.eval)).run P w:=by
    intro a w
    simp [execOp,ho,resolve,Act.eval,Deferred.ofValue,invoke]
  have hbox : ∀ {w0 : World} {oa : OA} {φ : Nat → Option Value} {a : Act} {w : World} {x : Operand} {id off : Nat} {l : List V} {n : Int},SRp w0 oa φ st a w → st.ev x = .ptr id off → go st.hp id = some (.box l) → l[off]? = some (.d (.v (.int .i64 n))) →
      ∃ b t cs,a.eval x = .pointer (some ⟨b,off,none⟩) ∧ φ id = some (.pointer (some ⟨b,0,none⟩)) ∧ w.heap[b]? = some (.cells cs t (0,0)) ∧ cs.size = l.length ∧ (∀ (j : Nat) (y : Value),cs[j]? = some y → y.oneCell' = true) ∧
        (∀ (j : Nat) (x : V) (y : Value),l[j]? = some x → cs[j]? = some y → VR φ w (okB w0 oa φ (go st.hp) w) x y) ∧ w.cell? ⟨b,off,none⟩ = some (.int .i64 n) ∧ w.frozen? ⟨b,off,none⟩ = false:=by
    intro w0 oa φ a w x id off l n hs hx hg hl
    obtain ⟨b,t,cs,hu,_,hh,hcl,h1,hr⟩:=hs.hr.obj id _ hg
    have e1:=hs.ev x;rw [hx] at e1
    obtain ⟨b',hb',e1⟩:=vr_ptr e1
    have hbb : b' = b:=by
      have:=hb'.symm.trans hu
      simpa using this
    subst hbb
    have hlt : off < cs.size:=by rw [hcl];exact (List.getElem?_eq_some_iff.1 hl).1
    have hce : cs[off]? = some (.int .i64 n):=by
      have hv:=hr off _ cs[off] hl (by simp)
      rw [← vr_v hv];simp
    refine ⟨b',t,cs,e1,hu,hh,hcl,h1,hr,?_,?_⟩
    · rw [cell_of_row w b' off cs t (0,0) hh];exact hce
    · simp [World.frozen?,hh]
  split at h
  · rename_i x hxs
    obtain ⟨rfl,h⟩:=h
    split at h
    case h_2=>exact h.elim
    rename_i id off hx
    split at h
    case h_2=>exact h.elim
    rename_i l hg
    split at h
    case h_2=>exact h.elim
    rename_i n hl
    refine does_run fun w0 oa φ a w hs=>?_
    obtain ⟨b,t,cs,e1,_,_,_,_,_,hc,_⟩:=hbox hs hx hg hl
    have hxe : xs.map a.eval = #[a.eval x]:=by
      apply Array.toList_inj.1
      rw [Array.toList_map,hxs];rfl
    refine ⟨_,w,_,?_,h,(hs.put o.dst hd (.d _ _ (.v _))).sr⟩
    rw [hrun,hxe,e1]
    exact hA _ _ _ hc
  · rename_i x y hxs
    obtain ⟨hk,h⟩:=h
    split at h
    case h_2=>exact h.elim
    rename_i m hy
    split at h
    case h_2=>exact h.elim
    rename_i id off hx
    split at h
    case h_2=>exact h.elim
    rename_i l hg
    split at h
    case h_2=>exact h.elim
    rename_i n hl
    refine does_run fun w0 oa φ a w hs=>?_
    obtain ⟨b,t,cs,e1,hu,hh,hcl,h1,hr,hc,hz⟩:=hbox hs hx hg hl
    have e2:=hs.ev y;rw [hy] at e2
    have e2:=vr_v e2
    have hxe : xs.map a.eval = #[a.eval x,a.eval y]:=by
      apply Array.toList_inj.1
      rw [Array.toList_map,hxs];rfl
    have hlt : off < cs.size:=by rw [hcl];exact (List.getElem?_eq_some_iff.1 hl).1
    have key : ∀ (r : V) (ry : Value) (z : Int),VR φ w (okB w0 oa φ (go st.hp) w) r ry → (∀ (φ : Nat → Option Value) (w : World) (ok : Nat → Prop),VR φ w ok r ry) → (callFunc f #[.pointer (some ⟨b,off,none⟩),.int .i64 m]).run P w = .ok (.value ry) (w.setCell ⟨b,off,none⟩ (.int .i64 z)) →
        K (st.upd o.dst r [(id,.box (l.take off ++ [.d (.v (.int .i64 z))] ++ l.drop (off + 1)))]) → ∃ y w' st',(execOp a.eval o).run P w = .ok (.value y) w' ∧ K st' ∧ SR w0 oa st' (a.put o.dst y) w':=by
      intro r ry z _ hrr hcall hK
      have hother : ∀ k,k ≠ b → (w.setCell ⟨b,off,none⟩ (.int .i64 z)).heap[k]? = w.heap[k]?:=fun k hk=>heap_setCell_other w ⟨b,off,none⟩ k _ hk
      have hsame:=heap_setCell_same w b off cs t (.int .i64 z) hh
      have key:=hs.hr.touch hg (by simp) (ob':=.box (l.take off ++ [.d (.v (.int .i64 z))] ++ l.drop (off + 1))) (by simp) hu rfl (w':=w.setCell ⟨b,off,none⟩ (.int .i64 z)) (by simp)
        (hs.hr.below.step rfl rfl rfl (by simp) fun k hk hn=>hother k fun e=>hn (e ▸ hs.hr.mine id _ _ b hg (by simp) hu rfl)) (fun k hk=>hother k hk) ?_
      · have hs':=hs.heap (fun _ _ hv=>hv) key
        refine ⟨ry,_,_,?_,hK,(hs'.put o.dst hd (hrr _ _ _)).sr⟩
        rw [hrun,hxe,e1,e2]
        exact hcall
      · intro ok hok
        have hoff : off < l.length:=by rw [← hcl];exact hlt
        have hlen : (l.take off ++ [V.d (.v (.int .i64 z))] ++ l.drop (off + 1)).length = l.length:=by simp;omega
        have hset : l.take off ++ [V.d (.v (.int .i64 z))] ++ l.drop (off + 1) = l.set off (.d (.v (.int .i64 z))):=by rw [List.set_eq_take_append_cons_drop,if_pos hoff];simp
        refine ⟨b,t,cs.setIfInBounds off (.int .i64 z),hu,Nat.zero_le _,hsame,by rw [hlen];simpa using hcl,fun j q hq=>?_,fun j q u hq hu'=>?_⟩
        · rw [Array.getElem?_setIfInBounds] at hq
          split at hq
          · rename_i e
            first|(split at hq <;> first|(cases hq;rfl)|cases hq)|(cases hq;rfl)
          · exact h1 j q hq
        · rw [hset,List.getElem?_set] at hq
          rw [Array.getElem?_setIfInBounds] at hu'
          split at hq
          · rename_i e
            subst e
            have hu2 : u = .int .i64 z:=by
              have h9 : some (Value.int .i64 z) = some u:=by simpa [hlt] using hu'
              cases h9;rfl
            have h8 : some (V.d (.v (.int .i64 z))) = some q:=by simpa [hoff] using hq
            cases h8
            rw [hu2]
            exact .d _ _ (.v _)
          · rename_i e
            rw [if_neg e] at hu'
            exact (hr j q u hq hu').mono (fun _ _ hv=>hv) (fun k hk=>hother k (hok k hk).2) (fun k hk=>(hok k hk).1)
    rcases hk with rfl|rfl
    · simp only [if_true] at h
      exact key _ (.tuple #[]) m (.tup _ _ rfl (by simp)) (fun _ _ _=>.tup _ _ rfl (by simp)) (hA _ _ _ _ hc hz) h
    · simp only [show ¬ (2 : Nat) = 1 by decide,if_false] at h
      exact key _ _ _ (.d _ _ (.v _)) (fun _ _ _=>.d _ _ (.v _)) (hA _ _ _ _ hc hz) h
  · exact h.elim
end Go.Proofs.Ytleahjfgedfgmaa.Am
