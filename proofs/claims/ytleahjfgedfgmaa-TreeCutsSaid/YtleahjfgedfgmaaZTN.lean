import Derived.Test.YtleahjfgedfgmaaZTX
set_option linter.unusedVariables false
set_option linter.unusedSimpArgs false
set_option maxRecDepth 10000
namespace Go.Proofs.Ytleahjfgedfgmaa.Am
open Go Go.RowKit Go.Proofs
inductive Nd where
  | mk (leaf : List Xt) (first : List Int) (parts : List Nd)
instance : Inhabited Nd:=⟨.mk [] [] []⟩
def n0 : Nd:=.mk [] [] []
mutual
def nD : Nd → D
  | .mk l f p=>.agg [.list (l.map eD),.list (f.map mI),.list (nDs p)]
def nDs : List Nd → List D
  | []=>[]
  | n :: r=>nD n :: nDs r
end
theorem nDs_map : ∀ p : List Nd,nDs p = p.map nD
  | []=>rfl
  | n :: r=>by rw [nDs,nDs_map r];rfl
theorem nD_mk (l : List Xt) (f : List Int) (p : List Nd) : nD (.mk l f p) = .agg [.list (l.map eD),.list (f.map mI),.list (p.map nD)]:=by rw [nD,nDs_map]
mutual
theorem nD_inj' : ∀ a b : Nd,nD a = nD b → a = b
  | .mk l f p,.mk l' f' p',h=>by
    rw [nD,nD] at h
    simp only [D.agg.injEq,List.cons.injEq,D.list.injEq,and_true] at h
    obtain ⟨h1,h2,h3⟩:=h
    rw [eD_inj] at h1
    rw [mI_inj] at h2
    rw [h1,h2,nDs_inj' p p' h3]
theorem nDs_inj' : ∀ a b : List Nd,nDs a = nDs b → a = b
  | [],[],_=>rfl
  | [],n :: r,h=>by simp [nDs] at h
  | n :: r,[],h=>by simp [nDs] at h
  | n :: r,m :: s,h=>by
    simp only [nDs,List.cons.injEq] at h
    rw [nD_inj' n m h.1,nDs_inj' r s h.2]
end
theorem nD_inj (a b : List Nd) : (a.map nD = b.map nD) = (a = b):=list_map_inj nD nD_inj' a b
theorem nth_N (p : List Nd) (i : Nat) (h : i < p.length) : nth (p.map nD) i = nD (p.getD i n0):=nth_map nD p i n0 h
theorem nD_cells (n : Nd) : (nD n).cells.length = 3:=by cases n;rw [nD];rfl
theorem all_N (p : List Nd) : (∀ d ∈ p.map nD,d.cells.length = 3) = True:=by
  simp only [eq_iff_iff,iff_true]
  intro d hd
  obtain ⟨n,_,rfl⟩:=List.mem_map.1 hd
  exact nD_cells n
theorem nil_E' (l : List Xt) : ([] = l.map eD) = (l = []):=by cases l <;> simp
theorem nil_I' (l : List Int) : ([] = l.map mI) = (l = []):=by cases l <;> simp
theorem nil_N' (l : List Nd) : ([] = l.map nD) = (l = []):=by cases l <;> simp
inductive SzN : Nd → Prop
  | mk (l : List Xt) (f : List Int) (p : List Nd) (h1 : l.length ≤ 1000000) (h2 : f.length ≤ 1000000) (h3 : p.length ≤ 1000000) (h : ∀ q ∈ p,SzN q) : SzN (.mk l f p)
theorem SzN.open {l : List Xt} {f : List Int} {p : List Nd} (h : SzN (.mk l f p)) : l.length ≤ 1000000 ∧ f.length ≤ 1000000 ∧ p.length ≤ 1000000 ∧ ∀ q ∈ p,SzN q:=by
  cases h with|mk _ _ _ h1 h2 h3 h=>exact ⟨h1,h2,h3,h⟩
theorem memN_getD {p : List Nd} {k : Nat} (h : k < p.length) : p.getD k n0 ∈ p:=by
  rw [List.getD_eq_getElem?_getD,List.getElem?_eq_getElem h];exact List.getElem_mem h
abbrev Ck:=List Xt × Nat × Nat
def chkP (C : Nd → Option Ck) (d : Nat) : List Int → List Nd → Option (List Xt × Nat)
  | [],[]=>some ([],0)
  | f :: fs,n :: ns=>match C n with
    | some (r,d',m)=>if d' = d ∧ f = (r.getD 0 x0).f0 then (chkP C d fs ns).map fun q=>(r ++ q.1,m + q.2) else none
    | none=>none
  | _,_=>none
def lst (top : Bool) : Nat:=if top = true then 1 else 4
def chk : Nat → Bool → Nd → Option Ck
  | 0,_,_=>none
  | k + 1,top,.mk l f p=>match p with
    | []=>if f = [] ∧ lst top ≤ l.length ∧ l.length ≤ 8 then some (l,1,1) else none
    | n :: ns=>if l = [] ∧ max 2 (lst top) ≤ ns.length + 1 ∧ ns.length + 1 ≤ 8 then match chk k false n with
      | some (_,d,_)=>(chkP (chk k false) d f (n :: ns)).map fun q=>(q.1,d + 1,1 + q.2)
      | none=>none
      else none
theorem chkP_len {C : Nd → Option Ck} {d : Nat} : ∀ {f : List Int} {p : List Nd} {q : List Xt × Nat},chkP C d f p = some q → f.length = p.length
  | [],[],q,_=>rfl
  | f :: fs,n :: ns,q,h=>by
    simp only [chkP] at h
    split at h
    · split at h
      · cases hq : chkP C d fs ns with
        | none=>rw [hq] at h;cases h
        | some q'=>simp [chkP_len hq]
      · cases h
    · cases h
  | [],n :: ns,q,h=>by simp [chkP] at h
  | f :: fs,[],q,h=>by simp [chkP] at h
theorem chkP_get {C : Nd → Option Ck} {d : Nat} : ∀ {f : List Int} {p : List Nd} {q : List Xt × Nat},chkP C d f p = some q → ∀ i,i < p.length → ∃ r m,C (p.getD i n0) = some (r,d,m) ∧ f.getD i 0 = (r.getD 0 x0).f0 ∧ r.length ≤ q.1.length ∧ m ≤ q.2
  | [],[],q,_,i,hi=>by simp at hi
  | f :: fs,n :: ns,q,h,i,hi=>by
    simp only [chkP] at h
    split at h
    · rename_i r d' m hc
      split at h
      · rename_i hd
        cases hq : chkP C d fs ns with
        | none=>rw [hq] at h;cases h
        | some q' =>
          rw [hq] at h;cases h
          cases i with
          | zero=>exact ⟨r,m,by rw [← hd.1];exact hc,hd.2,by simp,by simp⟩
          | succ i =>
            obtain ⟨r',m',h1,h2,h3,h4⟩:=chkP_get hq i (by simpa using hi)
            exact ⟨r',m',h1,h2,by simp only [List.length_append];omega,by simp only;omega⟩
      · cases h
    · cases h
  | [],n :: ns,q,h,i,hi=>by simp [chkP] at h
  | f :: fs,[],q,h,i,hi=>by simp [chkP] at h
theorem chkP_snoc {C : Nd → Option Ck} {d : Nat} {x : Int} {n : Nd} {r : List Xt} {m : Nat} (hc : C n = some (r,d,m)) (hx : x = (r.getD 0 x0).f0) : ∀ {f : List Int} {p : List Nd} {q : List Xt × Nat},chkP C d f p = some q → chkP C d (f ++ [x]) (p ++ [n]) = some (q.1 ++ r,q.2 + m)
  | [],[],q,h=>by
    simp only [chkP,Option.some.injEq] at h
    subst h
    simp [chkP,hc,hx]
  | f :: fs,n' :: ns,q,h=>by
    simp only [chkP,List.cons_append] at h ⊢
    split at h
    · rename_i r' d' m' hc'
      split at h
      · rename_i hd
        cases hq : chkP C d fs ns with
        | none=>rw [hq] at h;cases h
        | some q' =>
          rw [hq] at h;cases h
          have e:=chkP_snoc hc hx hq
          simp [hd.1,hd.2,e,Nat.add_assoc]
      · cases h
    · cases h
  | [],n :: ns,q,h=>by simp [chkP] at h
  | f :: fs,[],q,h=>by simp [chkP] at h
theorem take_N {p : List Nd} {k : Nat} (h : k < p.length) : p.take (k + 1) = p.take k ++ [p.getD k n0]:=by
  rw [List.take_succ_eq_append_getElem h,List.getD_eq_getElem?_getD,List.getElem?_eq_getElem h];rfl
theorem take_I {p : List Int} {k : Nat} (h : k < p.length) : p.take (k + 1) = p.take k ++ [p.getD k 0]:=by
  rw [List.take_succ_eq_append_getElem h,List.getD_eq_getElem?_getD,List.getElem?_eq_getElem h];rfl
theorem chkP_take {C : Nd → Option Ck} {d : Nat} {f : List Int} {p : List Nd} {q : List Xt × Nat} {k : Nat} {r : List Xt} {m : Nat} (hk : k < p.length) (hf : k < f.length) (hc : C (p.getD k n0) = some (r,d,m)) (hx : f.getD k 0 = (r.getD 0 x0).f0)
    (h : chkP C d (f.take k) (p.take k) = some q) : chkP C d (f.take (k + 1)) (p.take (k + 1)) = some (q.1 ++ r,q.2 + m):=by
  rw [take_N hk,take_I hf]
  exact chkP_snoc hc hx h
theorem chk_leaf {k : Nat} {top : Bool} {l : List Xt} {f : List Int} : chk (k + 1) top (.mk l f []) = if f = [] ∧ lst top ≤ l.length ∧ l.length ≤ 8 then some (l,1,1) else none:=rfl
theorem chk_node {k : Nat} {top : Bool} {l : List Xt} {f : List Int} {p : List Nd} (hp : p ≠ []) : chk (k + 1) top (.mk l f p) = if l = [] ∧ max 2 (lst top) ≤ p.length ∧ p.length ≤ 8 then match chk k false (p.getD 0 n0) with
      | some (_,d,_)=>(chkP (chk k false) d f p).map fun q=>(q.1,d + 1,1 + q.2)
      | none=>none
      else none:=by
  cases p with
  | nil=>exact absurd rfl hp
  | cons n ns=>rfl
theorem chk_open {k : Nat} {top : Bool} {l : List Xt} {f : List Int} {p : List Nd} {c : Ck} (h : chk (k + 1) top (.mk l f p) = some c) :
    (p = [] ∧ f = [] ∧ lst top ≤ l.length ∧ l.length ≤ 8 ∧ c = (l,1,1)) ∨
    (p ≠ [] ∧ l = [] ∧ max 2 (lst top) ≤ p.length ∧ p.length ≤ 8 ∧ f.length = p.length ∧ ∃ d q,chkP (chk k false) d f p = some q ∧ c = (q.1,d + 1,1 + q.2)):=by
  by_cases hp : p = []
  · subst hp
    rw [chk_leaf] at h
    split at h
    · rename_i hc
      cases h;exact .inl ⟨rfl,hc.1,hc.2.1,hc.2.2,rfl⟩
    · cases h
  · rw [chk_node hp] at h
    split at h
    · rename_i hc
      split at h
      · rename_i d _ _
        cases hq : chkP (chk k false) d f p with
        | none=>rw [hq] at h;cases h
        | some q =>
          rw [hq] at h;cases h
          exact .inr ⟨hp,hc.1,hc.2.1,hc.2.2,chkP_len hq,d,q,hq,rfl⟩
      · cases h
    · cases h
theorem chkP_sum {C : Nd → Option Ck} {d : Nat} {B : Nat} (hC : ∀ n r d m,C n = some (r,d,m) → B ≤ r.length ∧ m + 1 ≤ 2 * r.length) : ∀ {f : List Int} {p : List Nd} {q : List Xt × Nat},chkP C d f p = some q → p.length * B ≤ q.1.length ∧ q.2 + p.length ≤ 2 * q.1.length
  | [],[],q,h=>by simp only [chkP,Option.some.injEq] at h;subst h;simp
  | f :: fs,n :: ns,q,h=>by
    simp only [chkP] at h
    split at h
    · rename_i r d' m hc
      split at h
      · rename_i hd
        cases hq : chkP C d fs ns with
        | none=>rw [hq] at h;cases h
        | some q' =>
          rw [hq] at h;cases h
          obtain ⟨h1,h2⟩:=chkP_sum hC hq
          obtain ⟨h3,h4⟩:=hC _ _ _ _ hc
          simp only [List.length_append,List.length_cons,Nat.add_mul,Nat.one_mul]
          omega
      · cases h
    · cases h
  | [],n :: ns,q,h=>by simp [chkP] at h
  | f :: fs,[],q,h=>by simp [chkP] at h
theorem chk_size : ∀ {k : Nat} {top : Bool} {n : Nd} {r : List Xt} {d m : Nat},chk k top n = some (r,d,m) → 1 ≤ d ∧ d ≤ k ∧ (top = false → 4 ^ d ≤ r.length) ∧ (top = true → 4 ^ (d - 1) ≤ r.length ∧ 4 ^ (d - 1) ≤ 2 * r.length) ∧ 1 ≤ r.length ∧ m + 1 ≤ 2 * r.length ∧ 1 ≤ m
  | 0,top,n,r,d,m,h=>by cases h
  | k + 1,top,.mk l f p,r,d,m,h=>by
    rcases chk_open h with ⟨rfl,rfl,h1,h2,h3⟩|⟨hp,rfl,h1,h2,h3,d',q,hq,h4⟩
    · cases h3
      unfold lst at h1
      cases top <;> simp at h1 ⊢ <;> omega
    · cases h4
      have hp0 : 0 < p.length:=by cases p;exact absurd rfl hp;simp
      obtain ⟨r0,m0,hc,_,_,_⟩:=chkP_get hq 0 hp0
      have h5:=chk_size hc
      have key : ∀ n r d1 m,chk k false n = some (r,d1,m) → (if d1 = d' then 4 ^ d' else 1) ≤ r.length ∧ m + 1 ≤ 2 * r.length:=fun n r d1 m hn=>by
        have:=chk_size hn
        obtain ⟨a1,a2,a3,a4,a5,a6,a7⟩:=this
        refine ⟨?_,a6⟩
        split
        · rename_i e;subst e;exact a3 rfl
        · exact a5
      have hs : p.length * 4 ^ d' ≤ q.1.length ∧ q.2 + p.length ≤ 2 * q.1.length:=by
        have h6 : ∀ (f : List Int) (p : List Nd) (q : List Xt × Nat),chkP (chk k false) d' f p = some q → p.length * 4 ^ d' ≤ q.1.length ∧ q.2 + p.length ≤ 2 * q.1.length:=by
          intro f p
          induction p generalizing f with
          | nil=>intro q h;cases f with
            | nil=>simp only [chkP,Option.some.injEq] at h;subst h;simp
            | cons _ _=>simp [chkP] at h
          | cons n ns ih =>
            intro q h
            cases f with
            | nil=>simp [chkP] at h
            | cons x fs =>
              simp only [chkP] at h
              split at h
              · rename_i r1 d1 m1 hc1
                split at h
                · rename_i hd1
                  cases hq1 : chkP (chk k false) d' fs ns with
                  | none=>rw [hq1] at h;cases h
                  | some q1 =>
                    rw [hq1] at h;cases h
                    obtain ⟨b1,b2⟩:=ih fs q1 hq1
                    obtain ⟨b3,b4⟩:=key _ _ _ _ hc1
                    rw [if_pos hd1.1] at b3
                    simp only [List.length_append,List.length_cons,Nat.add_mul,Nat.one_mul]
                    omega
                · cases h
              · cases h
        exact h6 f p q hq
      obtain ⟨c1,c2,c3,c4,c5,c6,c7⟩:=h5
      have hpw : 4 ^ (d' + 1) = 4 * 4 ^ d':=by rw [Nat.pow_succ];omega
      have hpos : 0 < 4 ^ d':=Nat.pow_pos (by decide)
      have hmul : 2 * 4 ^ d' ≤ p.length * 4 ^ d':=Nat.mul_le_mul_right _ (by omega)
      refine ⟨by omega,by omega,fun ht=>?_,fun ht=>?_,?_,?_,by omega⟩
      · subst ht
        have : 4 * 4 ^ d' ≤ p.length * 4 ^ d':=Nat.mul_le_mul_right _ (by simp [lst] at h1;omega)
        omega
      · simp only [Nat.add_sub_cancel];omega
      · omega
      · omega
theorem chk_ne {k : Nat} {top : Bool} {n : Nd} {r : List Xt} {d m : Nat} (h : chk k top n = some (r,d,m)) : r ≠ []:=by
  intro e;have:=(chk_size h).2.2.2.2.1;rw [e] at this;simp at this
theorem chkP_head {C : Nd → Option Ck} {d : Nat} (hC : ∀ n r d m,C n = some (r,d,m) → r ≠ []) {f : List Int} {p : List Nd} {q : List Xt × Nat} (h : chkP C d f p = some q) (hp : 0 < p.length) : ∃ r m,C (p.getD 0 n0) = some (r,d,m) ∧ (q.1.getD 0 x0).f0 = (r.getD 0 x0).f0:=by
  cases p with
  | nil=>simp at hp
  | cons n ns =>
    cases f with
    | nil=>simp [chkP] at h
    | cons x fs =>
      simp only [chkP] at h
      split at h
      · rename_i r d' m hc
        split at h
        · rename_i hd
          cases hq : chkP C d fs ns with
          | none=>rw [hq] at h;cases h
          | some q' =>
            rw [hq] at h;cases h
            refine ⟨r,m,by rw [← hd.1];exact hc,?_⟩
            cases r with
            | nil=>exact absurd rfl (hC _ _ _ _ hc)
            | cons _ _=>rfl
        · cases h
      · cases h
theorem chk_head {k : Nat} {top : Bool} {l : List Xt} {f : List Int} {p : List Nd} {r : List Xt} {d m : Nat} (h : chk (k + 1) top (.mk l f p) = some (r,d,m)) (hp : 0 < p.length) : ∃ r' d' m',d = d' + 1 ∧ chk k false (p.getD 0 n0) = some (r',d',m') ∧ (r.getD 0 x0).f0 = (r'.getD 0 x0).f0:=by
  rcases chk_open h with ⟨rfl,_⟩|⟨_,_,_,_,_,d',q,hq,h4⟩
  · simp at hp
  · cases h4
    obtain ⟨r',m',h1,h2⟩:=chkP_head (fun n r d m hn=>chk_ne hn) hq hp
    exact ⟨r',d',m',rfl,h1,h2⟩
def dv : Option Ck → Int
  | some (_,d,_)=>d
  | none=>-1
theorem chk_mono : ∀ {k : Nat} {top : Bool} {n : Nd} {c : Ck},chk k top n = some c → chk (k + 1) top n = some c
  | 0,_,_,_,h=>by cases h
  | k + 1,top,.mk l f p,c,h=>by
    rcases chk_open h with ⟨rfl,rfl,h1,h2,h3⟩|⟨hp,rfl,h1,h2,h3,d',q,hq,h4⟩
    · rw [chk_leaf,if_pos ⟨rfl,h1,h2⟩,h3]
    · have hp0 : 0 < p.length:=by cases p;exact absurd rfl hp;simp
      obtain ⟨r0,m0,hc,_⟩:=chkP_get hq 0 hp0
      have key : ∀ (f : List Int) (p : List Nd) (q : List Xt × Nat),chkP (chk k false) d' f p = some q → chkP (chk (k + 1) false) d' f p = some q:=by
        intro f p
        induction p generalizing f with
        | nil=>intro q h;cases f with
          | nil=>exact h
          | cons _ _=>simp [chkP] at h
        | cons n ns ih =>
          intro q h
          cases f with
          | nil=>simp [chkP] at h
          | cons x fs =>
            simp only [chkP] at h ⊢
            split at h
            · rename_i r1 d1 m1 hc1
              rw [chk_mono hc1]
              split at h
              · rename_i hd1
                cases hq1 : chkP (chk k false) d' fs ns with
                | none=>rw [hq1] at h;cases h
                | some q1 =>
                  rw [hq1] at h
                  simp only
                  rw [if_pos hd1,ih fs q1 hq1];exact h
              · cases h
            · cases h
      rw [chk_node hp,if_pos ⟨rfl,h1,h2⟩,chk_mono hc]
      simp only
      rw [key f p q hq,h4];rfl
theorem chk_le {k j : Nat} {top : Bool} {n : Nd} {c : Ck} (h : chk k top n = some c) (hj : k ≤ j) : chk j top n = some c:=by
  induction hj with
  | refl=>exact h
  | step _ ih=>exact chk_mono ih
theorem chk_top {k : Nat} {n : Nd} {c : Ck} (h : chk k false n = some c) : chk k true n = some c:=by
  cases k with
  | zero=>cases h
  | succ k =>
    obtain ⟨l,f,p⟩:=n
    rcases chk_open h with ⟨rfl,rfl,h1,h2,h3⟩|⟨hp,rfl,h1,h2,h3,d',q,hq,h4⟩
    · rw [chk_leaf,if_pos ⟨rfl,by simp [lst] at h1 ⊢;omega,h2⟩,h3]
    · rw [chk_node hp] at h ⊢
      split at h
      · rw [if_pos ⟨rfl,by simp [lst] at h1 ⊢;omega,h2⟩];exact h
      · cases h
def okc (k : Nat) (n : Nd) : Prop:=∃ c,chk k true n = some c ∧ c.1.length ≤ 20000000
def ckR : Option Ck → List Xt
  | some c=>c.1
  | none=>[]
def ckM : Option Ck → Nat
  | some c=>c.2.2
  | none=>0
theorem ckR_s (r : List Xt) (d m : Nat) : ckR (some (r,d,m)) = r:=rfl
theorem ckM_s (r : List Xt) (d m : Nat) : ckM (some (r,d,m)) = m:=rfl
theorem okc_of {k : Nat} {top : Bool} {n : Nd} {r : List Xt} {d m : Nat} (h : chk k top n = some (r,d,m)) (hr : r.length ≤ 20000000) : okc k n ∧ chk k true n = some (r,d,m):=by
  have : chk k true n = some (r,d,m):=by cases top;exact chk_top h;exact h
  exact ⟨⟨_,this,hr⟩,this⟩
end Go.Proofs.Ytleahjfgedfgmaa.Am
