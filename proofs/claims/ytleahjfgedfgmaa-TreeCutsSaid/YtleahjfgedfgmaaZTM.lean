import Derived.Test.YtleahjfgedfgmaaZT2
set_option linter.unusedVariables false
set_option linter.unusedSimpArgs false
set_option maxRecDepth 10000
namespace Go.Proofs.Ytleahjfgedfgmaa.Am
open Go Go.RowKit Go.Proofs
def grN (n : Nat) : Nat:=(n + 7) / 8
def szN (n i : Nat) : Nat:=n / grN n + if i < n % grN n then 1 else 0
def offN (n i : Nat) : Nat:=i * (n / grN n) + min i (n % grN n)
theorem offN_0 (n : Nat) : offN n 0 = 0:=by simp [offN]
theorem offN_succ (n i : Nat) : offN n (i + 1) = offN n i + szN n i:=by
  unfold offN szN
  rw [Nat.succ_mul]
  split <;> omega
theorem grN_pos {n : Nat} (h : 0 < n) : 0 < grN n:=by unfold grN;omega
theorem offN_end {n : Nat} (h : 0 < n) : offN n (grN n) = n:=by
  unfold offN
  have h1:=Nat.mod_lt n (grN_pos h)
  rw [Nat.min_eq_right (by omega)]
  have:=Nat.div_add_mod n (grN n)
  omega
theorem offN_le {n i : Nat} (h : i ≤ grN n) : offN n i ≤ n:=by
  rcases Nat.eq_zero_or_pos n with rfl|hn
  · have : i = 0:=by unfold grN at h;omega
    subst this;simp [offN]
  have : ∀ k,i + k = grN n → offN n i ≤ offN n (i + k):=by
    intro k
    induction k with
    | zero=>intro _;exact Nat.le_refl _
    | succ k ih =>
      intro hk
      clear hk
      have : ∀ k,offN n i ≤ offN n (i + k):=by
        intro k
        induction k with
        | zero=>exact Nat.le_refl _
        | succ k ih=>rw [← Nat.add_assoc,offN_succ];omega
      exact this _
  have h2:=this (grN n - i) (by omega)
  rw [show i + (grN n - i) = grN n by omega,offN_end hn] at h2
  exact h2
theorem szN_le {n i : Nat} (h : 0 < n) : szN n i ≤ 8:=by
  have hg:=grN_pos h
  have h8 : n ≤ 8 * grN n:=by unfold grN;omega
  have hd : n / grN n ≤ 8:=Nat.div_le_of_le_mul (by rw [Nat.mul_comm];exact h8)
  unfold szN
  split
  · rename_i hm
    rcases Nat.lt_or_ge (n / grN n) 8 with h1|h1
    · omega
    · have h2 : n / grN n = 8:=by omega
      have:=Nat.div_add_mod n (grN n)
      rw [h2] at this
      omega
  · omega
theorem szN_ge {n i : Nat} (h : 9 ≤ n) : 4 ≤ szN n i:=by
  have hg : 0 < grN n:=grN_pos (by omega)
  have : 4 ≤ n / grN n:=(Nat.le_div_iff_mul_le hg).2 (by unfold grN;omega)
  unfold szN;omega
theorem szN_one {n i : Nat} (h : 0 < n) (h8 : n ≤ 8) (hi : i = 0) : szN n i = n ∧ grN n = 1:=by
  have hg : grN n = 1:=by unfold grN;omega
  unfold szN
  rw [hg]
  simp [Nat.mod_one]
theorem szI_szN (n i : Nat) : szI n (grN n) i = (szN n i : Int):=rfl
def grp {α : Type} (l : List α) (i : Nat) : List α:=(l.drop (offN l.length i)).take (szN l.length i)
theorem take_grp {α : Type} (l : List α) (i : Nat) : l.take (offN l.length (i + 1)) = l.take (offN l.length i) ++ grp l i:=by
  rw [offN_succ,List.take_add];rfl
theorem grp_len {α : Type} {l : List α} {i : Nat} (h : i < grN l.length) : (grp l i).length = szN l.length i:=by
  have h1:=offN_le (n:=l.length) (i:=i + 1) h
  rw [offN_succ] at h1
  unfold grp
  rw [List.length_take,List.length_drop];omega
def frN (n : Nd) : Int:=((ckR (chk 8 true n)).getD 0 x0).f0
def lvN (l : List Xt) (k : Nat) : List Nd:=(List.range k).map fun i=>.mk (grp l i) [] []
def upN (p : List Nd) (k : Nat) : List Nd:=(List.range k).map fun i=>.mk [] ((grp p i).map frN) (grp p i)
theorem lvN_succ (l : List Xt) (k : Nat) : lvN l (k + 1) = lvN l k ++ [.mk (grp l k) [] []]:=by simp [lvN,List.range_succ]
theorem upN_succ (p : List Nd) (k : Nat) : upN p (k + 1) = upN p k ++ [.mk [] ((grp p k).map frN) (grp p k)]:=by simp [upN,List.range_succ]
theorem lvN_len (l : List Xt) (k : Nat) : (lvN l k).length = k:=by simp [lvN]
theorem upN_len (p : List Nd) (k : Nat) : (upN p k).length = k:=by simp [upN]
def topF : Nat → List Nd → Nd
  | 0,p=>p.getD 0 n0
  | k + 1,p=>if p.length ≤ 1 then p.getD 0 n0 else topF k (upN p (grN p.length))
theorem topF_one {k : Nat} {p : List Nd} (h : p.length ≤ 1) : topF k p = p.getD 0 n0:=by
  cases k with
  | zero=>rfl
  | succ k=>rw [topF,if_pos h]
theorem topF_up {k : Nat} {p : List Nd} (h : ¬ p.length ≤ 1) : topF (k + 1) p = topF k (upN p (grN p.length)):=by rw [topF,if_neg h]
def madeN (l : List Xt) : Nd:=topF 1000000 (lvN l (grN l.length))
theorem chkP_app {C : Nd → Option Ck} {d : Nat} : ∀ {f1 : List Int} {p1 : List Nd} {f2 : List Int} {p2 : List Nd} {q : List Xt × Nat},f1.length = p1.length → chkP C d (f1 ++ f2) (p1 ++ p2) = some q → ∃ q1 q2,chkP C d f1 p1 = some q1 ∧ chkP C d f2 p2 = some q2 ∧ q = (q1.1 ++ q2.1,q1.2 + q2.2)
  | [],[],f2,p2,q,_,h=>⟨([],0),q,rfl,h,by simp⟩
  | f :: fs,n :: ns,f2,p2,q,hl,h=>by
    simp only [List.cons_append,chkP] at h ⊢
    cases hc : C n with
    | none=>rw [hc] at h;cases h
    | some c =>
      obtain ⟨r,d',m⟩:=c
      rw [hc] at h
      simp only at h ⊢
      split at h
      · rename_i hd
        cases hq : chkP C d (fs ++ f2) (ns ++ p2) with
        | none=>rw [hq] at h;cases h
        | some q' =>
          rw [hq] at h;cases h
          obtain ⟨q1,q2,h1,h2,h3⟩:=chkP_app (by simpa using hl) hq
          refine ⟨(r ++ q1.1,m + q1.2),q2,?_,h2,?_⟩
          · rw [if_pos hd,h1];rfl
          · rw [h3];simp [Nat.add_assoc]
      · cases h
  | [],n :: ns,f2,p2,q,hl,h=>by simp at hl
  | f :: fs,[],f2,p2,q,hl,h=>by simp at hl
def rowR (j : Nat) (p : List Nd) (l : List Xt) : Prop:=∃ M,chkP (chk j false) j (p.map frN) p = some (l,M)
theorem rowR_get {j : Nat} {p : List Nd} {l : List Xt} (h : rowR j p l) {i : Nat} (hi : i < p.length) : ∃ r m,chk j false (p.getD i n0) = some (r,j,m):=by
  obtain ⟨M,h⟩:=h
  obtain ⟨r,m,h1,_⟩:=chkP_get h i hi
  exact ⟨r,m,h1⟩
theorem rowR_snoc {j : Nat} {p : List Nd} {l r : List Xt} {n : Nd} {m : Nat} (hj : j ≤ 8) (h : rowR j p l) (hc : chk j false n = some (r,j,m)) : rowR j (p ++ [n]) (l ++ r):=by
  obtain ⟨M,h⟩:=h
  have hx : frN n = (r.getD 0 x0).f0:=by unfold frN;rw [chk_le (chk_top hc) hj];rfl
  have:=chkP_snoc (x:=frN n) hc hx h
  exact ⟨_,by rw [List.map_append];exact this⟩
theorem rowR_nil (j : Nat) : rowR j [] []:=⟨0,rfl⟩
theorem leaves_row (l : List Xt) (h : 9 ≤ l.length) : ∀ k,k ≤ grN l.length → rowR 1 (lvN l k) (l.take (offN l.length k))
  | 0,_=>by rw [offN_0];exact rowR_nil 1
  | k + 1,hk=>by
    rw [lvN_succ,take_grp]
    have hl:=grp_len (l:=l) (i:=k) hk
    have h1:=szN_le (n:=l.length) (i:=k) (by omega)
    have h2:=szN_ge (i:=k) h
    exact rowR_snoc (m:=1) (by omega) (leaves_row l h k (by omega)) (by rw [chk_leaf,if_pos ⟨rfl,by rw [hl];exact h2,by omega⟩])
theorem rowR_grp {j : Nat} {p : List Nd} {l : List Xt} (h : rowR j p l) {i : Nat} (hi : i < grN p.length) : ∃ l1 l2,rowR j (p.take (offN p.length i)) l1 ∧ rowR j (grp p i) l2 ∧ rowR j (p.take (offN p.length (i + 1))) (l1 ++ l2):=by
  obtain ⟨M,h⟩:=h
  have e : p = p.take (offN p.length (i + 1)) ++ p.drop (offN p.length (i + 1)):=(List.take_append_drop ..).symm
  have h' : chkP (chk j false) j ((p.take (offN p.length (i + 1))).map frN ++ (p.drop (offN p.length (i + 1))).map frN) (p.take (offN p.length (i + 1)) ++ p.drop (offN p.length (i + 1))) = some (l,M):=by
    rw [← List.map_append,List.take_append_drop];exact h
  obtain ⟨q1,q2,h1,_,_⟩:=chkP_app (by simp) h'
  have h1':=h1
  rw [take_grp,List.map_append] at h1'
  obtain ⟨q3,q4,h3,h4,h5⟩:=chkP_app (by simp) h1'
  refine ⟨q3.1,q4.1,⟨_,h3⟩,⟨_,h4⟩,⟨q1.2,?_⟩⟩
  rw [h1,h5]
theorem rowR_det {j : Nat} {p : List Nd} {l l' : List Xt} (h : rowR j p l) (h' : rowR j p l') : l = l':=by
  obtain ⟨M,h⟩:=h
  obtain ⟨M',h'⟩:=h'
  rw [h] at h'
  simp only [Option.some.injEq,Prod.mk.injEq] at h'
  exact h'.1
theorem node_right {j : Nat} {p : List Nd} {l : List Xt} {top : Bool} (h : rowR j p l) (h1 : max 2 (lst top) ≤ p.length) (h2 : p.length ≤ 8) : ∃ m,chk (j + 1) top (.mk [] (p.map frN) p) = some (l,j + 1,m):=by
  have hp : p ≠ []:=by intro e;rw [e] at h1;simp at h1
  obtain ⟨r,m,hc⟩:=rowR_get h (i:=0) (by omega)
  obtain ⟨M,h⟩:=h
  exact ⟨1 + M,by rw [chk_node hp,if_pos ⟨rfl,h1,h2⟩,hc];simp only;rw [h];rfl⟩
theorem ups_row {j : Nat} {p : List Nd} {l : List Xt} (hj : j + 1 ≤ 8) (h : rowR j p l) (h9 : 9 ≤ p.length) : ∀ k,k ≤ grN p.length → ∃ l',rowR j (p.take (offN p.length k)) l' ∧ rowR (j + 1) (upN p k) l'
  | 0,_=>⟨[],by rw [offN_0];exact rowR_nil j,rowR_nil _⟩
  | k + 1,hk=>by
    obtain ⟨l',h1,h2⟩:=ups_row hj h h9 k (by omega)
    obtain ⟨a,b,h3,h4,h5⟩:=rowR_grp h (i:=k) hk
    obtain rfl:=rowR_det h1 h3
    have hl:=grp_len (l:=p) (i:=k) hk
    have b1:=szN_le (n:=p.length) (i:=k) (by omega)
    have b2:=szN_ge (i:=k) h9
    obtain ⟨m,hm⟩:=node_right (top:=false) h4 (by rw [hl];simp [lst];omega) (by omega)
    exact ⟨l' ++ b,h5,by rw [upN_succ];exact rowR_snoc hj h2 hm⟩
structure gU (l : List Xt) (t : Nd) (x : Nat × List Nd) : Prop where
  gf : x.2.length ≤ x.1
  gt : topF x.1 x.2 = t
  gn : x.2.length ≤ 1000000
  one : x.2.length ≤ 1 → (x.2 = [] ∧ l = [] ∧ t = n0) ∨ (∃ n d m,x.2 = [n] ∧ t = n ∧ chk 8 true n = some (l,d,m))
  two : 2 ≤ x.2.length → ∃ j,j ≤ 4 ∧ 1 ≤ j ∧ rowR j x.2 l
theorem pow_le {j : Nat} (h : 4 ^ j ≤ 1000) : j ≤ 4:=by
  rcases Nat.lt_or_ge 4 j with h1|h1
  · have : 4 ^ 5 ≤ 4 ^ j:=Nat.pow_le_pow_right (by decide) h1
    have h5 : 4 ^ 5 = 1024:=rfl
    omega
  · exact h1
theorem gU_0 {l : List Xt} (hl : l.length ≤ 1000) : gU l (madeN l) (1000000,lvN l (grN l.length)):=by
  have hg : grN l.length ≤ 126:=by unfold grN;omega
  refine ⟨by simp only [lvN_len];omega,rfl,by simp only [lvN_len];omega,fun h=>?_,fun h=>?_⟩
  · simp only [lvN_len] at h
    rcases Nat.eq_zero_or_pos l.length with h0|h0
    · have : l = []:=List.eq_nil_of_length_eq_zero h0
      subst this
      exact .inl ⟨rfl,rfl,rfl⟩
    · have h8 : l.length ≤ 8:=by unfold grN at h;omega
      obtain ⟨h1,h2⟩:=szN_one h0 h8 (rfl : 0 = 0)
      have h3 : lvN l (grN l.length) = [.mk l [] []]:=by
        rw [h2]
        show [Nd.mk (grp l 0) [] []] = _
        unfold grp
        rw [offN_0,h1,List.drop_zero,List.take_length]
      refine .inr ⟨_,1,1,h3,?_,?_⟩
      · unfold madeN;rw [h3,topF_one (by simp)];rfl
      · rw [chk_leaf,if_pos ⟨rfl,by rw [show lst true = 1 from rfl];omega,h8⟩]
  · simp only [lvN_len] at h
    have h9 : 9 ≤ l.length:=by unfold grN at h;omega
    have:=leaves_row l h9 (grN l.length) (Nat.le_refl _)
    rw [offN_end (by omega),List.take_length] at this
    exact ⟨1,by omega,by omega,this⟩
theorem gU_step {l : List Xt} (hl : l.length ≤ 1000) {t : Nd} {f : Nat} {p : List Nd} (h : gU l t (f,p)) (h2 : 2 ≤ p.length) : ∃ f',f = f' + 1 ∧ gU l t (f',upN p (grN p.length)):=by
  have hf:=h.gf
  have ht:=h.gt
  have hn:=h.gn
  simp only at hf ht hn
  obtain ⟨f',rfl⟩ : ∃ f',f = f' + 1:=⟨f - 1,by omega⟩
  have hg : grN p.length < p.length ∧ grN p.length ≤ f':=by unfold grN;omega
  rw [topF_up (by omega)] at ht
  obtain ⟨j,hj4,hj1,hr⟩:=h.two h2
  simp only at hr
  refine ⟨f',rfl,by simp only [upN_len];omega,ht,by simp only [upN_len];omega,fun h1=>?_,fun h1=>?_⟩
  · simp only [upN_len] at h1
    have h8 : p.length ≤ 8:=by unfold grN at h1;omega
    obtain ⟨e1,e2⟩:=szN_one (n:=p.length) (by omega) h8 (rfl : 0 = 0)
    have h3 : upN p (grN p.length) = [.mk [] (p.map frN) p]:=by
      rw [e2]
      show [Nd.mk [] ((grp p 0).map frN) (grp p 0)] = _
      unfold grp
      rw [offN_0,e1,List.drop_zero,List.take_length]
    obtain ⟨m,hm⟩:=node_right (top:=true) hr (by rw [show lst true = 1 from rfl];omega) h8
    refine .inr ⟨_,j + 1,m,h3,?_,chk_le hm (by omega)⟩
    rw [← ht,h3,topF_one (by simp)];rfl
  · simp only [upN_len] at h1
    have h9 : 9 ≤ p.length:=by unfold grN at h1;omega
    obtain ⟨l',h3,h4⟩:=ups_row (by omega) hr h9 (grN p.length) (Nat.le_refl _)
    rw [offN_end (by omega),List.take_length] at h3
    obtain rfl:=rowR_det hr h3
    refine ⟨j + 1,?_,by omega,h4⟩
    obtain ⟨r,m,hc⟩:=rowR_get h4 (i:=0) (by rw [upN_len];omega)
    have hs:=(chk_size hc).2.2.1 rfl
    obtain ⟨M,hM⟩:=h4
    obtain ⟨r',m',hc',_,hle,_⟩:=chkP_get hM 0 (by rw [upN_len];omega)
    rw [hc] at hc'
    cases hc'
    simp only at hle
    exact pow_le (by omega)
theorem gU_first {l : List Xt} (hl : l.length ≤ 1000) {t : Nd} {f : Nat} {p : List Nd} (h : gU l t (f,p)) (h2 : 2 ≤ p.length) {i : Nat} (hi : i < p.length) : okc 8 (p.getD i n0):=by
  obtain ⟨j,hj4,hj1,hr⟩:=h.two h2
  simp only at hr
  obtain ⟨r,m,hc⟩:=rowR_get hr hi
  obtain ⟨M,hM⟩:=hr
  obtain ⟨r',m',hc',_,hle,_⟩:=chkP_get hM i hi
  rw [hc] at hc';cases hc'
  simp only at hle
  exact (okc_of (chk_le hc (show j ≤ 8 by omega)) (by omega)).1
theorem topF_ok {l : List Xt} (hl : l.length ≤ 1000) : ∀ {f : Nat} {t : Nd} {p : List Nd},gU l t (f,p) → (l = [] ∧ t = n0) ∨ ∃ d m,chk 8 true t = some (l,d,m):=by
  intro f
  induction f with
  | zero =>
    intro t p h
    have hf:=h.gf
    simp only at hf
    rcases h.one (by simp only;omega) with ⟨_,h1,h2⟩|⟨n,d,m,h1,h2,h3⟩
    · exact .inl ⟨h1,h2⟩
    · exact .inr ⟨d,m,by rw [h2];exact h3⟩
  | succ f ih =>
    intro t p h
    by_cases h2 : 2 ≤ p.length
    · obtain ⟨f',he,h3⟩:=gU_step hl h h2
      obtain rfl : f = f':=by omega
      exact ih h3
    · rcases h.one (by simp only;omega) with ⟨_,h1,h2⟩|⟨n,d,m,h1,h2,h3⟩
      · exact .inl ⟨h1,h2⟩
      · exact .inr ⟨d,m,by rw [h2];exact h3⟩
theorem made_ok {l : List Xt} (hl : l.length ≤ 1000) : (l = [] ∧ madeN l = n0) ∨ ∃ d m,chk 8 true (madeN l) = some (l,d,m):=topF_ok hl (gU_0 hl)
end Go.Proofs.Ytleahjfgedfgmaa.Am
