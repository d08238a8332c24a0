import Derived.Test.YtleahjfgedfgmaaZGA
set_option linter.unusedVariables false
set_option linter.unusedSimpArgs false
set_option maxRecDepth 10000
namespace Go.Proofs.Ytleahjfgedfgmaa.Am
open Go Go.RowKit Go.Proofs
def endX : List Xt → Int
  | []=>0
  | e :: r=>e.f4 + endX r
theorem endX_append : ∀ l m : List Xt,endX (l ++ m) = endX l + endX m
  | [],m=>by simp [endX]
  | e :: r,m=>by simp only [List.cons_append,endX,endX_append r m];omega
theorem endX_take {l : List Xt} {k : Nat} (h : k < l.length) : endX (l.take (k + 1)) = endX (l.take k) + (l.getD k x0).f4:=by
  rw [List.take_succ_eq_append_getElem h,endX_append,List.getD_eq_getElem?_getD,List.getElem?_eq_getElem h]
  simp [endX]
def pcX (a b : Int) (e : Xt) : List Xt:=if max e.f0 a < min (e.f0 + e.f4) b then [⟨max e.f0 a,e.f1,e.f2,e.f3 + max e.f0 a - e.f0,min (e.f0 + e.f4) b - max e.f0 a⟩] else []
def cutX (a b : Int) (l : List Xt) : List Xt:=l.flatMap (pcX a b)
def shX (d : Int) (l : List Xt) : List Xt:=l.map fun e=>⟨e.f0 + d,e.f1,e.f2,e.f3,e.f4⟩
def cg : Int → List Xt → Int → Prop
  | s,[],e=>s = e
  | s,x :: r,e=>x.f0 = s ∧ oneE x = true ∧ cg (s + x.f4) r e
theorem oneE_iff (x : Xt) : oneE x = true ↔ (1 ≤ x.f1 ∧ x.f1 < 4096 ∧ x.f2 ≤ 64 ∧ 0 ≤ x.f3 ∧ x.f3 < x.f2 ∧ 1 ≤ x.f4 ∧ x.f4 ≤ x.f2 - x.f3):=by
  simp only [oneE,decide_eq_true_eq];try omega
theorem cg_le : ∀ {l : List Xt} {s e : Int},cg s l e → s ≤ e ∧ (l ≠ [] → s < e)
  | [],s,e,h=>by simp only [cg] at h;exact ⟨by omega,fun h=>absurd rfl h⟩
  | x :: r,s,e,h=>by
    obtain ⟨_,h1,h2⟩:=h
    have:=(oneE_iff x).1 h1
    have:=(cg_le h2).1
    exact ⟨by omega,fun _=>by omega⟩
theorem cg_end : ∀ {l : List Xt} {s e : Int},cg s l e → e = s + endX l
  | [],s,e,h=>by simp only [cg] at h;simp [endX];omega
  | x :: r,s,e,h=>by
    obtain ⟨_,h1,h2⟩:=h
    have:=cg_end h2
    simp only [endX];omega
theorem cg_app : ∀ {l m : List Xt} {s a e : Int},cg s l a → cg a m e → cg s (l ++ m) e
  | [],m,s,a,e,h,k=>by simp only [cg] at h;subst h;exact k
  | x :: r,m,s,a,e,h,k=>⟨h.1,h.2.1,cg_app h.2.2 k⟩
theorem cg_sh : ∀ {l : List Xt} {s e : Int} (d : Int),cg s l e → cg (s + d) (shX d l) (e + d)
  | [],s,e,d,h=>by simp only [cg] at h;simp only [shX,List.map_nil,cg];omega
  | x :: r,s,e,d,h=>by
    obtain ⟨h0,h1,h2⟩:=h
    have:=cg_sh d h2
    refine ⟨by show x.f0 + d = _;omega,by rw [oneE_iff] at *;exact h1,?_⟩
    show cg (s + d + x.f4) (shX d r) (e + d)
    rw [show s + d + x.f4 = s + x.f4 + d by omega];exact this
theorem cg_cut : ∀ {l : List Xt} {s e a b : Int},cg s l e → (max s a ≤ min e b → cg (max s a) (cutX a b l) (min e b)) ∧ (min e b ≤ max s a → cutX a b l = [])
  | [],s,e,a,b,h=>by
    simp only [cg] at h;subst h
    refine ⟨fun h=>?_,fun _=>rfl⟩
    show max s a = min s b
    omega
  | x :: r,s,e,a,b,h=>by
    obtain ⟨h0,h1,h2⟩:=h
    have ho:=(oneE_iff x).1 h1
    have hle:=(cg_le h2).1
    obtain ⟨i1,i2⟩:=cg_cut (a:=a) (b:=b) h2
    have hc : cutX a b (x :: r) = pcX a b x ++ cutX a b r:=by simp [cutX]
    rw [hc,pcX,h0]
    by_cases hp : max s a < min (s + x.f4) b
    · rw [if_pos hp]
      refine ⟨fun hh=>?_,fun hh=>by omega⟩
      refine ⟨rfl,?_,?_⟩
      · rw [oneE_iff];simp only;omega
      · show cg (max s a + (min (s + x.f4) b - max s a)) (cutX a b r) (min e b)
        by_cases hb : b ≤ s + x.f4
        · rw [i2 (by omega)]
          show _ = _
          omega
        · have:=i1 (by omega)
          rw [show max s a + (min (s + x.f4) b - max s a) = max (s + x.f4) a by omega]
          exact this
    · rw [if_neg hp,List.nil_append]
      refine ⟨fun hh=>?_,fun hh=>i2 (by omega)⟩
      by_cases ha : s + x.f4 ≤ a
      · have:=i1 (by omega)
        rw [show max s a = max (s + x.f4) a by omega]
        exact this
      · rw [i2 (by omega)]
        show _ = _
        omega
theorem vRow_cg : ∀ {l : List Xt} {s : Int},s ≤ 1000 → (vRow s l = true ↔ cg s l (s + endX l) ∧ s + endX l ≤ 1000)
  | [],s,h=>by simp [vRow,cg,endX,h]
  | x :: r,s,h=>by
    simp only [vRow,cg,endX,Bool.and_eq_true,decide_eq_true_eq]
    constructor
    · rintro ⟨h1,h2,h3,h4⟩
      have ho:=(oneE_iff x).1 h1
      obtain ⟨k1,k2⟩:=(vRow_cg (by omega)).1 h4
      rw [show s + (x.f4 + endX r) = s + x.f4 + endX r by omega]
      exact ⟨⟨h2,h1,k1⟩,k2⟩
    · rintro ⟨⟨h2,h1,h4⟩,h5⟩
      rw [show s + (x.f4 + endX r) = s + x.f4 + endX r by omega] at h4 h5
      have ho:=(oneE_iff x).1 h1
      have hle:=(cg_le h4).1
      exact ⟨h1,h2,by omega,(vRow_cg (by omega)).2 ⟨h4,h5⟩⟩
theorem vRow_0 {l : List Xt} : vRow 0 l = true ↔ cg 0 l (endX l) ∧ endX l ≤ 1000:=by
  have:=vRow_cg (l:=l) (s:=0) (by omega)
  simpa using this
theorem cg_len : ∀ {l : List Xt} {s e : Int},cg s l e → (l.length : Int) ≤ e - s
  | [],s,e,h=>by simp only [cg] at h;simp;omega
  | x :: r,s,e,h=>by
    obtain ⟨_,h1,h2⟩:=h
    have:=(oneE_iff x).1 h1
    have:=cg_len h2
    simp only [List.length_cons];omega
theorem cg_mem : ∀ {l : List Xt} {s e : Int},cg s l e → ∀ x ∈ l,oneE x = true ∧ s ≤ x.f0 ∧ x.f0 + x.f4 ≤ e
  | [],s,e,h,x,hx=>by cases hx
  | y :: r,s,e,h,x,hx=>by
    obtain ⟨h0,h1,h2⟩:=h
    have ho:=(oneE_iff y).1 h1
    have hle:=(cg_le h2).1
    rcases List.mem_cons.1 hx with rfl|hx
    · exact ⟨h1,by omega,by omega⟩
    · obtain ⟨a,b,c⟩:=cg_mem h2 x hx
      exact ⟨a,by omega,c⟩
def bdX (e : Xt) : Prop:=-100000 ≤ e.f0 ∧ e.f0 ≤ 100000 ∧ 0 ≤ e.f3 ∧ e.f3 ≤ 100000 ∧ 0 ≤ e.f4 ∧ e.f4 ≤ 100000
theorem cg_bd {l : List Xt} {s e : Int} (h : cg s l e) (h0 : -100000 ≤ s) (h1 : e ≤ 100000) : ∀ x ∈ l,bdX x:=fun x hx=>by
  obtain ⟨a,b,c⟩:=cg_mem h x hx
  have:=(oneE_iff x).1 a
  unfold bdX;omega
theorem cg_num {l : List Xt} {s e : Int} (h : cg s l e) (h0 : -100000 ≤ s) (h1 : e ≤ 100000) : ∀ x ∈ l,numE x:=fun x hx=>by
  obtain ⟨a,b,c⟩:=cg_mem h x hx
  have:=(oneE_iff x).1 a
  unfold numE;omega
def spX (l : List Xt) (a b : Int) (new : List Xt) : List Xt:=cutX 0 a l ++ shX a new ++ shX (a + endX new - min b (endX l)) (cutX (min b (endX l)) (endX l) l)
theorem spX_cg {l new : List Xt} {a b : Int} (hl : cg 0 l (endX l)) (hn : cg 0 new (endX new)) (h0 : 0 ≤ a) (h1 : a ≤ b) (h2 : a ≤ endX l) : cg 0 (spX l a b new) (a + endX new + endX l - min b (endX l)):=by
  have e1:=(cg_cut (a:=0) (b:=a) hl).1 (by omega)
  rw [show max (0 : Int) 0 = 0 by omega,show min (endX l) a = a by omega] at e1
  have e2:=cg_sh a hn
  rw [show (0 : Int) + a = a by omega] at e2
  have e3:=(cg_cut (a:=min b (endX l)) (b:=endX l) hl).1 (by omega)
  rw [show max 0 (min b (endX l)) = min b (endX l) by omega,show min (endX l) (endX l) = endX l by omega] at e3
  have e4:=cg_sh (a + endX new - min b (endX l)) e3
  unfold spX
  refine cg_app (cg_app e1 e2) ?_
  rw [show endX new + a = min b (endX l) + (a + endX new - min b (endX l)) by omega,show a + endX new + endX l - min b (endX l) = endX l + (a + endX new - min b (endX l)) by omega]
  exact e4
def spF (l : List Xt) (a b : Int) (new : List Xt) : Int:=if vRow 0 new = false ∨ a < 0 ∨ b < a ∨ endX l < a then 1 else if 1000 < a + endX new + endX l - min b (endX l) then 4 else 0
theorem spF_ok {l new : List Xt} {a b : Int} (hl : vRow 0 l = true) (h : spF l a b new = 0) : vRow 0 (spX l a b new) = true ∧ vRow 0 new = true ∧ 0 ≤ a ∧ a ≤ b ∧ a ≤ endX l ∧ endX (spX l a b new) = a + endX new + endX l - min b (endX l):=by
  unfold spF at h
  split at h
  · cases h
  · rename_i h1
    split at h
    · cases h
    · rename_i h2
      have hv : vRow 0 new = true:=by
        cases hb : vRow 0 new with
        | true=>rfl
        | false=>exact absurd (.inl hb) h1
      have hc:=spX_cg (a:=a) (b:=b) (vRow_0.1 hl).1 (vRow_0.1 hv).1 (by omega) (by omega) (by omega)
      have he:=cg_end hc
      refine ⟨vRow_0.2 ⟨?_,by omega⟩,hv,by omega,by omega,by omega,by omega⟩
      rw [show endX (spX l a b new) = a + endX new + endX l - min b (endX l) by omega]
      exact hc
def findX (at' : Int) : List Xt → Option Nat
  | []=>none
  | e :: r=>if e.f0 ≤ at' ∧ at' < e.f0 + e.f4 then some 0 else (findX at' r).map (· + 1)
theorem findX_drop {at' : Int} {l : List Xt} {k : Nat} (h : k < l.length) : findX at' (l.drop k) = if (l.getD k x0).f0 ≤ at' ∧ at' < (l.getD k x0).f0 + (l.getD k x0).f4 then some 0 else (findX at' (l.drop (k + 1))).map (· + 1):=by
  rw [List.drop_eq_getElem_cons h,List.getD_eq_getElem?_getD,List.getElem?_eq_getElem h]
  rfl
theorem findX_lt {at' : Int} : ∀ {l : List Xt} {i : Nat},findX at' l = some i → i < l.length ∧ (l.getD i x0).f0 ≤ at' ∧ at' < (l.getD i x0).f0 + (l.getD i x0).f4
  | [],i,h=>by cases h
  | e :: r,i,h=>by
    simp only [findX] at h
    split at h
    · rename_i hc
      cases h;exact ⟨by simp,hc⟩
    · cases hf : findX at' r with
      | none=>rw [hf] at h;cases h
      | some j =>
        rw [hf] at h;cases h
        obtain ⟨a,b⟩:=findX_lt hf
        exact ⟨by simp;omega,b⟩
theorem findX_cg {at' : Int} : ∀ {l : List Xt} {s e : Int},cg s l e → (findX at' l = none ↔ at' < s ∨ e ≤ at')
  | [],s,e,h=>by simp only [cg] at h;simp only [findX,true_iff];omega
  | x :: r,s,e,h=>by
    obtain ⟨h0,h1,h2⟩:=h
    have ho:=(oneE_iff x).1 h1
    have hle:=(cg_le h2).1
    have ih:=findX_cg (at':=at') h2
    simp only [findX]
    split
    · simp;omega
    · rw [Option.map_eq_none_iff,ih];omega
theorem cutX_take {a b : Int} {l : List Xt} {k : Nat} (h : k < l.length) : cutX a b (l.take (k + 1)) = cutX a b (l.take k) ++ pcX a b (l.getD k x0):=by
  unfold cutX
  rw [List.take_succ_eq_append_getElem h,List.flatMap_append,List.getD_eq_getElem?_getD,List.getElem?_eq_getElem h]
  simp
theorem cutX_len (a b : Int) : ∀ l : List Xt,(cutX a b l).length ≤ l.length
  | []=>by simp [cutX]
  | x :: r=>by
    have ih:=cutX_len a b r
    have hc : cutX a b (x :: r) = pcX a b x ++ cutX a b r:=by simp [cutX]
    have : (pcX a b x).length ≤ 1:=by unfold pcX;split <;> simp
    rw [hc,List.length_append,List.length_cons];omega
theorem shX_take {d : Int} {l : List Xt} {k : Nat} (h : k < l.length) : shX d (l.take (k + 1)) = shX d (l.take k) ++ [⟨(l.getD k x0).f0 + d,(l.getD k x0).f1,(l.getD k x0).f2,(l.getD k x0).f3,(l.getD k x0).f4⟩]:=by
  unfold shX
  rw [List.take_succ_eq_append_getElem h,List.map_append,List.getD_eq_getElem?_getD,List.getElem?_eq_getElem h]
  simp
theorem shX_len (d : Int) (l : List Xt) : (shX d l).length = l.length:=by simp [shX]
end Go.Proofs.Ytleahjfgedfgmaa.Am
