import Derived.Test.YtleahjfgedfgmaaZT2
import Derived.Test.YtleahjfgedfgmaaZZf
import Derived.Test.YtleahjfgedfgmaaZZB
set_option linter.unusedVariables false
set_option linter.unusedSimpArgs false
set_option maxRecDepth 10000
set_option maxHeartbeats 0
namespace Go.Proofs.Ytleahjfgedfgmaa.Am
open Go Go.RowKit Go.Proofs
theorem chk_uni {k : Nat} {top : Bool} {l : List Xt} {f : List Int} {p : List Nd} {r : List Xt} {d m : Nat} (h : chk (k + 1) top (.mk l f p) = some (r,d,m)) : ∃ d' q,chkP (chk k false) d' f p = some q ∧ f.length = p.length ∧ p.length ≤ 8 ∧ l.length ≤ 8 ∧ r = l ++ q.1 ∧ m = 1 + q.2:=by
  rcases chk_open h with ⟨rfl,rfl,h1,h2,h3⟩|⟨hp,rfl,h1,h2,h3,d',q,hq,h4⟩
  · cases h3
    exact ⟨0,([],0),rfl,rfl,by simp,h2,by simp,rfl⟩
  · cases h4
    exact ⟨d',q,hq,h3,h2,by simp,by simp,rfl⟩
structure gC (j d' : Nat) (f : List Int) (p : List Nd) (x : Nat × List Xt × Nat) : Prop where
  le : x.1 ≤ p.length
  c : chkP (chk j false) d' (f.take x.1) (p.take x.1) = some x.2
  a : x.2.1.length ≤ x.1 * 20000000
  b : x.2.2 ≤ x.1 * 40000000
theorem gC_0 (j d' : Nat) (f : List Int) (p : List Nd) : gC j d' f p (0,[],0):=⟨Nat.zero_le _,by simp [chkP],by simp,by simp⟩
theorem gC_step {j d' : Nat} {f : List Int} {p : List Nd} {q : List Xt × Nat} (hq : chkP (chk j false) d' f p = some q) (hr : q.1.length ≤ 20000000) {i : Nat} {x : List Xt × Nat} (h : gC j d' f p (i,x)) (hi : i < p.length) :
    ∃ r m,chk j false (p.getD i n0) = some (r,d',m) ∧ r.length ≤ 20000000 ∧ m ≤ 40000000 ∧ f.getD i 0 = (r.getD 0 x0).f0 ∧ gC j d' f p (i + 1,x.1 ++ r,x.2 + m):=by
  obtain ⟨r,m,h1,h2,h3,h4⟩:=chkP_get hq i hi
  have hm:=(chk_size h1).2.2.2.2.2.1
  have ha:=h.a
  have hb:=h.b
  have hl:=chkP_len hq
  simp only at ha hb
  refine ⟨r,m,h1,by omega,by omega,h2,by simp;omega,chkP_take hi (by omega) h1 h2 h.c,?_,?_⟩
  · simp only [List.length_append];omega
  · simp only;omega
theorem gC_end {j d' : Nat} {f : List Int} {p : List Nd} {q x : List Xt × Nat} (hq : chkP (chk j false) d' f p = some q) (h : gC j d' f p (p.length,x)) : x = q:=by
  have:=h.c
  simp only at this
  rw [List.take_length,List.take_of_length_le (by rw [chkP_len hq];exact Nat.le_refl _),hq] at this
  exact (Option.some.inj this).symm
theorem ck_pos {k : Nat} {top : Bool} {n : Nd} {c : Ck} (h : chk k top n = some c) : ∃ j,k = j + 1:=by
  cases k with
  | zero=>cases h
  | succ j=>exact ⟨j,rfl⟩
def SpK_tree_Node_count (k : Nat) (ds : List D) (out : Out) : Prop:=∃ (l : List Xt) (f : List Int) (p : List Nd),ds = [.agg [.list (l.map eD),.list (f.map mI),.list (p.map nD)]] ∧ okc k (.mk l f p) ∧ out = ⟨.d (.v (.int .i64 (ckM (chk k true (.mk l f p))))),[]⟩
def Sp_tree_Node_count (ds : List D) (out : Out) : Prop:=SpK_tree_Node_count 8 ds out
theorem ent_tree_Node_count : Ent Try.prog 51:=⟨_,Try.func51,rfl,by decide⟩
noncomputable def Z1 (k : Nat) : Env:=⟨Try.prog,fun f ds out=>(f = 51 ∧ Lo SpK_tree_Node_count k ds out),Es,fun _=>false,fun f vs lent out=>False,fun f=>none,fun f=>false,false,fun f=>none⟩
theorem Z1_okK (k : Nat) (hg : ∀ j,j < k → Good Try.prog 51 (SpK_tree_Node_count j)) : (Z1 k).Ok:=by
  refine ⟨?_,Es_ok,fun _ _ _ _ h=>h.elim,fun _ _ h=>nomatch h⟩
  rintro f ds out ⟨rfl,h⟩
  · cases k with
    | zero=>exact h.elim
    | succ j=>exact ⟨ent_tree_Node_count,(hg j (by omega)).one h⟩
theorem goodK_tree_Node_count : ∀ k,Good Try.prog 51 (SpK_tree_Node_count k):=by
  intro k
  induction k using Nat.strongRecOn with
  | ind k ih =>
  have Z1_ok : (Z1 k).Ok:=Z1_okK k ih
  clear ih
  refine good_body (E:=Z1 k) (nt:=19) (rs:=#[.tmp 2]) Try.func51 rfl rfl rfl ?_
  rintro ds out ⟨l,f,p,rfl,⟨⟨r,d,m⟩,hc,hr⟩,rfl⟩
  refine ⟨by simp,?_⟩
  rw [hc,ckM_s]
  obtain ⟨j,rfl⟩:=ck_pos hc
  obtain ⟨d',q,hq,hfl,hpl,hll,rfl,rfl⟩:=chk_uni hc
  simp only [List.length_append] at hr
  clear hc
  repeat' ((first
 | refine AW.seq ?_
 | refine AW.block ?_
 | refine AW.regl Z1_ok [0,1,2,3,5,7,8,9,10] ?_
 | refine then_n ?_
 | refine then_r ?_
 | refine then_x ?_
 | refine block_x ?_
 | refine block_o (by decide) ?_
 | refine block_n ?_
 | refine block_r ?_
 | refine AW.skip ?_
 | refine AW.ret ?_
 | refine AW.exit ?_
 | refine AW.cond rfl ?_ ?_
 | refine awl_none rfl ?_
 | refine awl_nil2 ?_
 | (refine fun (hc : _ = _)=>?_;first|cases hc|((try rw [hc]);(try simp only [stH] at hc);(try (exfalso;omega)));(try (show Awl _ _ _ _ _;simp only [stU])))
 | ((first|refine fun (K : V → List _ → _) hK=>?_|refine fun (_ : V → V)=>?_);simp (maxSteps:=1000000) (disch:=omega) only [go_sem,Int.reduceEq,↓reduceIte,reduceCtorEq,Nat.reduceEqDiff,Nat.reduceLT,Nat.reduceLeDiff,Nat.reduceAdd,Nat.reduceSub,Nat.reduceMul,Int.reduceToNat,Int.reduceLE,Int.reduceLT,Z1,Sp_tree_Node_count,SpK_tree_Node_count,Lo_succ,Lo_zero];(try (revert hK;intro hK;(repeat' first|(refine And.intro ?_ ?_)|(intro hc;first|cases hc|((try rw [hc]);(try simp only [stH] at hc);(try (exfalso;omega)))));all_goals first|(refine hK _ _ ?_;clear hK K;simp only [stU])|exact hK|omega)))) <;> (fail_if_success (show False;skip)))
  refine AW.loop_wk (fun x : Nat × List Xt × Nat=>⟨[(3,.d (.v (.int .i64 ((1 + x.2.2 : Nat) : Int)))),(7,.d (.list (p.map nD))),(8,.d (.v (.int .i64 p.length))),(9,.d (.v (.int .i64 x.1)))],[],19⟩)
    (gC j d' f p) (fun x=>p.length - x.1) (0,[],0) (gC_0 _ _ _ _) (fun w0 oa aa w hs=>Wk.sr (ρ:=nm []) (Wk.of ?_) hs) ?_
  · simp (maxSteps:=1000000) (disch:=omega) only [go_sem,Int.reduceEq,↓reduceIte,reduceCtorEq,Nat.reduceEqDiff,Nat.reduceLT,Nat.reduceLeDiff,Nat.reduceAdd,Nat.reduceSub,Nat.reduceMul,Int.reduceToNat,Int.reduceLE,Int.reduceLT,Z1,Sp_tree_Node_count,SpK_tree_Node_count,Lo_succ,Lo_zero]
    all_goals rfl
  rintro ⟨i,x⟩ hg
  have hi:=hg.le
  have hb:=hg.b
  simp only at hi hb
  by_cases hi1 : i < p.length
  · obtain ⟨r1,m1,h1,h2,h3,h4,h5⟩:=gC_step hq (by omega) hg hi1
    have e1:=nth_N p i hi1
    obtain ⟨⟨l2,f2,p2⟩,hn⟩ : ∃ n,p.getD i n0 = n:=⟨_,rfl⟩
    rw [hn,nD_mk] at e1
    rw [hn] at h1
    obtain ⟨y,hy⟩ : ∃ y,x.2 = y:=⟨_,rfl⟩
    obtain ⟨k1,k2⟩:=okc_of h1 h2
    have k1t : okc j (.mk l2 f2 p2) = True:=eq_true k1
    rw [hy] at hb
    have hs : ((1 + (x.2 + m1) : Nat) : Int) = ((1 + y : Nat) : Int) + m1:=by rw [hy];omega
    repeat' ((first
 | refine AW.seq ?_
 | refine AW.block ?_
 | refine AW.regl Z1_ok [0,1,2,3,5,7,8,9,10] ?_
 | refine then_n ?_
 | refine then_r ?_
 | refine then_x ?_
 | refine block_x ?_
 | refine block_o (by decide) ?_
 | refine block_n ?_
 | refine block_r ?_
 | refine AW.skip ?_
 | refine AW.ret ?_
 | refine AW.exit ?_
 | refine AW.cond rfl ?_ ?_
 | refine awl_none rfl ?_
 | refine awl_nil2 ?_
 | (refine fun (hc : _ = _)=>?_;first|cases hc|((try rw [hc]);(try simp only [stH] at hc);(try (exfalso;omega)));(try (show Awl _ _ _ _ _;simp only [stU])))
 | ((first|refine fun (K : V → List _ → _) hK=>?_|refine fun (_ : V → V)=>?_);simp (maxSteps:=1000000) (disch:=omega) only [go_sem,Int.reduceEq,↓reduceIte,reduceCtorEq,Nat.reduceEqDiff,Nat.reduceLT,Nat.reduceLeDiff,Nat.reduceAdd,Nat.reduceSub,Nat.reduceMul,Int.reduceToNat,Int.reduceLE,Int.reduceLT,Z1,Sp_tree_Node_count,SpK_tree_Node_count,Lo_succ,Lo_zero,hy,e1,all_N,eD_inj,mI_inj,nD_inj,k1t,k2,ckM_s];(try (revert hK;intro hK;(repeat' first|(refine And.intro ?_ ?_)|(intro hc;first|cases hc|((try rw [hc]);(try simp only [stH] at hc);(try (exfalso;omega)))));all_goals first|(refine hK _ _ ?_;clear hK K;simp only [stU])|exact hK|omega)))) <;> (fail_if_success (show False;skip)))
    refine ⟨(i + 1,x.1 ++ r1,x.2 + m1),h5,by dsimp only;omega,nm [],Wk.of ?_⟩
    simp (maxSteps:=1000000) (disch:=omega) only [go_sem,Int.reduceEq,↓reduceIte,reduceCtorEq,Nat.reduceEqDiff,Nat.reduceLT,Nat.reduceLeDiff,Nat.reduceAdd,Nat.reduceSub,Nat.reduceMul,Int.reduceToNat,Int.reduceLE,Int.reduceLT,Z1,Sp_tree_Node_count,SpK_tree_Node_count,Lo_succ,Lo_zero,hs]
    all_goals rfl
  · obtain rfl : i = p.length:=by omega
    obtain rfl:=gC_end hq hg
    repeat' ((first
 | refine AW.seq ?_
 | refine AW.block ?_
 | refine AW.regl Z1_ok [0,1,2,3,5,7,8,9,10] ?_
 | refine then_n ?_
 | refine then_r ?_
 | refine then_x ?_
 | refine block_x ?_
 | refine block_o (by decide) ?_
 | refine block_n ?_
 | refine block_r ?_
 | refine AW.skip ?_
 | refine AW.ret ?_
 | refine AW.exit ?_
 | refine AW.cond rfl ?_ ?_
 | refine awl_none rfl ?_
 | refine awl_nil2 ?_
 | (refine fun (hc : _ = _)=>?_;first|cases hc|((try rw [hc]);(try simp only [stH] at hc);(try (exfalso;omega)));(try (show Awl _ _ _ _ _;simp only [stU])))
 | ((first|refine fun (K : V → List _ → _) hK=>?_|refine fun (_ : V → V)=>?_);simp (maxSteps:=1000000) (disch:=omega) only [go_sem,Int.reduceEq,↓reduceIte,reduceCtorEq,Nat.reduceEqDiff,Nat.reduceLT,Nat.reduceLeDiff,Nat.reduceAdd,Nat.reduceSub,Nat.reduceMul,Int.reduceToNat,Int.reduceLE,Int.reduceLT,Z1,Sp_tree_Node_count,SpK_tree_Node_count,Lo_succ,Lo_zero];(try (revert hK;intro hK;(repeat' first|(refine And.intro ?_ ?_)|(intro hc;first|cases hc|((try rw [hc]);(try simp only [stH] at hc);(try (exfalso;omega)))));all_goals first|(refine hK _ _ ?_;clear hK K;simp only [stU])|exact hK|omega)))) <;> (fail_if_success (show False;skip)))
    all_goals (refine Ends.of (nm []) (by first|exact .inl rfl|exact .inr rfl) ?_;simp (maxSteps:=1000000) (disch:=omega) only [go_sem,Int.reduceEq,↓reduceIte,reduceCtorEq,Nat.reduceEqDiff,Nat.reduceLT,Nat.reduceLeDiff,Nat.reduceAdd,Nat.reduceSub,Nat.reduceMul,Int.reduceToNat,Int.reduceLE,Int.reduceLT,Z1,Sp_tree_Node_count,SpK_tree_Node_count,Lo_succ,Lo_zero])
theorem good_tree_Node_count : Good Try.prog 51 Sp_tree_Node_count:=fun ds out h=>goodK_tree_Node_count 8 ds out h
def SpK_tree_Node_items (k : Nat) (ds : List D) (out : Out) : Prop:=∃ (l : List Xt) (f : List Int) (p : List Nd),ds = [.agg [.list (l.map eD),.list (f.map mI),.list (p.map nD)]] ∧ okc k (.mk l f p) ∧ out = ⟨.sl 0 5 0 (ckR (chk k true (.mk l f p))).length true,[(0,.row 25 5 ((ckR (chk k true (.mk l f p))).map eD))]⟩
def Sp_tree_Node_items (ds : List D) (out : Out) : Prop:=SpK_tree_Node_items 8 ds out
theorem ent_tree_Node_items : Ent Try.prog 45:=⟨_,Try.func45,rfl,by decide⟩
noncomputable def Z2 (k : Nat) : Env:=⟨Try.prog,fun f ds out=>(f = 45 ∧ Lo SpK_tree_Node_items k ds out) ∨ (f = 40 ∧ Sp_tree_fresh ds out),Es,fun _=>false,fun f vs lent out=>False,fun f=>none,fun f=>false,false,fun f=>none⟩
theorem Z2_okK (k : Nat) (hg : ∀ j,j < k → Good Try.prog 45 (SpK_tree_Node_items j)) : (Z2 k).Ok:=by
  refine ⟨?_,Es_ok,fun _ _ _ _ h=>h.elim,fun _ _ h=>nomatch h⟩
  rintro f ds out (⟨rfl,h⟩|⟨rfl,h⟩)
  · cases k with
    | zero=>exact h.elim
    | succ j=>exact ⟨ent_tree_Node_items,(hg j (by omega)).one h⟩
  · exact ⟨ent_tree_fresh,good_tree_fresh.one h⟩
theorem goodK_tree_Node_items : ∀ k,Good Try.prog 45 (SpK_tree_Node_items k):=by
  intro k
  induction k using Nat.strongRecOn with
  | ind k ih =>
  have Z2_ok : (Z2 k).Ok:=Z2_okK k ih
  clear ih
  refine good_body (E:=Z2 k) (nt:=22) (rs:=#[.tmp 2]) Try.func45 rfl rfl rfl ?_
  rintro ds out ⟨l,f,p,rfl,⟨⟨r,d,m⟩,hc,hr⟩,rfl⟩
  refine ⟨by simp,?_⟩
  rw [hc,ckR_s]
  obtain ⟨j,rfl⟩:=ck_pos hc
  obtain ⟨d',q,hq,hfl,hpl,hll,rfl,rfl⟩:=chk_uni hc
  simp only [List.length_append] at hr
  clear hc
  repeat' ((first
 | refine AW.seq ?_
 | refine AW.block ?_
 | refine AW.regl Z2_ok [0,1,2,3,5,10,11,12,13] ?_
 | refine then_n ?_
 | refine then_r ?_
 | refine then_x ?_
 | refine block_x ?_
 | refine block_o (by decide) ?_
 | refine block_n ?_
 | refine block_r ?_
 | refine AW.skip ?_
 | refine AW.ret ?_
 | refine AW.exit ?_
 | refine AW.cond rfl ?_ ?_
 | refine awl_none rfl ?_
 | refine awl_nil2 ?_
 | (refine fun (hc : _ = _)=>?_;first|cases hc|((try rw [hc]);(try simp only [stH] at hc);(try (exfalso;omega)));(try (show Awl _ _ _ _ _;simp only [stU])))
 | ((first|refine fun (K : V → List _ → _) hK=>?_|refine fun (_ : V → V)=>?_);simp (maxSteps:=1000000) (disch:=omega) only [go_sem,Int.reduceEq,↓reduceIte,reduceCtorEq,Nat.reduceEqDiff,Nat.reduceLT,Nat.reduceLeDiff,Nat.reduceAdd,Nat.reduceSub,Nat.reduceMul,Int.reduceToNat,Int.reduceLE,Int.reduceLT,Z2,Sp_tree_fresh,Sp_tree_Node_items,SpK_tree_Node_items,Lo_succ,Lo_zero,eD_inj];(try (revert hK;intro hK;(repeat' first|(refine And.intro ?_ ?_)|(intro hc;first|cases hc|((try rw [hc]);(try simp only [stH] at hc);(try (exfalso;omega)))));all_goals first|(refine hK _ _ ?_;clear hK K;simp only [stU])|exact hK|omega)))) <;> (fail_if_success (show False;skip)))
  refine AW.loop_wk (fun x : Nat × List Xt × Nat=>⟨[(3,.sl 100 5 0 (l ++ x.2.1).length true),(10,.d (.list (p.map nD))),(11,.d (.v (.int .i64 p.length))),(12,.d (.v (.int .i64 x.1)))],[(100,.row 25 5 ((l ++ x.2.1).map eD))],22⟩)
    (gC j d' f p) (fun x=>p.length - x.1) (0,[],0) (gC_0 _ _ _ _) (fun w0 oa aa w hs=>Wk.sr (ρ:=nm [(100,8)]) (Wk.of ?_) hs) ?_
  · simp (maxSteps:=1000000) (disch:=omega) only [go_sem,Int.reduceEq,↓reduceIte,reduceCtorEq,Nat.reduceEqDiff,Nat.reduceLT,Nat.reduceLeDiff,Nat.reduceAdd,Nat.reduceSub,Nat.reduceMul,Int.reduceToNat,Int.reduceLE,Int.reduceLT,Z2,Sp_tree_fresh,Sp_tree_Node_items,SpK_tree_Node_items,Lo_succ,Lo_zero,List.append_nil]
    all_goals rfl
  rintro ⟨i,x⟩ hg
  have hi:=hg.le
  have hb:=hg.a
  simp only at hi hb
  by_cases hi1 : i < p.length
  · obtain ⟨r1,m1,h1,h2,h3,h4,h5⟩:=gC_step hq (by omega) hg hi1
    have e1:=nth_N p i hi1
    obtain ⟨⟨l2,f2,p2⟩,hn⟩ : ∃ n,p.getD i n0 = n:=⟨_,rfl⟩
    rw [hn,nD_mk] at e1
    rw [hn] at h1
    obtain ⟨k1,k2⟩:=okc_of h1 h2
    have k1t : okc j (.mk l2 f2 p2) = True:=eq_true k1
    obtain ⟨y,hy⟩ : ∃ y,l ++ x.1 = y:=⟨_,rfl⟩
    have hyl : y.length ≤ 4000000000:=by rw [← hy,List.length_append];omega
    have hs : l ++ (x.1 ++ r1) = y ++ r1:=by rw [← hy,List.append_assoc]
    have hs2 : y.map eD ++ r1.map eD = (y ++ r1).map eD:=by simp
    have hs3 : (y ++ r1).length = y.length + r1.length:=by simp
    have ht1 : (r1.map eD).take r1.length = r1.map eD:=List.take_of_length_le (by simp)
    repeat' ((first
 | refine AW.seq ?_
 | refine AW.block ?_
 | refine AW.regl Z2_ok [0,1,2,3,5,10,11,12,13] ?_
 | refine then_n ?_
 | refine then_r ?_
 | refine then_x ?_
 | refine block_x ?_
 | refine block_o (by decide) ?_
 | refine block_n ?_
 | refine block_r ?_
 | refine AW.skip ?_
 | refine AW.ret ?_
 | refine AW.exit ?_
 | refine AW.cond rfl ?_ ?_
 | refine awl_none rfl ?_
 | refine awl_nil2 ?_
 | (refine fun (hc : _ = _)=>?_;first|cases hc|((try rw [hc]);(try simp only [stH] at hc);(try (exfalso;omega)));(try (show Awl _ _ _ _ _;simp only [stU])))
 | ((first|refine fun (K : V → List _ → _) hK=>?_|refine fun (_ : V → V)=>?_);simp (maxSteps:=1000000) (disch:=omega) only [go_sem,Int.reduceEq,↓reduceIte,reduceCtorEq,Nat.reduceEqDiff,Nat.reduceLT,Nat.reduceLeDiff,Nat.reduceAdd,Nat.reduceSub,Nat.reduceMul,Int.reduceToNat,Int.reduceLE,Int.reduceLT,Z2,Sp_tree_fresh,Sp_tree_Node_items,SpK_tree_Node_items,Lo_succ,Lo_zero,ht1,hy,e1,all_N,all_E,eD_inj,mI_inj,nD_inj,k1t,k2,ckR_s,hs2];(try (revert hK;intro hK;(repeat' first|(refine And.intro ?_ ?_)|(intro hc;first|cases hc|((try rw [hc]);(try simp only [stH] at hc);(try (exfalso;omega)))));all_goals first|(refine hK _ _ ?_;clear hK K;simp only [stU])|exact hK|omega)))) <;> (fail_if_success (show False;skip)))
    refine ⟨(i + 1,x.1 ++ r1,x.2 + m1),h5,by dsimp only;omega,nm [(100,19)],Wk.of ?_⟩
    have hs4 : l.length + (x.1.length + r1.length) = y.length + r1.length:=by rw [← hs3,← hs];simp
    simp (maxSteps:=1000000) (disch:=omega) only [go_sem,Int.reduceEq,↓reduceIte,reduceCtorEq,Nat.reduceEqDiff,Nat.reduceLT,Nat.reduceLeDiff,Nat.reduceAdd,Nat.reduceSub,Nat.reduceMul,Int.reduceToNat,Int.reduceLE,Int.reduceLT,Z2,Sp_tree_fresh,Sp_tree_Node_items,SpK_tree_Node_items,Lo_succ,Lo_zero,hs,hs4,hs3]
    all_goals rfl
  · obtain rfl : i = p.length:=by omega
    obtain rfl:=gC_end hq hg
    repeat' ((first
 | refine AW.seq ?_
 | refine AW.block ?_
 | refine AW.regl Z2_ok [0,1,2,3,5,10,11,12,13] ?_
 | refine then_n ?_
 | refine then_r ?_
 | refine then_x ?_
 | refine block_x ?_
 | refine block_o (by decide) ?_
 | refine block_n ?_
 | refine block_r ?_
 | refine AW.skip ?_
 | refine AW.ret ?_
 | refine AW.exit ?_
 | refine AW.cond rfl ?_ ?_
 | refine awl_none rfl ?_
 | refine awl_nil2 ?_
 | (refine fun (hc : _ = _)=>?_;first|cases hc|((try rw [hc]);(try simp only [stH] at hc);(try (exfalso;omega)));(try (show Awl _ _ _ _ _;simp only [stU])))
 | ((first|refine fun (K : V → List _ → _) hK=>?_|refine fun (_ : V → V)=>?_);simp (maxSteps:=1000000) (disch:=omega) only [go_sem,Int.reduceEq,↓reduceIte,reduceCtorEq,Nat.reduceEqDiff,Nat.reduceLT,Nat.reduceLeDiff,Nat.reduceAdd,Nat.reduceSub,Nat.reduceMul,Int.reduceToNat,Int.reduceLE,Int.reduceLT,Z2,Sp_tree_fresh,Sp_tree_Node_items,SpK_tree_Node_items,Lo_succ,Lo_zero];(try (revert hK;intro hK;(repeat' first|(refine And.intro ?_ ?_)|(intro hc;first|cases hc|((try rw [hc]);(try simp only [stH] at hc);(try (exfalso;omega)))));all_goals first|(refine hK _ _ ?_;clear hK K;simp only [stU])|exact hK|omega)))) <;> (fail_if_success (show False;skip)))
    all_goals (refine Ends.of (nm [(0,100)]) (by first|exact .inl rfl|exact .inr rfl) ?_;simp (maxSteps:=1000000) (disch:=omega) only [go_sem,Int.reduceEq,↓reduceIte,reduceCtorEq,Nat.reduceEqDiff,Nat.reduceLT,Nat.reduceLeDiff,Nat.reduceAdd,Nat.reduceSub,Nat.reduceMul,Int.reduceToNat,Int.reduceLE,Int.reduceLT,Z2,Sp_tree_fresh,Sp_tree_Node_items,SpK_tree_Node_items,Lo_succ,Lo_zero])
theorem good_tree_Node_items : Good Try.prog 45 Sp_tree_Node_items:=fun ds out h=>goodK_tree_Node_items 8 ds out h
def SpK_tree_Node_copied (k : Nat) (ds : List D) (out : Out) : Prop:=∃ (l : List Xt) (f : List Int) (p : List Nd),ds = [.agg [.list (l.map eD),.list (f.map mI),.list (p.map nD)]] ∧ (okc k (.mk l f p) ∨ Nd.mk l f p = n0) ∧ out = ⟨.agg [.sl 0 5 0 l.length true,.sl 1 1 0 f.length true,.sl 2 3 0 p.length true],[(0,.row 25 5 (l.map eD)),(1,.row 3 1 (f.map mI)),(2,.row 42 3 (p.map nD))]⟩
def Sp_tree_Node_copied (ds : List D) (out : Out) : Prop:=SpK_tree_Node_copied 8 ds out
theorem ent_tree_Node_copied : Ent Try.prog 46:=⟨_,Try.func46,rfl,by decide⟩
noncomputable def Z3 (k : Nat) : Env:=⟨Try.prog,fun f ds out=>(f = 46 ∧ Lo SpK_tree_Node_copied k ds out) ∨ (f = 40 ∧ Sp_tree_fresh ds out),Es,fun _=>false,fun f vs lent out=>False,fun f=>none,fun f=>false,false,fun f=>none⟩
theorem Z3_okK (k : Nat) (hg : ∀ j,j < k → Good Try.prog 46 (SpK_tree_Node_copied j)) : (Z3 k).Ok:=by
  refine ⟨?_,Es_ok,fun _ _ _ _ h=>h.elim,fun _ _ h=>nomatch h⟩
  rintro f ds out (⟨rfl,h⟩|⟨rfl,h⟩)
  · cases k with
    | zero=>exact h.elim
    | succ j=>exact ⟨ent_tree_Node_copied,(hg j (by omega)).one h⟩
  · exact ⟨ent_tree_fresh,good_tree_fresh.one h⟩
theorem copied_facts {k : Nat} {l : List Xt} {f : List Int} {p : List Nd} (h : okc k (.mk l f p) ∨ Nd.mk l f p = n0) : l.length ≤ 8 ∧ f.length = p.length ∧ p.length ≤ 8 ∧ ∀ i,i < p.length → ∃ j,k = j + 1 ∧ okc j (p.getD i n0):=by
  rcases h with ⟨⟨r,d,m⟩,hc,hr⟩|h
  · obtain ⟨j,rfl⟩:=ck_pos hc
    obtain ⟨d',q,hq,hfl,hpl,hll,rfl,rfl⟩:=chk_uni hc
    refine ⟨hll,hfl,hpl,fun i hi=>⟨j,rfl,?_⟩⟩
    obtain ⟨r,m,h1,h2,h3,h4⟩:=chkP_get hq i hi
    simp only [List.length_append] at hr
    exact (okc_of h1 (by omega)).1
  · simp only [n0,Nd.mk.injEq] at h
    obtain ⟨rfl,rfl,rfl⟩:=h
    refine ⟨by simp,rfl,by simp,fun i hi=>by simp at hi⟩
def bb_tree_Node_copied_1 : List Nat:=[0,1,3,0,8,31,63,0,255]
def bb_tree_Node_copied_5 : List Nat:=[0,1,0,4,12,31,63,127]
def cc_tree_Node_copied_1 : List (List (Option Bool)):=[[some false,some false,some false,none,none,some false,some false,none,some false],[some true,some false,some false,none,none,some false,some false,none,some false],[some true,some true,some false,none,none,some false,some false,none,some false],[none,none,none,some false,some false,some false,some false,none,some false],[none,none,none,some true,some false,some false,some false,none,some false],[some true,some true,some true,some true,some true,some false,some false,none,some false],[some true,some true,some true,some true,some true,some true,some false,none,some false],[none,none,none,none,none,none,none,some false,some false],[some true,some true,some true,some true,some true,some true,some true,some true,some false]]
def cc_tree_Node_copied_5 : List (List (Option Bool)):=[[some false,some false,none,none,none,some false,some false,some false],[some true,some false,none,none,none,some false,some false,some false],[none,none,some false,some false,some false,some false,some false,some false],[none,none,some true,some false,some false,some false,some false,some false],[none,none,some true,some true,some false,some false,some false,some false],[some true,some true,some true,some true,some true,some false,some false,some false],[some true,some true,some true,some true,some true,some true,some false,some false],[some true,some true,some true,some true,some true,some true,some true,some false]]
theorem goodK_tree_Node_copied : ∀ k,Good Try.prog 46 (SpK_tree_Node_copied k):=by
  intro k
  induction k using Nat.strongRecOn with
  | ind k ih =>
  have Z3_ok : (Z3 k).Ok:=Z3_okK k ih
  clear ih
  refine good_body (E:=Z3 k) (nt:=29) (rs:=#[.cell 2 42]) Try.func46 rfl rfl rfl ?_
  rintro ds out ⟨l,f,p,rfl,hc,rfl⟩
  refine ⟨by simp,?_⟩
  obtain ⟨hll,hfl,hpl,hch⟩:=copied_facts hc
  clear hc
  repeat' ((first
 | refine AW.seq ?_
 | refine AW.block ?_
 | refine AW.regl Z3_ok [0,1,2,3,5,14,15,16,17] ?_
 | (refine AW.regc (id:=1) Z3_ok follows bb_tree_Node_copied_1 (by kernel_rfl) [0,1,2,3,5,14,15,16,17] ?_)
 | (refine AW.regc (id:=5) Z3_ok follows bb_tree_Node_copied_5 (by kernel_rfl) [0,1,2,3,5,14,15,16,17] ?_)
 | refine then_n ?_
 | refine then_r ?_
 | refine then_x ?_
 | refine block_x ?_
 | refine block_o (by decide) ?_
 | refine block_n ?_
 | refine block_r ?_
 | refine AW.skip ?_
 | refine AW.ret ?_
 | refine AW.exit ?_
 | refine AW.cond rfl ?_ ?_
 | refine awl_none rfl ?_
 | refine awl_nil2 ?_
 | refine awc_none rfl ?_
 | exact each_nil
 | refine each_none rfl ?_ ?_
 | refine awc_leaf2 [some 6,some 7,some 8,some 9,some 10,some 11,some 12,some 3,none] cc_tree_Node_copied_1 rfl (by kernel_rfl) (by kernel_rfl) ?_ ?_
 | refine awc_leaf2 [some 20,some 21,some 22,some 23,some 24,some 25,some 26,none] cc_tree_Node_copied_5 rfl (by kernel_rfl) (by kernel_rfl) ?_ ?_
 | (refine fun (hc : _ = _)=>?_;first|cases hc|((try rw [hc]);(try simp only [stH] at hc);(try (exfalso;omega)));(try ((first|show Awl _ _ _ _ _|show Awc _ _ _ _ _ _);simp only [stU])))
 | ((first|refine fun (K : V → List _ → _) hK=>?_|refine fun (_ : V → V)=>?_|refine fun (bb : Nat → Bool) K hK=>?_);simp (maxSteps:=1000000) (disch:=omega) only [go_sem,Int.reduceEq,↓reduceIte,reduceCtorEq,Nat.reduceEqDiff,Nat.reduceLT,Nat.reduceLeDiff,Nat.reduceAdd,Nat.reduceSub,Nat.reduceMul,Int.reduceToNat,Int.reduceLE,Int.reduceLT,Z3,Sp_tree_fresh,Sp_tree_Node_copied,SpK_tree_Node_copied,Lo_succ,Lo_zero,eD_inj,all_I,Sg3,St.updIf,ifc_nil,gt_ifc,go_ifc,ite_self,Option.none_or,Option.some_or];(try (revert hK;intro hK;(repeat' first|(refine And.intro ?_ ?_)|(intro hc;first|cases hc|((try rw [hc]);(try simp only [stH] at hc);(try (exfalso;omega)))));all_goals first|(refine hK _ _ ?_;clear hK K;simp only [stU])|exact hK|omega)))) <;> (fail_if_success (show False;skip)))
  refine AW.loop_wk (fun i : Nat=>⟨[(2,.ptr 2 0),(3,.ptr 3 0),(14,.d (.list (p.map nD))),(15,.d (.v (.int .i64 p.length))),(16,.d (.v (.int .i64 i)))],[(2,.box [.nil,.nil,.nil]),(3,.box [.sl 8 5 0 l.length true,.sl 11 1 0 f.length true,.sl 100 3 0 i true]),(8,.row 25 5 (l.map eD)),(11,.row 3 1 (f.map mI)),(100,.row 42 3 ((p.take i).map nD))],29⟩)
    (fun i=>i ≤ p.length) (fun i=>p.length - i) 0 (Nat.zero_le _) (fun w0 oa aa w hs=>Wk.sr (ρ:=nm []) (Wk.of ?_) (nilB_sr 3 100 2 42 3 rfl rfl rfl (by decide) hs)) ?_
  · simp (maxSteps:=1000000) (disch:=omega) only [go_sem,Int.reduceEq,↓reduceIte,reduceCtorEq,Nat.reduceEqDiff,Nat.reduceLT,Nat.reduceLeDiff,Nat.reduceAdd,Nat.reduceSub,Nat.reduceMul,Int.reduceToNat,Int.reduceLE,Int.reduceLT,Z3,Sp_tree_fresh,Sp_tree_Node_copied,SpK_tree_Node_copied,Lo_succ,Lo_zero,List.set_cons_succ,List.set_cons_zero,List.take_zero]
    all_goals rfl
  intro i hi
  by_cases hi1 : i < p.length
  · obtain ⟨j,rfl,hk⟩:=hch i hi1
    have e1:=nth_N p i hi1
    have e2:=take_N hi1
    obtain ⟨⟨l2,f2,p2⟩,hn⟩ : ∃ n,p.getD i n0 = n:=⟨_,rfl⟩
    rw [hn,nD_mk] at e1
    rw [hn] at hk e2
    have k1t : okc j (.mk l2 f2 p2) = True:=eq_true hk
    have e3 : (p.take i).length = i:=by rw [List.length_take];omega
    obtain ⟨R,hR⟩ : ∃ R,p.take i = R:=⟨_,rfl⟩
    rw [hR] at e2 e3
    have e4 : R.map nD ++ [D.agg [.list (l2.map eD),.list (f2.map mI),.list (p2.map nD)]] = (R ++ [Nd.mk l2 f2 p2]).map nD:=by simp [nD_mk]
    have q1 : (l2.map eD).take l2.length = l2.map eD:=List.take_of_length_le (by simp)
    have q2 : (f2.map mI).take f2.length = f2.map mI:=List.take_of_length_le (by simp)
    have q3 : (p2.map nD).take p2.length = p2.map nD:=List.take_of_length_le (by simp)
    have ht : ∀ P : Prop,(True ∨ P) = True:=fun _=>true_or _
    repeat' ((first
 | refine AW.seq ?_
 | refine AW.block ?_
 | refine AW.regl Z3_ok [0,1,2,3,5,14,15,16,17] ?_
 | (refine AW.regc (id:=1) Z3_ok follows bb_tree_Node_copied_1 (by kernel_rfl) [0,1,2,3,5,14,15,16,17] ?_)
 | (refine AW.regc (id:=5) Z3_ok follows bb_tree_Node_copied_5 (by kernel_rfl) [0,1,2,3,5,14,15,16,17] ?_)
 | refine then_n ?_
 | refine then_r ?_
 | refine then_x ?_
 | refine block_x ?_
 | refine block_o (by decide) ?_
 | refine block_n ?_
 | refine block_r ?_
 | refine AW.skip ?_
 | refine AW.ret ?_
 | refine AW.exit ?_
 | refine AW.cond rfl ?_ ?_
 | refine awl_none rfl ?_
 | refine awl_nil2 ?_
 | refine awc_none rfl ?_
 | exact each_nil
 | refine each_none rfl ?_ ?_
 | refine awc_leaf2 [some 6,some 7,some 8,some 9,some 10,some 11,some 12,some 3,none] cc_tree_Node_copied_1 rfl (by kernel_rfl) (by kernel_rfl) ?_ ?_
 | refine awc_leaf2 [some 20,some 21,some 22,some 23,some 24,some 25,some 26,none] cc_tree_Node_copied_5 rfl (by kernel_rfl) (by kernel_rfl) ?_ ?_
 | (refine fun (hc : _ = _)=>?_;first|cases hc|((try rw [hc]);(try simp only [stH] at hc);(try (exfalso;omega)));(try ((first|show Awl _ _ _ _ _|show Awc _ _ _ _ _ _);simp only [stU])))
 | ((first|refine fun (K : V → List _ → _) hK=>?_|refine fun (_ : V → V)=>?_|refine fun (bb : Nat → Bool) K hK=>?_);simp (maxSteps:=1000000) (disch:=omega) only [go_sem,Int.reduceEq,↓reduceIte,reduceCtorEq,Nat.reduceEqDiff,Nat.reduceLT,Nat.reduceLeDiff,Nat.reduceAdd,Nat.reduceSub,Nat.reduceMul,Int.reduceToNat,Int.reduceLE,Int.reduceLT,Z3,Sp_tree_fresh,Sp_tree_Node_copied,SpK_tree_Node_copied,Lo_succ,Lo_zero,q1,q2,q3,hR,e1,e3,e4,all_N,all_E,all_I,eD_inj,mI_inj,nD_inj,k1t,ht,List.set_cons_succ,List.set_cons_zero,Sg3,St.updIf,ifc_nil,gt_ifc,go_ifc,ite_self,Option.none_or,Option.some_or];(try (revert hK;intro hK;(repeat' first|(refine And.intro ?_ ?_)|(intro hc;first|cases hc|((try rw [hc]);(try simp only [stH] at hc);(try (exfalso;omega)))));all_goals first|(refine hK _ _ ?_;clear hK K;simp only [stU])|exact hK|omega)))) <;> (fail_if_success (show False;skip)))
    refine ⟨i + 1,by omega,by omega,nm [(2,2),(3,3),(8,8),(11,11),(100,25)],Wk.of ?_⟩
    simp (maxSteps:=1000000) (disch:=omega) only [go_sem,Int.reduceEq,↓reduceIte,reduceCtorEq,Nat.reduceEqDiff,Nat.reduceLT,Nat.reduceLeDiff,Nat.reduceAdd,Nat.reduceSub,Nat.reduceMul,Int.reduceToNat,Int.reduceLE,Int.reduceLT,Z3,Sp_tree_fresh,Sp_tree_Node_copied,SpK_tree_Node_copied,Lo_succ,Lo_zero,e2]
    all_goals rfl
  · obtain rfl : i = p.length:=by omega
    repeat' ((first
 | refine AW.seq ?_
 | refine AW.block ?_
 | refine AW.regl Z3_ok [0,1,2,3,5,14,15,16,17] ?_
 | (refine AW.regc (id:=1) Z3_ok follows bb_tree_Node_copied_1 (by kernel_rfl) [0,1,2,3,5,14,15,16,17] ?_)
 | (refine AW.regc (id:=5) Z3_ok follows bb_tree_Node_copied_5 (by kernel_rfl) [0,1,2,3,5,14,15,16,17] ?_)
 | refine then_n ?_
 | refine then_r ?_
 | refine then_x ?_
 | refine block_x ?_
 | refine block_o (by decide) ?_
 | refine block_n ?_
 | refine block_r ?_
 | refine AW.skip ?_
 | refine AW.ret ?_
 | refine AW.exit ?_
 | refine AW.cond rfl ?_ ?_
 | refine awl_none rfl ?_
 | refine awl_nil2 ?_
 | refine awc_none rfl ?_
 | exact each_nil
 | refine each_none rfl ?_ ?_
 | refine awc_leaf2 [some 6,some 7,some 8,some 9,some 10,some 11,some 12,some 3,none] cc_tree_Node_copied_1 rfl (by kernel_rfl) (by kernel_rfl) ?_ ?_
 | refine awc_leaf2 [some 20,some 21,some 22,some 23,some 24,some 25,some 26,none] cc_tree_Node_copied_5 rfl (by kernel_rfl) (by kernel_rfl) ?_ ?_
 | (refine fun (hc : _ = _)=>?_;first|cases hc|((try rw [hc]);(try simp only [stH] at hc);(try (exfalso;omega)));(try ((first|show Awl _ _ _ _ _|show Awc _ _ _ _ _ _);simp only [stU])))
 | ((first|refine fun (K : V → List _ → _) hK=>?_|refine fun (_ : V → V)=>?_|refine fun (bb : Nat → Bool) K hK=>?_);simp (maxSteps:=1000000) (disch:=omega) only [go_sem,Int.reduceEq,↓reduceIte,reduceCtorEq,Nat.reduceEqDiff,Nat.reduceLT,Nat.reduceLeDiff,Nat.reduceAdd,Nat.reduceSub,Nat.reduceMul,Int.reduceToNat,Int.reduceLE,Int.reduceLT,Z3,Sp_tree_fresh,Sp_tree_Node_copied,SpK_tree_Node_copied,Lo_succ,Lo_zero,List.take_length,Sg3,St.updIf,ifc_nil,gt_ifc,go_ifc,ite_self,Option.none_or,Option.some_or];(try (revert hK;intro hK;(repeat' first|(refine And.intro ?_ ?_)|(intro hc;first|cases hc|((try rw [hc]);(try simp only [stH] at hc);(try (exfalso;omega)))));all_goals first|(refine hK _ _ ?_;clear hK K;simp only [stU])|exact hK|omega)))) <;> (fail_if_success (show False;skip)))
    all_goals (refine Ends.of (nm [(0,8),(1,11),(2,100)]) (by first|exact .inl rfl|exact .inr rfl) ?_;simp (maxSteps:=1000000) (disch:=omega) only [go_sem,Int.reduceEq,↓reduceIte,reduceCtorEq,Nat.reduceEqDiff,Nat.reduceLT,Nat.reduceLeDiff,Nat.reduceAdd,Nat.reduceSub,Nat.reduceMul,Int.reduceToNat,Int.reduceLE,Int.reduceLT,Z3,Sp_tree_fresh,Sp_tree_Node_copied,SpK_tree_Node_copied,Lo_succ,Lo_zero,List.take_length])
theorem good_tree_Node_copied : Good Try.prog 46 Sp_tree_Node_copied:=fun ds out h=>goodK_tree_Node_copied 8 ds out h
end Go.Proofs.Ytleahjfgedfgmaa.Am
