import Derived.Test.YtleahjfgedfgmaaZTX
import Derived.Test.YtleahjfgedfgmaaZZA
set_option linter.unusedVariables false
set_option linter.unusedSimpArgs false
set_option maxRecDepth 10000
set_option maxHeartbeats 0
namespace Go.Proofs.Ytleahjfgedfgmaa.Am
open Go Go.RowKit Go.Proofs
theorem mem_getD {l : List Xt} {k : Nat} (h : k < l.length) : l.getD k x0 ∈ l:=by
  rw [List.getD_eq_getElem?_getD,List.getElem?_eq_getElem h];exact List.getElem_mem h
theorem endX_bd {l : List Xt} (hl : l.length ≤ 1000000) (hb : ∀ e ∈ l,bdX e) : ∀ k,0 ≤ endX (l.take k) ∧ endX (l.take k) ≤ (k : Int) * 100000
  | 0=>by simp [endX]
  | k + 1=>by
    have ih:=endX_bd hl hb k
    by_cases hk : k < l.length
    · have:=hb _ (mem_getD hk)
      unfold bdX at this
      rw [endX_take hk]
      omega
    · rw [List.take_of_length_le (by omega)] at ih ⊢
      omega
noncomputable def X0 : Env:=⟨Try.prog,fun f ds out=>(f = 53 ∧ Sp_piece_Valid ds out),Es,fun _=>false,fun f vs lent out=>False,fun f=>none,fun f=>false,false,fun f=>none⟩
theorem X0_sp : ∀ f ds out,X0.Sp f ds out → Ent X0.P f ∧ Good X0.P f (fun a b=>a = ds ∧ b = out):=by
  rintro f ds out ⟨rfl,h⟩
  exact ⟨ent_piece_Valid,good_piece_Valid.one h⟩
theorem X0_sm : ∀ f vs lent out,X0.Sm f vs lent out → Ent X0.P f ∧ GoodM X0.P f (fun a l b=>a = vs ∧ l = lent ∧ b = out):=fun _ _ _ _ h=>h.elim
theorem X0_at : ∀ f k,X0.At f = some k → AtomOk X0.P f k:=fun _ _ h=>nomatch h
theorem X0_ok : X0.Ok:=⟨X0_sp,Es_ok,X0_sm,X0_at⟩
def Sp_extent_Valid (ds : List D) (out : Out) : Prop:=∃ l : List Xt,ds = [.list (l.map eD)] ∧ l.length < 9223372036854775807 ∧ (∀ e ∈ l,numE e) ∧ out = ⟨.d (.v (.bool (vRow 0 l))),[]⟩
theorem good_extent_Valid : Good Try.prog 39 Sp_extent_Valid:=by
  refine good_body (E:=X0) (nt:=5) (rs:=#[.tmp 2]) Try.func39 rfl rfl rfl ?_
  rintro ds out ⟨l,rfl,hl,hn,rfl⟩
  refine ⟨by simp,?_⟩
  have hnt : (∀ e ∈ l,numE e) = True:=eq_true hn
  repeat' first
 | refine AW.seq ?_
 | refine AW.block ?_
 | refine AW.regl X0_ok [0,2] ?_
 | refine then_n ?_
 | refine then_r ?_
 | refine then_x ?_
 | refine block_x ?_
 | refine block_o (by decide) ?_
 | refine block_n ?_
 | refine block_r ?_
 | refine AW.skip ?_
 | refine AW.ret ?_
 | refine AW.exit ?_
 | refine AW.cond rfl ?_ ?_
 | refine awl_none rfl ?_
 | refine awl_nil2 ?_
 | (refine fun (hc : _ = _)=>?_;first|cases hc|((try rw [hc]);(try simp only [stH] at hc);(try (exfalso;omega)));(try (show Awl _ _ _ _ _;simp only [stU])))
 | ((first|refine fun (K : V → List _ → _) hK=>?_|refine fun (_ : V → V)=>?_);simp (maxSteps:=1000000) (disch:=omega) only [go_sem,Int.reduceEq,↓reduceIte,reduceCtorEq,Nat.reduceEqDiff,Nat.reduceLT,Nat.reduceLeDiff,Nat.reduceAdd,Nat.reduceSub,Nat.reduceMul,Int.reduceToNat,Int.reduceLE,Int.reduceLT,X0,Sp_piece_Valid,hnt,eD_inj];(try (revert hK;intro hK;(repeat' first|(refine And.intro ?_ ?_)|(intro hc;first|cases hc|((try rw [hc]);(try simp only [stH] at hc);(try (exfalso;omega)))));all_goals first|(refine hK _ _ ?_;clear hK K;simp only [stU])|exact hK|omega)))
  all_goals (refine Ends.of (nm []) (by first|exact .inl rfl|exact .inr rfl) ?_;simp (maxSteps:=1000000) (disch:=omega) only [go_sem,Int.reduceEq,↓reduceIte,reduceCtorEq,Nat.reduceEqDiff,Nat.reduceLT,Nat.reduceLeDiff,Nat.reduceAdd,Nat.reduceSub,Nat.reduceMul,Int.reduceToNat,Int.reduceLE,Int.reduceLT,X0,Sp_piece_Valid])
theorem ent_extent_Valid : Ent Try.prog 39:=⟨_,Try.func39,rfl,by decide⟩
def Sp_extent_End (ds : List D) (out : Out) : Prop:=∃ l : List Xt,ds = [.list (l.map eD)] ∧ l.length ≤ 1000000 ∧ (∀ e ∈ l,bdX e) ∧ out = ⟨.d (.v (.int .i64 (endX l))),[]⟩
theorem good_extent_End : Good Try.prog 47 Sp_extent_End:=by
  refine good_body (E:=X0) (nt:=18) (rs:=#[.tmp 2]) Try.func47 rfl rfl rfl ?_
  rintro ds out ⟨l,rfl,hl,hb,rfl⟩
  refine ⟨by simp,?_⟩
  have hbd:=endX_bd hl hb
  repeat' first
 | refine AW.seq ?_
 | refine AW.block ?_
 | refine AW.regl X0_ok [0,2,3,5,6,7,8,9] ?_
 | refine then_n ?_
 | refine then_r ?_
 | refine then_x ?_
 | refine block_x ?_
 | refine block_o (by decide) ?_
 | refine block_n ?_
 | refine block_r ?_
 | refine AW.skip ?_
 | refine AW.ret ?_
 | refine AW.exit ?_
 | refine AW.cond rfl ?_ ?_
 | refine awl_none rfl ?_
 | refine awl_nil2 ?_
 | (refine fun (hc : _ = _)=>?_;first|cases hc|((try rw [hc]);(try simp only [stH] at hc);(try (exfalso;omega)));(try (show Awl _ _ _ _ _;simp only [stU])))
 | ((first|refine fun (K : V → List _ → _) hK=>?_|refine fun (_ : V → V)=>?_);simp (maxSteps:=1000000) (disch:=omega) only [go_sem,Int.reduceEq,↓reduceIte,reduceCtorEq,Nat.reduceEqDiff,Nat.reduceLT,Nat.reduceLeDiff,Nat.reduceAdd,Nat.reduceSub,Nat.reduceMul,Int.reduceToNat,Int.reduceLE,Int.reduceLT,X0];(try (revert hK;intro hK;(repeat' first|(refine And.intro ?_ ?_)|(intro hc;first|cases hc|((try rw [hc]);(try simp only [stH] at hc);(try (exfalso;omega)))));all_goals first|(refine hK _ _ ?_;clear hK K;simp only [stU])|exact hK|omega)))
  refine AW.loop_wk (fun k : Nat=>⟨[(3,.d (.v (.int .i64 (endX (l.take k))))),(6,.d (.list (l.map eD))),(7,.d (.v (.int .i64 l.length))),(8,.d (.v (.int .i64 k)))],[],18⟩)
    (fun k=>k ≤ l.length) (fun k=>l.length - k) 0 (Nat.zero_le _) (fun w0 oa a w hs=>Wk.sr (ρ:=nm []) (Wk.of ?_) hs) ?_
  · have h0 : endX [] = 0:=rfl
    simp (maxSteps:=1000000) (disch:=omega) only [go_sem,Int.reduceEq,↓reduceIte,reduceCtorEq,Nat.reduceEqDiff,Nat.reduceLT,Nat.reduceLeDiff,Nat.reduceAdd,Nat.reduceSub,Nat.reduceMul,Int.reduceToNat,Int.reduceLE,Int.reduceLT,X0,h0]
  intro k hk
  by_cases hk1 : k < l.length
  · have e1:=nth_E l k hk1
    have e2:=hb _ (mem_getD hk1)
    have e3:=endX_take hk1
    have e4:=hbd k
    have e5:=hbd (k + 1)
    obtain ⟨s,hs⟩ : ∃ s,endX (l.take k) = s:=⟨_,rfl⟩
    obtain ⟨s',hs'⟩ : ∃ s,endX (l.take (k + 1)) = s:=⟨_,rfl⟩
    rw [hs] at e3 e4
    rw [hs'] at e3 e5
    generalize l.getD k x0 = e at *
    obtain ⟨f0,f1,f2,f3,f4⟩:=e
    unfold bdX at e2
    simp only at e2 e3
    clear hb hbd
    repeat' ((first
 | refine AW.seq ?_
 | refine AW.block ?_
 | refine AW.regl X0_ok [0,2,3,5,6,7,8,9] ?_
 | refine then_n ?_
 | refine then_r ?_
 | refine then_x ?_
 | refine block_x ?_
 | refine block_o (by decide) ?_
 | refine block_n ?_
 | refine block_r ?_
 | refine AW.skip ?_
 | refine AW.ret ?_
 | refine AW.exit ?_
 | refine AW.cond rfl ?_ ?_
 | refine awl_none rfl ?_
 | refine awl_nil2 ?_
 | (refine fun (hc : _ = _)=>?_;first|cases hc|((try rw [hc]);(try simp only [stH] at hc);(try (exfalso;omega)));(try (show Awl _ _ _ _ _;simp only [stU])))
 | ((first|refine fun (K : V → List _ → _) hK=>?_|refine fun (_ : V → V)=>?_);simp (maxSteps:=1000000) (disch:=omega) only [go_sem,Int.reduceEq,↓reduceIte,reduceCtorEq,Nat.reduceEqDiff,Nat.reduceLT,Nat.reduceLeDiff,Nat.reduceAdd,Nat.reduceSub,Nat.reduceMul,Int.reduceToNat,Int.reduceLE,Int.reduceLT,X0,hs,e1,all_E,eD,mI_eq];(try (revert hK;intro hK;(repeat' first|(refine And.intro ?_ ?_)|(intro hc;first|cases hc|((try rw [hc]);(try simp only [stH] at hc);(try (exfalso;omega)))));all_goals first|(refine hK _ _ ?_;clear hK K;simp only [stU])|exact hK|omega)))) <;> (fail_if_success (show False;skip)))
    refine ⟨k + 1,by omega,by omega,nm [],Wk.of ?_⟩
    simp (maxSteps:=1000000) (disch:=omega) only [go_sem,Int.reduceEq,↓reduceIte,reduceCtorEq,Nat.reduceEqDiff,Nat.reduceLT,Nat.reduceLeDiff,Nat.reduceAdd,Nat.reduceSub,Nat.reduceMul,Int.reduceToNat,Int.reduceLE,Int.reduceLT,X0,hs',e3]
    rfl
  · obtain rfl : k = l.length:=by omega
    repeat' ((first
 | refine AW.seq ?_
 | refine AW.block ?_
 | refine AW.regl X0_ok [0,2,3,5,6,7,8,9] ?_
 | refine then_n ?_
 | refine then_r ?_
 | refine then_x ?_
 | refine block_x ?_
 | refine block_o (by decide) ?_
 | refine block_n ?_
 | refine block_r ?_
 | refine AW.skip ?_
 | refine AW.ret ?_
 | refine AW.exit ?_
 | refine AW.cond rfl ?_ ?_
 | refine awl_none rfl ?_
 | refine awl_nil2 ?_
 | (refine fun (hc : _ = _)=>?_;first|cases hc|((try rw [hc]);(try simp only [stH] at hc);(try (exfalso;omega)));(try (show Awl _ _ _ _ _;simp only [stU])))
 | ((first|refine fun (K : V → List _ → _) hK=>?_|refine fun (_ : V → V)=>?_);simp (maxSteps:=1000000) (disch:=omega) only [go_sem,Int.reduceEq,↓reduceIte,reduceCtorEq,Nat.reduceEqDiff,Nat.reduceLT,Nat.reduceLeDiff,Nat.reduceAdd,Nat.reduceSub,Nat.reduceMul,Int.reduceToNat,Int.reduceLE,Int.reduceLT,X0,List.take_length];(try (revert hK;intro hK;(repeat' first|(refine And.intro ?_ ?_)|(intro hc;first|cases hc|((try rw [hc]);(try simp only [stH] at hc);(try (exfalso;omega)))));all_goals first|(refine hK _ _ ?_;clear hK K;simp only [stU])|exact hK|omega)))) <;> (fail_if_success (show False;skip)))
    all_goals (refine Ends.of (nm []) (by first|exact .inl rfl|exact .inr rfl) ?_;simp (maxSteps:=1000000) (disch:=omega) only [go_sem,Int.reduceEq,↓reduceIte,reduceCtorEq,Nat.reduceEqDiff,Nat.reduceLT,Nat.reduceLeDiff,Nat.reduceAdd,Nat.reduceSub,Nat.reduceMul,Int.reduceToNat,Int.reduceLE,Int.reduceLT,X0,List.take_length])
theorem ent_extent_End : Ent Try.prog 47:=⟨_,Try.func47,rfl,by decide⟩
def Sp_overdubref14_End (ds : List D) (out : Out) : Prop:=∃ l : List Xt,ds = [.list (l.map eD)] ∧ l.length ≤ 1000000 ∧ (∀ e ∈ l,bdX e) ∧ out = ⟨.d (.v (.int .i64 (endX l))),[]⟩
theorem good_overdubref14_End : Good Try.prog 35 Sp_overdubref14_End:=by
  refine good_body (E:=X0) (nt:=19) (rs:=#[.tmp 2]) Try.func35 rfl rfl rfl ?_
  rintro ds out ⟨l,rfl,hl,hb,rfl⟩
  refine ⟨by simp,?_⟩
  have hbd:=endX_bd hl hb
  repeat' first
 | refine AW.seq ?_
 | refine AW.block ?_
 | refine AW.regl X0_ok [0,2,3,4,6,7,8] ?_
 | refine then_n ?_
 | refine then_r ?_
 | refine then_x ?_
 | refine block_x ?_
 | refine block_o (by decide) ?_
 | refine block_n ?_
 | refine block_r ?_
 | refine AW.skip ?_
 | refine AW.ret ?_
 | refine AW.exit ?_
 | refine AW.cond rfl ?_ ?_
 | refine awl_none rfl ?_
 | refine awl_nil2 ?_
 | (refine fun (hc : _ = _)=>?_;first|cases hc|((try rw [hc]);(try simp only [stH] at hc);(try (exfalso;omega)));(try (show Awl _ _ _ _ _;simp only [stU])))
 | ((first|refine fun (K : V → List _ → _) hK=>?_|refine fun (_ : V → V)=>?_);simp (maxSteps:=1000000) (disch:=omega) only [go_sem,Int.reduceEq,↓reduceIte,reduceCtorEq,Nat.reduceEqDiff,Nat.reduceLT,Nat.reduceLeDiff,Nat.reduceAdd,Nat.reduceSub,Nat.reduceMul,Int.reduceToNat,Int.reduceLE,Int.reduceLT,X0];(try (revert hK;intro hK;(repeat' first|(refine And.intro ?_ ?_)|(intro hc;first|cases hc|((try rw [hc]);(try simp only [stH] at hc);(try (exfalso;omega)))));all_goals first|(refine hK _ _ ?_;clear hK K;simp only [stU])|exact hK|omega)))
  refine AW.loop_wk (fun k : Nat=>⟨[(0,.d (.list (l.map eD))),(3,.d (.v (.int .i64 (endX (l.take k))))),(6,.d (.v (.int .i64 l.length))),(7,.d (.v (.int .i64 k)))],[],19⟩)
    (fun k=>k ≤ l.length) (fun k=>l.length - k) 0 (Nat.zero_le _) (fun w0 oa a w hs=>Wk.sr (ρ:=nm []) (Wk.of ?_) hs) ?_
  · have h0 : endX [] = 0:=rfl
    simp (maxSteps:=1000000) (disch:=omega) only [go_sem,Int.reduceEq,↓reduceIte,reduceCtorEq,Nat.reduceEqDiff,Nat.reduceLT,Nat.reduceLeDiff,Nat.reduceAdd,Nat.reduceSub,Nat.reduceMul,Int.reduceToNat,Int.reduceLE,Int.reduceLT,X0,h0]
  intro k hk
  by_cases hk1 : k < l.length
  · have e1:=nth_E l k hk1
    have e2:=hb _ (mem_getD hk1)
    have e3:=endX_take hk1
    have e4:=hbd k
    have e5:=hbd (k + 1)
    obtain ⟨s,hs⟩ : ∃ s,endX (l.take k) = s:=⟨_,rfl⟩
    obtain ⟨s',hs'⟩ : ∃ s,endX (l.take (k + 1)) = s:=⟨_,rfl⟩
    rw [hs] at e3 e4
    rw [hs'] at e3 e5
    generalize l.getD k x0 = e at *
    obtain ⟨f0,f1,f2,f3,f4⟩:=e
    unfold bdX at e2
    simp only at e2 e3
    clear hb hbd
    repeat' ((first
 | refine AW.seq ?_
 | refine AW.block ?_
 | refine AW.regl X0_ok [0,2,3,4,6,7,8] ?_
 | refine then_n ?_
 | refine then_r ?_
 | refine then_x ?_
 | refine block_x ?_
 | refine block_o (by decide) ?_
 | refine block_n ?_
 | refine block_r ?_
 | refine AW.skip ?_
 | refine AW.ret ?_
 | refine AW.exit ?_
 | refine AW.cond rfl ?_ ?_
 | refine awl_none rfl ?_
 | refine awl_nil2 ?_
 | (refine fun (hc : _ = _)=>?_;first|cases hc|((try rw [hc]);(try simp only [stH] at hc);(try (exfalso;omega)));(try (show Awl _ _ _ _ _;simp only [stU])))
 | ((first|refine fun (K : V → List _ → _) hK=>?_|refine fun (_ : V → V)=>?_);simp (maxSteps:=1000000) (disch:=omega) only [go_sem,Int.reduceEq,↓reduceIte,reduceCtorEq,Nat.reduceEqDiff,Nat.reduceLT,Nat.reduceLeDiff,Nat.reduceAdd,Nat.reduceSub,Nat.reduceMul,Int.reduceToNat,Int.reduceLE,Int.reduceLT,X0,hs,e1,all_E,eD,mI_eq];(try (revert hK;intro hK;(repeat' first|(refine And.intro ?_ ?_)|(intro hc;first|cases hc|((try rw [hc]);(try simp only [stH] at hc);(try (exfalso;omega)))));all_goals first|(refine hK _ _ ?_;clear hK K;simp only [stU])|exact hK|omega)))) <;> (fail_if_success (show False;skip)))
    refine ⟨k + 1,by omega,by omega,nm [],Wk.of ?_⟩
    simp (maxSteps:=1000000) (disch:=omega) only [go_sem,Int.reduceEq,↓reduceIte,reduceCtorEq,Nat.reduceEqDiff,Nat.reduceLT,Nat.reduceLeDiff,Nat.reduceAdd,Nat.reduceSub,Nat.reduceMul,Int.reduceToNat,Int.reduceLE,Int.reduceLT,X0,hs',e3]
    rfl
  · obtain rfl : k = l.length:=by omega
    repeat' ((first
 | refine AW.seq ?_
 | refine AW.block ?_
 | refine AW.regl X0_ok [0,2,3,4,6,7,8] ?_
 | refine then_n ?_
 | refine then_r ?_
 | refine then_x ?_
 | refine block_x ?_
 | refine block_o (by decide) ?_
 | refine block_n ?_
 | refine block_r ?_
 | refine AW.skip ?_
 | refine AW.ret ?_
 | refine AW.exit ?_
 | refine AW.cond rfl ?_ ?_
 | refine awl_none rfl ?_
 | refine awl_nil2 ?_
 | (refine fun (hc : _ = _)=>?_;first|cases hc|((try rw [hc]);(try simp only [stH] at hc);(try (exfalso;omega)));(try (show Awl _ _ _ _ _;simp only [stU])))
 | ((first|refine fun (K : V → List _ → _) hK=>?_|refine fun (_ : V → V)=>?_);simp (maxSteps:=1000000) (disch:=omega) only [go_sem,Int.reduceEq,↓reduceIte,reduceCtorEq,Nat.reduceEqDiff,Nat.reduceLT,Nat.reduceLeDiff,Nat.reduceAdd,Nat.reduceSub,Nat.reduceMul,Int.reduceToNat,Int.reduceLE,Int.reduceLT,X0,List.take_length];(try (revert hK;intro hK;(repeat' first|(refine And.intro ?_ ?_)|(intro hc;first|cases hc|((try rw [hc]);(try simp only [stH] at hc);(try (exfalso;omega)))));all_goals first|(refine hK _ _ ?_;clear hK K;simp only [stU])|exact hK|omega)))) <;> (fail_if_success (show False;skip)))
    all_goals (refine Ends.of (nm []) (by first|exact .inl rfl|exact .inr rfl) ?_;simp (maxSteps:=1000000) (disch:=omega) only [go_sem,Int.reduceEq,↓reduceIte,reduceCtorEq,Nat.reduceEqDiff,Nat.reduceLT,Nat.reduceLeDiff,Nat.reduceAdd,Nat.reduceSub,Nat.reduceMul,Int.reduceToNat,Int.reduceLE,Int.reduceLT,X0,List.take_length])
theorem ent_overdubref14_End : Ent Try.prog 35:=⟨_,Try.func35,rfl,by decide⟩
theorem pcX_snoc (r : List Xt) (x : Xt) (y : Xt) : r.map eD ++ [eD y] = (r ++ [y]).map eD:=by simp
def Sp_extent_Cut (ds : List D) (out : Out) : Prop:=∃ (l : List Xt) (a b : Int),ds = [.list (l.map eD),.v (.int .i64 a),.v (.int .i64 b)] ∧ l.length ≤ 1000000 ∧ (∀ e ∈ l,bdX e) ∧ out = ⟨.sl 0 5 0 (cutX a b l).length true,[(0,.row 25 5 ((cutX a b l).map eD))]⟩
def bb_extent_Cut_5 : List Nat:=[0,1,0,7,0,16,0,64,240,0,1008,15,4095]
theorem good_extent_Cut : Good Try.prog 48 Sp_extent_Cut:=by
  refine good_body (E:=X0) (nt:=53) (rs:=#[.tmp 6]) Try.func48 rfl rfl rfl ?_
  rintro ds out ⟨l,a,b,rfl,hl,hb,rfl⟩
  refine ⟨by simp,?_⟩
  repeat' first
 | refine AW.seq ?_
 | refine AW.block ?_
 | refine AW.regl X0_ok [0,1,2,6,7,9,10,11,12,13,14,15,31] ?_
 | (refine AW.regq (id:=5) X0_ok follows bb_extent_Cut_5 (by kernel_rfl) [0,1,2,6,7,9,10,11,12,13,14,15,31] ?_)
 | refine then_n ?_
 | refine then_r ?_
 | refine then_x ?_
 | refine block_x ?_
 | refine block_o (by decide) ?_
 | refine block_n ?_
 | refine block_r ?_
 | refine AW.skip ?_
 | refine AW.ret ?_
 | refine AW.exit ?_
 | refine AW.cond rfl ?_ ?_
 | refine awl_none rfl ?_
 | refine awl_nil2 ?_
 | refine awc_none rfl ?_
 | refine awc_nilq (by kernel_rfl) (by kernel_rfl) ?_
 | (refine fun (hc : _ = _)=>?_;first|cases hc|((try rw [hc]);(try simp only [stH] at hc);(try (exfalso;omega)));(try ((first|show Awl _ _ _ _ _|show Awc _ _ _ _ _ _);simp only [stU])))
 | ((first|refine fun (K : V → List _ → _) hK=>?_|refine fun (_ : V → V)=>?_);simp (maxSteps:=1000000) (disch:=omega) only [go_sem,Int.reduceEq,↓reduceIte,reduceCtorEq,Nat.reduceEqDiff,Nat.reduceLT,Nat.reduceLeDiff,Nat.reduceAdd,Nat.reduceSub,Nat.reduceMul,Int.reduceToNat,Int.reduceLE,Int.reduceLT,X0,Sg3,St.updIf,ifc_nil,gt_ifc,go_ifc,ite_self,Option.none_or,Option.some_or];(try (revert hK;intro hK;(repeat' first|(refine And.intro ?_ ?_)|(intro hc;first|cases hc|((try rw [hc]);(try simp only [stH] at hc);(try (exfalso;omega)))));all_goals first|(refine hK _ _ ?_;clear hK K;simp only [stU])|exact hK|omega)))
  refine AW.loop_wk (fun k : Nat=>⟨[(1,.d (.v (.int .i64 a))),(2,.d (.v (.int .i64 b))),(7,.sl 100 5 0 (cutX a b (l.take k)).length true),(12,.d (.list (l.map eD))),(13,.d (.v (.int .i64 l.length))),(14,.d (.v (.int .i64 k)))],[(100,.row 25 5 ((cutX a b (l.take k)).map eD))],53⟩)
    (fun k=>k ≤ l.length) (fun k=>l.length - k) 0 (Nat.zero_le _) (fun w0 oa aa w hs=>Wk.sr (ρ:=nm []) (Wk.of ?_) (nil_sr 7 100 25 5 rfl (by simp) rfl (by decide) hs)) ?_
  · have h0 : cutX a b [] = []:=rfl
    simp (maxSteps:=1000000) (disch:=omega) only [go_sem,Int.reduceEq,↓reduceIte,reduceCtorEq,Nat.reduceEqDiff,Nat.reduceLT,Nat.reduceLeDiff,Nat.reduceAdd,Nat.reduceSub,Nat.reduceMul,Int.reduceToNat,Int.reduceLE,Int.reduceLT,X0,h0]
  intro k hk
  have hcl:=cutX_len a b (l.take k)
  rw [List.length_take,Nat.min_eq_left hk] at hcl
  by_cases hk1 : k < l.length
  · have e1:=nth_E l k hk1
    have e2:=hb _ (mem_getD hk1)
    have e3:=cutX_take (a:=a) (b:=b) hk1
    obtain ⟨R,hR⟩ : ∃ R,cutX a b (l.take k) = R:=⟨_,rfl⟩
    rw [hR] at e3 hcl
    generalize l.getD k x0 = e at *
    obtain ⟨f0,f1,f2,f3,f4⟩:=e
    unfold bdX at e2
    simp only at e2
    clear hb
    have hw : IntKind.i64.wrap (f0 + f4) = f0 + f4:=wrap_id _ (by omega) (by omega)
    obtain ⟨p,hp⟩ : ∃ p,max f0 a = p:=⟨_,rfl⟩
    obtain ⟨q,hq⟩ : ∃ q,min (f0 + f4) b = q:=⟨_,rfl⟩
    by_cases hc : p < q
    · have e4 : pcX a b ⟨f0,f1,f2,f3,f4⟩ = [⟨p,f1,f2,f3 + p - f0,q - p⟩]:=by unfold pcX;simp only [hp,hq];rw [if_pos hc]
      have e5 : R.map eD ++ [D.agg [.v (.int .i64 p),.v (.int .i64 f1),.v (.int .i64 f2),.v (.int .i64 (f3 + p - f0)),.v (.int .i64 (q - p))]] = (R ++ [Xt.mk p f1 f2 (f3 + p - f0) (q - p)]).map eD:=by simp [eD,mI]
      have hpq : f0 ≤ p ∧ q ≤ f0 + f4:=by omega
      rw [e4] at e3
      have e6 : (R ++ [Xt.mk p f1 f2 (f3 + p - f0) (q - p)]).length = R.length + 1:=by simp
      repeat' ((first
 | refine AW.seq ?_
 | refine AW.block ?_
 | refine AW.regl X0_ok [0,1,2,6,7,9,10,11,12,13,14,15,31] ?_
 | (refine AW.regq (id:=5) X0_ok follows bb_extent_Cut_5 (by kernel_rfl) [0,1,2,6,7,9,10,11,12,13,14,15,31] ?_)
 | refine then_n ?_
 | refine then_r ?_
 | refine then_x ?_
 | refine block_x ?_
 | refine block_o (by decide) ?_
 | refine block_n ?_
 | refine block_r ?_
 | refine AW.skip ?_
 | refine AW.ret ?_
 | refine AW.exit ?_
 | refine AW.cond rfl ?_ ?_
 | refine awl_none rfl ?_
 | refine awl_nil2 ?_
 | refine awc_none rfl ?_
 | refine awc_nilq (by kernel_rfl) (by kernel_rfl) ?_
 | (refine fun (hc : _ = _)=>?_;first|cases hc|((try rw [hc]);(try simp only [stH] at hc);(try (exfalso;omega)));(try ((first|show Awl _ _ _ _ _|show Awc _ _ _ _ _ _);simp only [stU])))
 | ((first|refine fun (K : V → List _ → _) hK=>?_|refine fun (_ : V → V)=>?_);simp (maxSteps:=1000000) (disch:=omega) only [go_sem,Int.reduceEq,↓reduceIte,reduceCtorEq,Nat.reduceEqDiff,Nat.reduceLT,Nat.reduceLeDiff,Nat.reduceAdd,Nat.reduceSub,Nat.reduceMul,Int.reduceToNat,Int.reduceLE,Int.reduceLT,X0,hR,e1,e5,hp,hq,hw,all_E,eD,mI_eq,Sg3,St.updIf,ifc_nil,gt_ifc,go_ifc,ite_self,Option.none_or,Option.some_or];(try (revert hK;intro hK;(repeat' first|(refine And.intro ?_ ?_)|(intro hc;first|cases hc|((try rw [hc]);(try simp only [stH] at hc);(try (exfalso;omega)))));all_goals first|(refine hK _ _ ?_;clear hK K;simp only [stU])|exact hK|omega)))) <;> (fail_if_success (show False;skip)))
      refine ⟨k + 1,by omega,by omega,nm [(100,50)],Wk.of ?_⟩
      simp (maxSteps:=1000000) (disch:=omega) only [go_sem,Int.reduceEq,↓reduceIte,reduceCtorEq,Nat.reduceEqDiff,Nat.reduceLT,Nat.reduceLeDiff,Nat.reduceAdd,Nat.reduceSub,Nat.reduceMul,Int.reduceToNat,Int.reduceLE,Int.reduceLT,X0,e3,e6]
      rfl
    · have e4 : pcX a b ⟨f0,f1,f2,f3,f4⟩ = []:=by unfold pcX;simp only [hp,hq];rw [if_neg hc]
      rw [e4,List.append_nil] at e3
      repeat' ((first
 | refine AW.seq ?_
 | refine AW.block ?_
 | refine AW.regl X0_ok [0,1,2,6,7,9,10,11,12,13,14,15,31] ?_
 | (refine AW.regq (id:=5) X0_ok follows bb_extent_Cut_5 (by kernel_rfl) [0,1,2,6,7,9,10,11,12,13,14,15,31] ?_)
 | refine then_n ?_
 | refine then_r ?_
 | refine then_x ?_
 | refine block_x ?_
 | refine block_o (by decide) ?_
 | refine block_n ?_
 | refine block_r ?_
 | refine AW.skip ?_
 | refine AW.ret ?_
 | refine AW.exit ?_
 | refine AW.cond rfl ?_ ?_
 | refine awl_none rfl ?_
 | refine awl_nil2 ?_
 | refine awc_none rfl ?_
 | refine awc_nilq (by kernel_rfl) (by kernel_rfl) ?_
 | (refine fun (hc : _ = _)=>?_;first|cases hc|((try rw [hc]);(try simp only [stH] at hc);(try (exfalso;omega)));(try ((first|show Awl _ _ _ _ _|show Awc _ _ _ _ _ _);simp only [stU])))
 | ((first|refine fun (K : V → List _ → _) hK=>?_|refine fun (_ : V → V)=>?_);simp (maxSteps:=1000000) (disch:=omega) only [go_sem,Int.reduceEq,↓reduceIte,reduceCtorEq,Nat.reduceEqDiff,Nat.reduceLT,Nat.reduceLeDiff,Nat.reduceAdd,Nat.reduceSub,Nat.reduceMul,Int.reduceToNat,Int.reduceLE,Int.reduceLT,X0,hR,e1,hp,hq,hw,all_E,eD,mI_eq,Sg3,St.updIf,ifc_nil,gt_ifc,go_ifc,ite_self,Option.none_or,Option.some_or];(try (revert hK;intro hK;(repeat' first|(refine And.intro ?_ ?_)|(intro hc;first|cases hc|((try rw [hc]);(try simp only [stH] at hc);(try (exfalso;omega)))));all_goals first|(refine hK _ _ ?_;clear hK K;simp only [stU])|exact hK|omega)))) <;> (fail_if_success (show False;skip)))
      refine ⟨k + 1,by omega,by omega,nm [(100,100)],Wk.of ?_⟩
      simp (maxSteps:=1000000) (disch:=omega) only [go_sem,Int.reduceEq,↓reduceIte,reduceCtorEq,Nat.reduceEqDiff,Nat.reduceLT,Nat.reduceLeDiff,Nat.reduceAdd,Nat.reduceSub,Nat.reduceMul,Int.reduceToNat,Int.reduceLE,Int.reduceLT,X0,e3]
      rfl
  · obtain rfl : k = l.length:=by omega
    repeat' ((first
 | refine AW.seq ?_
 | refine AW.block ?_
 | refine AW.regl X0_ok [0,1,2,6,7,9,10,11,12,13,14,15,31] ?_
 | (refine AW.regq (id:=5) X0_ok follows bb_extent_Cut_5 (by kernel_rfl) [0,1,2,6,7,9,10,11,12,13,14,15,31] ?_)
 | refine then_n ?_
 | refine then_r ?_
 | refine then_x ?_
 | refine block_x ?_
 | refine block_o (by decide) ?_
 | refine block_n ?_
 | refine block_r ?_
 | refine AW.skip ?_
 | refine AW.ret ?_
 | refine AW.exit ?_
 | refine AW.cond rfl ?_ ?_
 | refine awl_none rfl ?_
 | refine awl_nil2 ?_
 | refine awc_none rfl ?_
 | refine awc_nilq (by kernel_rfl) (by kernel_rfl) ?_
 | (refine fun (hc : _ = _)=>?_;first|cases hc|((try rw [hc]);(try simp only [stH] at hc);(try (exfalso;omega)));(try ((first|show Awl _ _ _ _ _|show Awc _ _ _ _ _ _);simp only [stU])))
 | ((first|refine fun (K : V → List _ → _) hK=>?_|refine fun (_ : V → V)=>?_);simp (maxSteps:=1000000) (disch:=omega) only [go_sem,Int.reduceEq,↓reduceIte,reduceCtorEq,Nat.reduceEqDiff,Nat.reduceLT,Nat.reduceLeDiff,Nat.reduceAdd,Nat.reduceSub,Nat.reduceMul,Int.reduceToNat,Int.reduceLE,Int.reduceLT,X0,List.take_length,Sg3,St.updIf,ifc_nil,gt_ifc,go_ifc,ite_self,Option.none_or,Option.some_or];(try (revert hK;intro hK;(repeat' first|(refine And.intro ?_ ?_)|(intro hc;first|cases hc|((try rw [hc]);(try simp only [stH] at hc);(try (exfalso;omega)))));all_goals first|(refine hK _ _ ?_;clear hK K;simp only [stU])|exact hK|omega)))) <;> (fail_if_success (show False;skip)))
    all_goals (refine Ends.of (nm [(0,100)]) (by first|exact .inl rfl|exact .inr rfl) ?_;simp (maxSteps:=1000000) (disch:=omega) only [go_sem,Int.reduceEq,↓reduceIte,reduceCtorEq,Nat.reduceEqDiff,Nat.reduceLT,Nat.reduceLeDiff,Nat.reduceAdd,Nat.reduceSub,Nat.reduceMul,Int.reduceToNat,Int.reduceLE,Int.reduceLT,X0,List.take_length])
theorem ent_extent_Cut : Ent Try.prog 48:=⟨_,Try.func48,rfl,by decide⟩
noncomputable def X1 : Env:=⟨Try.prog,fun f ds out=>(f = 35 ∧ Sp_overdubref14_End ds out),Es,fun _=>false,fun f vs lent out=>False,fun f=>none,fun f=>false,false,fun f=>none⟩
theorem X1_sp : ∀ f ds out,X1.Sp f ds out → Ent X1.P f ∧ Good X1.P f (fun a b=>a = ds ∧ b = out):=by
  rintro f ds out ⟨rfl,h⟩
  exact ⟨ent_overdubref14_End,good_overdubref14_End.one h⟩
theorem X1_sm : ∀ f vs lent out,X1.Sm f vs lent out → Ent X1.P f ∧ GoodM X1.P f (fun a l b=>a = vs ∧ l = lent ∧ b = out):=fun _ _ _ _ h=>h.elim
theorem X1_at : ∀ f k,X1.At f = some k → AtomOk X1.P f k:=fun _ _ h=>nomatch h
theorem X1_ok : X1.Ok:=⟨X1_sp,Es_ok,X1_sm,X1_at⟩
def Sp_overdubref14_Cut (ds : List D) (out : Out) : Prop:=∃ (l : List Xt) (a b : Int),ds = [.list (l.map eD),.v (.int .i64 a),.v (.int .i64 b)] ∧ l.length ≤ 1000000 ∧ (∀ e ∈ l,bdX e) ∧ out = ⟨.sl 0 5 0 (cutX (max a 0) (min b (endX l)) l).length true,[(0,.row 25 5 ((cutX (max a 0) (min b (endX l)) l).map eD))]⟩
def bb_overdubref14_Cut_7 : List Nat:=[0,0,2,7,0,0,32,0,128,480,1008,15,4095]
theorem good_overdubref14_Cut : Good Try.prog 38 Sp_overdubref14_Cut:=by
  refine good_body (E:=X1) (nt:=62) (rs:=#[.tmp 6]) Try.func38 rfl rfl rfl ?_
  rintro ds out ⟨l,a0,b0,rfl,hl,hb,rfl⟩
  refine ⟨by simp,?_⟩
  have hbt : (∀ e ∈ l,bdX e) = True:=eq_true hb
  repeat' ((first
 | refine AW.seq ?_
 | refine AW.block ?_
 | refine AW.regl X1_ok [0,1,2,6,7,8,9,10,11,19,20,21,40] ?_
 | (refine AW.regq (id:=7) X1_ok follows bb_overdubref14_Cut_7 (by kernel_rfl) [0,1,2,6,7,8,9,10,11,19,20,21,40] ?_)
 | refine then_n ?_
 | refine then_r ?_
 | refine then_x ?_
 | refine block_x ?_
 | refine block_o (by decide) ?_
 | refine block_n ?_
 | refine block_r ?_
 | refine AW.skip ?_
 | refine AW.ret ?_
 | refine AW.exit ?_
 | refine AW.cond rfl ?_ ?_
 | refine awl_none rfl ?_
 | refine awl_nil2 ?_
 | refine awc_none rfl ?_
 | refine awc_nilq (by kernel_rfl) (by kernel_rfl) ?_
 | (refine fun (hc : _ = _)=>?_;first|cases hc|((try rw [hc]);(try simp only [stH] at hc);(try (exfalso;omega)));(try ((first|show Awl _ _ _ _ _|show Awc _ _ _ _ _ _);simp only [stU])))
 | ((first|refine fun (K : V → List _ → _) hK=>?_|refine fun (_ : V → V)=>?_);simp (maxSteps:=1000000) (disch:=omega) only [go_sem,Int.reduceEq,↓reduceIte,reduceCtorEq,Nat.reduceEqDiff,Nat.reduceLT,Nat.reduceLeDiff,Nat.reduceAdd,Nat.reduceSub,Nat.reduceMul,Int.reduceToNat,Int.reduceLE,Int.reduceLT,X1,Sp_overdubref14_End,hbt,eD_inj,Sg3,St.updIf,ifc_nil,gt_ifc,go_ifc,ite_self,Option.none_or,Option.some_or];(try (revert hK;intro hK;(repeat' first|(refine And.intro ?_ ?_)|(intro hc;first|cases hc|((try rw [hc]);(try simp only [stH] at hc);(try (exfalso;omega)))));all_goals first|(refine hK _ _ ?_;clear hK K;simp only [stU])|exact hK|omega)))) <;> (fail_if_success (show False;skip)))
  generalize max a0 0 = a at *
  generalize min b0 (endX l) = b at *
  refine AW.loop_wk (fun k : Nat=>⟨[(0,.d (.list (l.map eD))),(1,.d (.v (.int .i64 a))),(2,.d (.v (.int .i64 b))),(7,.sl 100 5 0 (cutX a b (l.take k)).length true),(19,.d (.v (.int .i64 l.length))),(20,.d (.v (.int .i64 k)))],[(100,.row 25 5 ((cutX a b (l.take k)).map eD))],62⟩)
    (fun k=>k ≤ l.length) (fun k=>l.length - k) 0 (Nat.zero_le _) (fun w0 oa aa w hs=>Wk.sr (ρ:=nm []) (Wk.of ?_) (nil_sr 7 100 25 5 rfl (by simp) rfl (by decide) hs)) ?_
  · have h0 : cutX a b [] = []:=rfl
    simp (maxSteps:=1000000) (disch:=omega) only [go_sem,Int.reduceEq,↓reduceIte,reduceCtorEq,Nat.reduceEqDiff,Nat.reduceLT,Nat.reduceLeDiff,Nat.reduceAdd,Nat.reduceSub,Nat.reduceMul,Int.reduceToNat,Int.reduceLE,Int.reduceLT,X1,Sp_overdubref14_End,h0]
  intro k hk
  have hcl:=cutX_len a b (l.take k)
  rw [List.length_take,Nat.min_eq_left hk] at hcl
  by_cases hk1 : k < l.length
  · have e1:=nth_E l k hk1
    have e2:=hb _ (mem_getD hk1)
    have e3:=cutX_take (a:=a) (b:=b) hk1
    obtain ⟨R,hR⟩ : ∃ R,cutX a b (l.take k) = R:=⟨_,rfl⟩
    rw [hR] at e3 hcl
    generalize l.getD k x0 = e at *
    obtain ⟨f0,f1,f2,f3,f4⟩:=e
    unfold bdX at e2
    simp only at e2
    clear hb hbt
    have hw : IntKind.i64.wrap (f0 + f4) = f0 + f4:=wrap_id _ (by omega) (by omega)
    obtain ⟨p,hp⟩ : ∃ p,max a f0 = p:=⟨_,rfl⟩
    obtain ⟨q,hq⟩ : ∃ q,min b (f0 + f4) = q:=⟨_,rfl⟩
    have hp2 : max f0 a = p:=by omega
    have hq2 : min (f0 + f4) b = q:=by omega
    by_cases hc : p < q
    · have e4 : pcX a b ⟨f0,f1,f2,f3,f4⟩ = [⟨p,f1,f2,f3 + p - f0,q - p⟩]:=by unfold pcX;simp only [hp2,hq2];rw [if_pos hc]
      have e5 : R.map eD ++ [D.agg [.v (.int .i64 p),.v (.int .i64 f1),.v (.int .i64 f2),.v (.int .i64 (f3 + p - f0)),.v (.int .i64 (q - p))]] = (R ++ [Xt.mk p f1 f2 (f3 + p - f0) (q - p)]).map eD:=by simp [eD,mI]
      have hpq : f0 ≤ p ∧ q ≤ f0 + f4:=by omega
      rw [e4] at e3
      have e6 : (R ++ [Xt.mk p f1 f2 (f3 + p - f0) (q - p)]).length = R.length + 1:=by simp
      repeat' ((first
 | refine AW.seq ?_
 | refine AW.block ?_
 | refine AW.regl X1_ok [0,1,2,6,7,8,9,10,11,19,20,21,40] ?_
 | (refine AW.regq (id:=7) X1_ok follows bb_overdubref14_Cut_7 (by kernel_rfl) [0,1,2,6,7,8,9,10,11,19,20,21,40] ?_)
 | refine then_n ?_
 | refine then_r ?_
 | refine then_x ?_
 | refine block_x ?_
 | refine block_o (by decide) ?_
 | refine block_n ?_
 | refine block_r ?_
 | refine AW.skip ?_
 | refine AW.ret ?_
 | refine AW.exit ?_
 | refine AW.cond rfl ?_ ?_
 | refine awl_none rfl ?_
 | refine awl_nil2 ?_
 | refine awc_none rfl ?_
 | refine awc_nilq (by kernel_rfl) (by kernel_rfl) ?_
 | (refine fun (hc : _ = _)=>?_;first|cases hc|((try rw [hc]);(try simp only [stH] at hc);(try (exfalso;omega)));(try ((first|show Awl _ _ _ _ _|show Awc _ _ _ _ _ _);simp only [stU])))
 | ((first|refine fun (K : V → List _ → _) hK=>?_|refine fun (_ : V → V)=>?_);simp (maxSteps:=1000000) (disch:=omega) only [go_sem,Int.reduceEq,↓reduceIte,reduceCtorEq,Nat.reduceEqDiff,Nat.reduceLT,Nat.reduceLeDiff,Nat.reduceAdd,Nat.reduceSub,Nat.reduceMul,Int.reduceToNat,Int.reduceLE,Int.reduceLT,X1,Sp_overdubref14_End,hR,e1,e5,hp,hq,hw,all_E,eD,mI_eq,Sg3,St.updIf,ifc_nil,gt_ifc,go_ifc,ite_self,Option.none_or,Option.some_or];(try (revert hK;intro hK;(repeat' first|(refine And.intro ?_ ?_)|(intro hc;first|cases hc|((try rw [hc]);(try simp only [stH] at hc);(try (exfalso;omega)))));all_goals first|(refine hK _ _ ?_;clear hK K;simp only [stU])|exact hK|omega)))) <;> (fail_if_success (show False;skip)))
      refine ⟨k + 1,by omega,by omega,nm [(100,59)],Wk.of ?_⟩
      simp (maxSteps:=1000000) (disch:=omega) only [go_sem,Int.reduceEq,↓reduceIte,reduceCtorEq,Nat.reduceEqDiff,Nat.reduceLT,Nat.reduceLeDiff,Nat.reduceAdd,Nat.reduceSub,Nat.reduceMul,Int.reduceToNat,Int.reduceLE,Int.reduceLT,X1,Sp_overdubref14_End,e3,e6]
      rfl
    · have e4 : pcX a b ⟨f0,f1,f2,f3,f4⟩ = []:=by unfold pcX;simp only [hp2,hq2];rw [if_neg hc]
      rw [e4,List.append_nil] at e3
      repeat' ((first
 | refine AW.seq ?_
 | refine AW.block ?_
 | refine AW.regl X1_ok [0,1,2,6,7,8,9,10,11,19,20,21,40] ?_
 | (refine AW.regq (id:=7) X1_ok follows bb_overdubref14_Cut_7 (by kernel_rfl) [0,1,2,6,7,8,9,10,11,19,20,21,40] ?_)
 | refine then_n ?_
 | refine then_r ?_
 | refine then_x ?_
 | refine block_x ?_
 | refine block_o (by decide) ?_
 | refine block_n ?_
 | refine block_r ?_
 | refine AW.skip ?_
 | refine AW.ret ?_
 | refine AW.exit ?_
 | refine AW.cond rfl ?_ ?_
 | refine awl_none rfl ?_
 | refine awl_nil2 ?_
 | refine awc_none rfl ?_
 | refine awc_nilq (by kernel_rfl) (by kernel_rfl) ?_
 | (refine fun (hc : _ = _)=>?_;first|cases hc|((try rw [hc]);(try simp only [stH] at hc);(try (exfalso;omega)));(try ((first|show Awl _ _ _ _ _|show Awc _ _ _ _ _ _);simp only [stU])))
 | ((first|refine fun (K : V → List _ → _) hK=>?_|refine fun (_ : V → V)=>?_);simp (maxSteps:=1000000) (disch:=omega) only [go_sem,Int.reduceEq,↓reduceIte,reduceCtorEq,Nat.reduceEqDiff,Nat.reduceLT,Nat.reduceLeDiff,Nat.reduceAdd,Nat.reduceSub,Nat.reduceMul,Int.reduceToNat,Int.reduceLE,Int.reduceLT,X1,Sp_overdubref14_End,hR,e1,hp,hq,hw,all_E,eD,mI_eq,Sg3,St.updIf,ifc_nil,gt_ifc,go_ifc,ite_self,Option.none_or,Option.some_or];(try (revert hK;intro hK;(repeat' first|(refine And.intro ?_ ?_)|(intro hc;first|cases hc|((try rw [hc]);(try simp only [stH] at hc);(try (exfalso;omega)))));all_goals first|(refine hK _ _ ?_;clear hK K;simp only [stU])|exact hK|omega)))) <;> (fail_if_success (show False;skip)))
      refine ⟨k + 1,by omega,by omega,nm [(100,100)],Wk.of ?_⟩
      simp (maxSteps:=1000000) (disch:=omega) only [go_sem,Int.reduceEq,↓reduceIte,reduceCtorEq,Nat.reduceEqDiff,Nat.reduceLT,Nat.reduceLeDiff,Nat.reduceAdd,Nat.reduceSub,Nat.reduceMul,Int.reduceToNat,Int.reduceLE,Int.reduceLT,X1,Sp_overdubref14_End,e3]
      rfl
  · obtain rfl : k = l.length:=by omega
    repeat' ((first
 | refine AW.seq ?_
 | refine AW.block ?_
 | refine AW.regl X1_ok [0,1,2,6,7,8,9,10,11,19,20,21,40] ?_
 | (refine AW.regq (id:=7) X1_ok follows bb_overdubref14_Cut_7 (by kernel_rfl) [0,1,2,6,7,8,9,10,11,19,20,21,40] ?_)
 | refine then_n ?_
 | refine then_r ?_
 | refine then_x ?_
 | refine block_x ?_
 | refine block_o (by decide) ?_
 | refine block_n ?_
 | refine block_r ?_
 | refine AW.skip ?_
 | refine AW.ret ?_
 | refine AW.exit ?_
 | refine AW.cond rfl ?_ ?_
 | refine awl_none rfl ?_
 | refine awl_nil2 ?_
 | refine awc_none rfl ?_
 | refine awc_nilq (by kernel_rfl) (by kernel_rfl) ?_
 | (refine fun (hc : _ = _)=>?_;first|cases hc|((try rw [hc]);(try simp only [stH] at hc);(try (exfalso;omega)));(try ((first|show Awl _ _ _ _ _|show Awc _ _ _ _ _ _);simp only [stU])))
 | ((first|refine fun (K : V → List _ → _) hK=>?_|refine fun (_ : V → V)=>?_);simp (maxSteps:=1000000) (disch:=omega) only [go_sem,Int.reduceEq,↓reduceIte,reduceCtorEq,Nat.reduceEqDiff,Nat.reduceLT,Nat.reduceLeDiff,Nat.reduceAdd,Nat.reduceSub,Nat.reduceMul,Int.reduceToNat,Int.reduceLE,Int.reduceLT,X1,Sp_overdubref14_End,List.take_length,Sg3,St.updIf,ifc_nil,gt_ifc,go_ifc,ite_self,Option.none_or,Option.some_or];(try (revert hK;intro hK;(repeat' first|(refine And.intro ?_ ?_)|(intro hc;first|cases hc|((try rw [hc]);(try simp only [stH] at hc);(try (exfalso;omega)))));all_goals first|(refine hK _ _ ?_;clear hK K;simp only [stU])|exact hK|omega)))) <;> (fail_if_success (show False;skip)))
    all_goals (refine Ends.of (nm [(0,100)]) (by first|exact .inl rfl|exact .inr rfl) ?_;simp (maxSteps:=1000000) (disch:=omega) only [go_sem,Int.reduceEq,↓reduceIte,reduceCtorEq,Nat.reduceEqDiff,Nat.reduceLT,Nat.reduceLeDiff,Nat.reduceAdd,Nat.reduceSub,Nat.reduceMul,Int.reduceToNat,Int.reduceLE,Int.reduceLT,X1,Sp_overdubref14_End,List.take_length])
theorem ent_overdubref14_Cut : Ent Try.prog 38:=⟨_,Try.func38,rfl,by decide⟩
def Sp_extent_Shift (ds : List D) (out : Out) : Prop:=∃ (l : List Xt) (d : Int),ds = [.list (l.map eD),.v (.int .i64 d)] ∧ l.length ≤ 1000000 ∧ (∀ e ∈ l,bdX e) ∧ (-100000 ≤ d ∧ d ≤ 100000) ∧ out = ⟨.sl 0 5 0 (shX d l).length true,[(0,.row 25 5 ((shX d l).map eD))]⟩
theorem good_extent_Shift : Good Try.prog 56 Sp_extent_Shift:=by
  refine good_body (E:=X0) (nt:=25) (rs:=#[.tmp 4]) Try.func56 rfl rfl rfl ?_
  rintro ds out ⟨l,d,rfl,hl,hb,hd,rfl⟩
  refine ⟨by simp,?_⟩
  repeat' first
 | refine AW.seq ?_
 | refine AW.block ?_
 | refine AW.regl X0_ok [0,1,4,5,7,8,9,10,11] ?_
 | refine then_n ?_
 | refine then_r ?_
 | refine then_x ?_
 | refine block_x ?_
 | refine block_o (by decide) ?_
 | refine block_n ?_
 | refine block_r ?_
 | refine AW.skip ?_
 | refine AW.ret ?_
 | refine AW.exit ?_
 | refine AW.cond rfl ?_ ?_
 | refine awl_none rfl ?_
 | refine awl_nil2 ?_
 | (refine fun (hc : _ = _)=>?_;first|cases hc|((try rw [hc]);(try simp only [stH] at hc);(try (exfalso;omega)));(try (show Awl _ _ _ _ _;simp only [stU])))
 | ((first|refine fun (K : V → List _ → _) hK=>?_|refine fun (_ : V → V)=>?_);simp (maxSteps:=1000000) (disch:=omega) only [go_sem,Int.reduceEq,↓reduceIte,reduceCtorEq,Nat.reduceEqDiff,Nat.reduceLT,Nat.reduceLeDiff,Nat.reduceAdd,Nat.reduceSub,Nat.reduceMul,Int.reduceToNat,Int.reduceLE,Int.reduceLT,X0];(try (revert hK;intro hK;(repeat' first|(refine And.intro ?_ ?_)|(intro hc;first|cases hc|((try rw [hc]);(try simp only [stH] at hc);(try (exfalso;omega)))));all_goals first|(refine hK _ _ ?_;clear hK K;simp only [stU])|exact hK|omega)))
  refine AW.loop_wk (fun k : Nat=>⟨[(1,.d (.v (.int .i64 d))),(5,.sl 100 5 0 (shX d (l.take k)).length true),(8,.d (.list (l.map eD))),(9,.d (.v (.int .i64 l.length))),(10,.d (.v (.int .i64 k)))],[(100,.row 25 5 ((shX d (l.take k)).map eD))],25⟩)
    (fun k=>k ≤ l.length) (fun k=>l.length - k) 0 (Nat.zero_le _) (fun w0 oa a w hs=>Wk.sr (ρ:=nm []) (Wk.of ?_) (nil_sr 5 100 25 5 rfl (by simp) rfl (by decide) hs)) ?_
  · have h0 : shX d [] = []:=rfl
    simp (maxSteps:=1000000) (disch:=omega) only [go_sem,Int.reduceEq,↓reduceIte,reduceCtorEq,Nat.reduceEqDiff,Nat.reduceLT,Nat.reduceLeDiff,Nat.reduceAdd,Nat.reduceSub,Nat.reduceMul,Int.reduceToNat,Int.reduceLE,Int.reduceLT,X0,h0]
  intro k hk
  have hcl:=shX_len d (l.take k)
  rw [List.length_take,Nat.min_eq_left hk] at hcl
  by_cases hk1 : k < l.length
  · have e1:=nth_E l k hk1
    have e2:=hb _ (mem_getD hk1)
    have e3:=shX_take (d:=d) hk1
    obtain ⟨R,hR⟩ : ∃ R,shX d (l.take k) = R:=⟨_,rfl⟩
    rw [hR] at e3 hcl
    generalize l.getD k x0 = e at *
    obtain ⟨f0,f1,f2,f3,f4⟩:=e
    unfold bdX at e2
    simp only at e2 e3
    clear hb
    have e5 : R.map eD ++ [D.agg [.v (.int .i64 (f0 + d)),.v (.int .i64 f1),.v (.int .i64 f2),.v (.int .i64 f3),.v (.int .i64 f4)]] = (R ++ [Xt.mk (f0 + d) f1 f2 f3 f4]).map eD:=by simp [eD,mI]
    have e6 : (R ++ [Xt.mk (f0 + d) f1 f2 f3 f4]).length = R.length + 1:=by simp
    repeat' ((first
 | refine AW.seq ?_
 | refine AW.block ?_
 | refine AW.regl X0_ok [0,1,4,5,7,8,9,10,11] ?_
 | refine then_n ?_
 | refine then_r ?_
 | refine then_x ?_
 | refine block_x ?_
 | refine block_o (by decide) ?_
 | refine block_n ?_
 | refine block_r ?_
 | refine AW.skip ?_
 | refine AW.ret ?_
 | refine AW.exit ?_
 | refine AW.cond rfl ?_ ?_
 | refine awl_none rfl ?_
 | refine awl_nil2 ?_
 | (refine fun (hc : _ = _)=>?_;first|cases hc|((try rw [hc]);(try simp only [stH] at hc);(try (exfalso;omega)));(try (show Awl _ _ _ _ _;simp only [stU])))
 | ((first|refine fun (K : V → List _ → _) hK=>?_|refine fun (_ : V → V)=>?_);simp (maxSteps:=1000000) (disch:=omega) only [go_sem,Int.reduceEq,↓reduceIte,reduceCtorEq,Nat.reduceEqDiff,Nat.reduceLT,Nat.reduceLeDiff,Nat.reduceAdd,Nat.reduceSub,Nat.reduceMul,Int.reduceToNat,Int.reduceLE,Int.reduceLT,X0,hR,e1,e5,all_E,eD,mI_eq];(try (revert hK;intro hK;(repeat' first|(refine And.intro ?_ ?_)|(intro hc;first|cases hc|((try rw [hc]);(try simp only [stH] at hc);(try (exfalso;omega)))));all_goals first|(refine hK _ _ ?_;clear hK K;simp only [stU])|exact hK|omega)))) <;> (fail_if_success (show False;skip)))
    refine ⟨k + 1,by omega,by omega,nm [(100,22)],Wk.of ?_⟩
    simp (maxSteps:=1000000) (disch:=omega) only [go_sem,Int.reduceEq,↓reduceIte,reduceCtorEq,Nat.reduceEqDiff,Nat.reduceLT,Nat.reduceLeDiff,Nat.reduceAdd,Nat.reduceSub,Nat.reduceMul,Int.reduceToNat,Int.reduceLE,Int.reduceLT,X0,e3,e6]
    rfl
  · obtain rfl : k = l.length:=by omega
    repeat' ((first
 | refine AW.seq ?_
 | refine AW.block ?_
 | refine AW.regl X0_ok [0,1,4,5,7,8,9,10,11] ?_
 | refine then_n ?_
 | refine then_r ?_
 | refine then_x ?_
 | refine block_x ?_
 | refine block_o (by decide) ?_
 | refine block_n ?_
 | refine block_r ?_
 | refine AW.skip ?_
 | refine AW.ret ?_
 | refine AW.exit ?_
 | refine AW.cond rfl ?_ ?_
 | refine awl_none rfl ?_
 | refine awl_nil2 ?_
 | (refine fun (hc : _ = _)=>?_;first|cases hc|((try rw [hc]);(try simp only [stH] at hc);(try (exfalso;omega)));(try (show Awl _ _ _ _ _;simp only [stU])))
 | ((first|refine fun (K : V → List _ → _) hK=>?_|refine fun (_ : V → V)=>?_);simp (maxSteps:=1000000) (disch:=omega) only [go_sem,Int.reduceEq,↓reduceIte,reduceCtorEq,Nat.reduceEqDiff,Nat.reduceLT,Nat.reduceLeDiff,Nat.reduceAdd,Nat.reduceSub,Nat.reduceMul,Int.reduceToNat,Int.reduceLE,Int.reduceLT,X0,List.take_length];(try (revert hK;intro hK;(repeat' first|(refine And.intro ?_ ?_)|(intro hc;first|cases hc|((try rw [hc]);(try simp only [stH] at hc);(try (exfalso;omega)))));all_goals first|(refine hK _ _ ?_;clear hK K;simp only [stU])|exact hK|omega)))) <;> (fail_if_success (show False;skip)))
    all_goals (refine Ends.of (nm [(0,100)]) (by first|exact .inl rfl|exact .inr rfl) ?_;simp (maxSteps:=1000000) (disch:=omega) only [go_sem,Int.reduceEq,↓reduceIte,reduceCtorEq,Nat.reduceEqDiff,Nat.reduceLT,Nat.reduceLeDiff,Nat.reduceAdd,Nat.reduceSub,Nat.reduceMul,Int.reduceToNat,Int.reduceLE,Int.reduceLT,X0,List.take_length])
theorem ent_extent_Shift : Ent Try.prog 56:=⟨_,Try.func56,rfl,by decide⟩
def Sp_overdubref14_Shift (ds : List D) (out : Out) : Prop:=∃ (l : List Xt) (d : Int),ds = [.list (l.map eD),.v (.int .i64 d)] ∧ l.length ≤ 1000000 ∧ (∀ e ∈ l,bdX e) ∧ (-100000 ≤ d ∧ d ≤ 100000) ∧ out = ⟨.sl 0 5 0 (shX d l).length true,[(0,.row 25 5 ((shX d l).map eD))]⟩
theorem good_overdubref14_Shift : Good Try.prog 52 Sp_overdubref14_Shift:=by
  refine good_body (E:=X0) (nt:=28) (rs:=#[.tmp 4]) Try.func52 rfl rfl rfl ?_
  rintro ds out ⟨l,d,rfl,hl,hb,hd,rfl⟩
  refine ⟨by simp,?_⟩
  repeat' first
 | refine AW.seq ?_
 | refine AW.block ?_
 | refine AW.regl X0_ok [0,1,4,5,6,7,9,10,11] ?_
 | refine then_n ?_
 | refine then_r ?_
 | refine then_x ?_
 | refine block_x ?_
 | refine block_o (by decide) ?_
 | refine block_n ?_
 | refine block_r ?_
 | refine AW.skip ?_
 | refine AW.ret ?_
 | refine AW.exit ?_
 | refine AW.cond rfl ?_ ?_
 | refine awl_none rfl ?_
 | refine awl_nil2 ?_
 | (refine fun (hc : _ = _)=>?_;first|cases hc|((try rw [hc]);(try simp only [stH] at hc);(try (exfalso;omega)));(try (show Awl _ _ _ _ _;simp only [stU])))
 | ((first|refine fun (K : V → List _ → _) hK=>?_|refine fun (_ : V → V)=>?_);simp (maxSteps:=1000000) (disch:=omega) only [go_sem,Int.reduceEq,↓reduceIte,reduceCtorEq,Nat.reduceEqDiff,Nat.reduceLT,Nat.reduceLeDiff,Nat.reduceAdd,Nat.reduceSub,Nat.reduceMul,Int.reduceToNat,Int.reduceLE,Int.reduceLT,X0];(try (revert hK;intro hK;(repeat' first|(refine And.intro ?_ ?_)|(intro hc;first|cases hc|((try rw [hc]);(try simp only [stH] at hc);(try (exfalso;omega)))));all_goals first|(refine hK _ _ ?_;clear hK K;simp only [stU])|exact hK|omega)))
  refine AW.loop_wk (fun k : Nat=>⟨[(0,.d (.list (l.map eD))),(1,.d (.v (.int .i64 d))),(5,.sl 100 5 0 (shX d (l.take k)).length true),(9,.d (.v (.int .i64 l.length))),(10,.d (.v (.int .i64 k)))],[(100,.row 25 5 ((shX d (l.take k)).map eD))],28⟩)
    (fun k=>k ≤ l.length) (fun k=>l.length - k) 0 (Nat.zero_le _) (fun w0 oa a w hs=>Wk.sr (ρ:=nm []) (Wk.of ?_) (nil_sr 5 100 25 5 rfl (by simp) rfl (by decide) hs)) ?_
  · have h0 : shX d [] = []:=rfl
    simp (maxSteps:=1000000) (disch:=omega) only [go_sem,Int.reduceEq,↓reduceIte,reduceCtorEq,Nat.reduceEqDiff,Nat.reduceLT,Nat.reduceLeDiff,Nat.reduceAdd,Nat.reduceSub,Nat.reduceMul,Int.reduceToNat,Int.reduceLE,Int.reduceLT,X0,h0]
  intro k hk
  have hcl:=shX_len d (l.take k)
  rw [List.length_take,Nat.min_eq_left hk] at hcl
  by_cases hk1 : k < l.length
  · have e1:=nth_E l k hk1
    have e2:=hb _ (mem_getD hk1)
    have e3:=shX_take (d:=d) hk1
    obtain ⟨R,hR⟩ : ∃ R,shX d (l.take k) = R:=⟨_,rfl⟩
    rw [hR] at e3 hcl
    generalize l.getD k x0 = e at *
    obtain ⟨f0,f1,f2,f3,f4⟩:=e
    unfold bdX at e2
    simp only at e2 e3
    clear hb
    have e5 : R.map eD ++ [D.agg [.v (.int .i64 (f0 + d)),.v (.int .i64 f1),.v (.int .i64 f2),.v (.int .i64 f3),.v (.int .i64 f4)]] = (R ++ [Xt.mk (f0 + d) f1 f2 f3 f4]).map eD:=by simp [eD,mI]
    have e6 : (R ++ [Xt.mk (f0 + d) f1 f2 f3 f4]).length = R.length + 1:=by simp
    repeat' ((first
 | refine AW.seq ?_
 | refine AW.block ?_
 | refine AW.regl X0_ok [0,1,4,5,6,7,9,10,11] ?_
 | refine then_n ?_
 | refine then_r ?_
 | refine then_x ?_
 | refine block_x ?_
 | refine block_o (by decide) ?_
 | refine block_n ?_
 | refine block_r ?_
 | refine AW.skip ?_
 | refine AW.ret ?_
 | refine AW.exit ?_
 | refine AW.cond rfl ?_ ?_
 | refine awl_none rfl ?_
 | refine awl_nil2 ?_
 | (refine fun (hc : _ = _)=>?_;first|cases hc|((try rw [hc]);(try simp only [stH] at hc);(try (exfalso;omega)));(try (show Awl _ _ _ _ _;simp only [stU])))
 | ((first|refine fun (K : V → List _ → _) hK=>?_|refine fun (_ : V → V)=>?_);simp (maxSteps:=1000000) (disch:=omega) only [go_sem,Int.reduceEq,↓reduceIte,reduceCtorEq,Nat.reduceEqDiff,Nat.reduceLT,Nat.reduceLeDiff,Nat.reduceAdd,Nat.reduceSub,Nat.reduceMul,Int.reduceToNat,Int.reduceLE,Int.reduceLT,X0,hR,e1,e5,all_E,eD,mI_eq];(try (revert hK;intro hK;(repeat' first|(refine And.intro ?_ ?_)|(intro hc;first|cases hc|((try rw [hc]);(try simp only [stH] at hc);(try (exfalso;omega)))));all_goals first|(refine hK _ _ ?_;clear hK K;simp only [stU])|exact hK|omega)))) <;> (fail_if_success (show False;skip)))
    refine ⟨k + 1,by omega,by omega,nm [(100,25)],Wk.of ?_⟩
    simp (maxSteps:=1000000) (disch:=omega) only [go_sem,Int.reduceEq,↓reduceIte,reduceCtorEq,Nat.reduceEqDiff,Nat.reduceLT,Nat.reduceLeDiff,Nat.reduceAdd,Nat.reduceSub,Nat.reduceMul,Int.reduceToNat,Int.reduceLE,Int.reduceLT,X0,e3,e6]
    rfl
  · obtain rfl : k = l.length:=by omega
    repeat' ((first
 | refine AW.seq ?_
 | refine AW.block ?_
 | refine AW.regl X0_ok [0,1,4,5,6,7,9,10,11] ?_
 | refine then_n ?_
 | refine then_r ?_
 | refine then_x ?_
 | refine block_x ?_
 | refine block_o (by decide) ?_
 | refine block_n ?_
 | refine block_r ?_
 | refine AW.skip ?_
 | refine AW.ret ?_
 | refine AW.exit ?_
 | refine AW.cond rfl ?_ ?_
 | refine awl_none rfl ?_
 | refine awl_nil2 ?_
 | (refine fun (hc : _ = _)=>?_;first|cases hc|((try rw [hc]);(try simp only [stH] at hc);(try (exfalso;omega)));(try (show Awl _ _ _ _ _;simp only [stU])))
 | ((first|refine fun (K : V → List _ → _) hK=>?_|refine fun (_ : V → V)=>?_);simp (maxSteps:=1000000) (disch:=omega) only [go_sem,Int.reduceEq,↓reduceIte,reduceCtorEq,Nat.reduceEqDiff,Nat.reduceLT,Nat.reduceLeDiff,Nat.reduceAdd,Nat.reduceSub,Nat.reduceMul,Int.reduceToNat,Int.reduceLE,Int.reduceLT,X0,List.take_length];(try (revert hK;intro hK;(repeat' first|(refine And.intro ?_ ?_)|(intro hc;first|cases hc|((try rw [hc]);(try simp only [stH] at hc);(try (exfalso;omega)))));all_goals first|(refine hK _ _ ?_;clear hK K;simp only [stU])|exact hK|omega)))) <;> (fail_if_success (show False;skip)))
    all_goals (refine Ends.of (nm [(0,100)]) (by first|exact .inl rfl|exact .inr rfl) ?_;simp (maxSteps:=1000000) (disch:=omega) only [go_sem,Int.reduceEq,↓reduceIte,reduceCtorEq,Nat.reduceEqDiff,Nat.reduceLT,Nat.reduceLeDiff,Nat.reduceAdd,Nat.reduceSub,Nat.reduceMul,Int.reduceToNat,Int.reduceLE,Int.reduceLT,X0,List.take_length])
theorem ent_overdubref14_Shift : Ent Try.prog 52:=⟨_,Try.func52,rfl,by decide⟩
def findD (o : Option Nat) : V:=match o with|some i=>.tup [.d (.v (.int .i64 i)),.d (.v (.bool true))]|none=>.tup [.d (.v (.int .i64 0)),.d (.v (.bool false))]
theorem findX_step {at' : Int} {l : List Xt} {k : Nat} (h : k < l.length) (hn : ¬ ((l.getD k x0).f0 ≤ at' ∧ at' < (l.getD k x0).f0 + (l.getD k x0).f4)) : (findX at' (l.drop k)).map (· + k) = (findX at' (l.drop (k + 1))).map (· + (k + 1)):=by
  rw [findX_drop h,if_neg hn,Option.map_map]
  congr 1;funext x;simp;omega
theorem findX_here {at' : Int} {l : List Xt} {k : Nat} (h : k < l.length) (hn : (l.getD k x0).f0 ≤ at' ∧ at' < (l.getD k x0).f0 + (l.getD k x0).f4) : (findX at' (l.drop k)).map (· + k) = some k:=by
  rw [findX_drop h,if_pos hn];simp
def Sp_extent_Find (ds : List D) (out : Out) : Prop:=∃ (l : List Xt) (a : Int),ds = [.list (l.map eD),.v (.int .i64 a)] ∧ l.length ≤ 1000000 ∧ (∀ e ∈ l,bdX e ∧ 0 ≤ e.f0) ∧ (-9223372036854775808 ≤ a ∧ a < 9223372036854775808) ∧ out = ⟨findD (findX a l),[]⟩
theorem good_extent_Find : Good Try.prog 49 Sp_extent_Find:=by
  refine good_body (E:=X0) (nt:=30) (rs:=#[.tmp 4,.tmp 5]) Try.func49 rfl rfl rfl ?_
  rintro ds out ⟨l,a,rfl,hl,hb,ha,rfl⟩
  refine ⟨by simp,?_⟩
  repeat' first
 | refine AW.seq ?_
 | refine AW.block ?_
 | refine AW.regl X0_ok [0,1,4,5,6,7,8,9,10,11,27] ?_
 | refine then_n ?_
 | refine then_r ?_
 | refine then_x ?_
 | refine block_x ?_
 | refine block_o (by decide) ?_
 | refine block_n ?_
 | refine block_r ?_
 | refine AW.skip ?_
 | refine AW.ret ?_
 | refine AW.exit ?_
 | refine AW.cond rfl ?_ ?_
 | refine awl_none rfl ?_
 | refine awl_nil2 ?_
 | refine awl_some rfl rfl (Nat.le_of_ble_eq_true rfl) rfl rfl ?_ ?_
 | (refine fun (hc : _ = _)=>?_;first|cases hc|((try rw [hc]);(try simp only [stH] at hc);(try (exfalso;omega)));(try (show Awl _ _ _ _ _;simp only [stU])))
 | ((first|refine fun (K : V → List _ → _) hK=>?_|refine fun (_ : V → V)=>?_);simp (maxSteps:=1000000) (disch:=omega) only [go_sem,Int.reduceEq,↓reduceIte,reduceCtorEq,Nat.reduceEqDiff,Nat.reduceLT,Nat.reduceLeDiff,Nat.reduceAdd,Nat.reduceSub,Nat.reduceMul,Int.reduceToNat,Int.reduceLE,Int.reduceLT,X0];(try (revert hK;intro hK;(repeat' first|(refine And.intro ?_ ?_)|(intro hc;first|cases hc|((try rw [hc]);(try simp only [stH] at hc);(try (exfalso;omega)))));all_goals first|(refine hK _ _ ?_;clear hK K;simp only [stU])|exact hK|omega)))
  refine AW.loop_wk (fun k : Nat=>⟨[(1,.d (.v (.int .i64 a))),(8,.d (.list (l.map eD))),(9,.d (.v (.int .i64 l.length))),(10,.d (.v (.int .i64 k)))],[],30⟩)
    (fun k=>k ≤ l.length ∧ findX a l = (findX a (l.drop k)).map (· + k)) (fun k=>l.length - k) 0 ⟨Nat.zero_le _,by simp⟩ (fun w0 oa a w hs=>Wk.sr (ρ:=nm []) (Wk.of ?_) hs) ?_
  · simp (maxSteps:=1000000) (disch:=omega) only [go_sem,Int.reduceEq,↓reduceIte,reduceCtorEq,Nat.reduceEqDiff,Nat.reduceLT,Nat.reduceLeDiff,Nat.reduceAdd,Nat.reduceSub,Nat.reduceMul,Int.reduceToNat,Int.reduceLE,Int.reduceLT,X0]
  rintro k ⟨hk,hf⟩
  by_cases hk1 : k < l.length
  · have e1:=nth_E l k hk1
    have e2:=hb _ (mem_getD hk1)
    have e3:=findX_step (at':=a) hk1
    have e4:=findX_here (at':=a) hk1
    generalize l.getD k x0 = e at *
    obtain ⟨f0,f1,f2,f3,f4⟩:=e
    unfold bdX at e2
    simp only at e2 e3 e4
    clear hb
    by_cases h0 : f0 ≤ a
    · by_cases h1 : a < f0 + f4
      · have e5:=hf.trans (e4 ⟨h0,h1⟩)
        repeat' ((first
 | refine AW.seq ?_
 | refine AW.block ?_
 | refine AW.regl X0_ok [0,1,4,5,6,7,8,9,10,11,27] ?_
 | refine then_n ?_
 | refine then_r ?_
 | refine then_x ?_
 | refine block_x ?_
 | refine block_o (by decide) ?_
 | refine block_n ?_
 | refine block_r ?_
 | refine AW.skip ?_
 | refine AW.ret ?_
 | refine AW.exit ?_
 | refine AW.cond rfl ?_ ?_
 | refine awl_none rfl ?_
 | refine awl_nil2 ?_
 | refine awl_some rfl rfl (Nat.le_of_ble_eq_true rfl) rfl rfl ?_ ?_
 | (refine fun (hc : _ = _)=>?_;first|cases hc|((try rw [hc]);(try simp only [stH] at hc);(try (exfalso;omega)));(try (show Awl _ _ _ _ _;simp only [stU])))
 | ((first|refine fun (K : V → List _ → _) hK=>?_|refine fun (_ : V → V)=>?_);simp (maxSteps:=1000000) (disch:=omega) only [go_sem,Int.reduceEq,↓reduceIte,reduceCtorEq,Nat.reduceEqDiff,Nat.reduceLT,Nat.reduceLeDiff,Nat.reduceAdd,Nat.reduceSub,Nat.reduceMul,Int.reduceToNat,Int.reduceLE,Int.reduceLT,X0,e1,all_E,eD,mI_eq];(try (revert hK;intro hK;(repeat' first|(refine And.intro ?_ ?_)|(intro hc;first|cases hc|((try rw [hc]);(try simp only [stH] at hc);(try (exfalso;omega)))));all_goals first|(refine hK _ _ ?_;clear hK K;simp only [stU])|exact hK|omega)))) <;> (fail_if_success (show False;skip)))
        all_goals (refine Ends.of (nm []) (by first|exact .inl rfl|exact .inr rfl) ?_;simp (maxSteps:=1000000) (disch:=omega) only [go_sem,Int.reduceEq,↓reduceIte,reduceCtorEq,Nat.reduceEqDiff,Nat.reduceLT,Nat.reduceLeDiff,Nat.reduceAdd,Nat.reduceSub,Nat.reduceMul,Int.reduceToNat,Int.reduceLE,Int.reduceLT,X0,e5,findD])
      · have e5:=hf.trans (e3 (by omega))
        repeat' ((first
 | refine AW.seq ?_
 | refine AW.block ?_
 | refine AW.regl X0_ok [0,1,4,5,6,7,8,9,10,11,27] ?_
 | refine then_n ?_
 | refine then_r ?_
 | refine then_x ?_
 | refine block_x ?_
 | refine block_o (by decide) ?_
 | refine block_n ?_
 | refine block_r ?_
 | refine AW.skip ?_
 | refine AW.ret ?_
 | refine AW.exit ?_
 | refine AW.cond rfl ?_ ?_
 | refine awl_none rfl ?_
 | refine awl_nil2 ?_
 | refine awl_some rfl rfl (Nat.le_of_ble_eq_true rfl) rfl rfl ?_ ?_
 | (refine fun (hc : _ = _)=>?_;first|cases hc|((try rw [hc]);(try simp only [stH] at hc);(try (exfalso;omega)));(try (show Awl _ _ _ _ _;simp only [stU])))
 | ((first|refine fun (K : V → List _ → _) hK=>?_|refine fun (_ : V → V)=>?_);simp (maxSteps:=1000000) (disch:=omega) only [go_sem,Int.reduceEq,↓reduceIte,reduceCtorEq,Nat.reduceEqDiff,Nat.reduceLT,Nat.reduceLeDiff,Nat.reduceAdd,Nat.reduceSub,Nat.reduceMul,Int.reduceToNat,Int.reduceLE,Int.reduceLT,X0,e1,all_E,eD,mI_eq];(try (revert hK;intro hK;(repeat' first|(refine And.intro ?_ ?_)|(intro hc;first|cases hc|((try rw [hc]);(try simp only [stH] at hc);(try (exfalso;omega)))));all_goals first|(refine hK _ _ ?_;clear hK K;simp only [stU])|exact hK|omega)))) <;> (fail_if_success (show False;skip)))
        refine ⟨k + 1,by omega,e5,by omega,nm [],Wk.of ?_⟩
        simp (maxSteps:=1000000) (disch:=omega) only [go_sem,Int.reduceEq,↓reduceIte,reduceCtorEq,Nat.reduceEqDiff,Nat.reduceLT,Nat.reduceLeDiff,Nat.reduceAdd,Nat.reduceSub,Nat.reduceMul,Int.reduceToNat,Int.reduceLE,Int.reduceLT,X0]
        rfl
    · have e5:=hf.trans (e3 (by omega))
      repeat' ((first
 | refine AW.seq ?_
 | refine AW.block ?_
 | refine AW.regl X0_ok [0,1,4,5,6,7,8,9,10,11,27] ?_
 | refine then_n ?_
 | refine then_r ?_
 | refine then_x ?_
 | refine block_x ?_
 | refine block_o (by decide) ?_
 | refine block_n ?_
 | refine block_r ?_
 | refine AW.skip ?_
 | refine AW.ret ?_
 | refine AW.exit ?_
 | refine AW.cond rfl ?_ ?_
 | refine awl_none rfl ?_
 | refine awl_nil2 ?_
 | refine awl_some rfl rfl (Nat.le_of_ble_eq_true rfl) rfl rfl ?_ ?_
 | (refine fun (hc : _ = _)=>?_;first|cases hc|((try rw [hc]);(try simp only [stH] at hc);(try (exfalso;omega)));(try (show Awl _ _ _ _ _;simp only [stU])))
 | ((first|refine fun (K : V → List _ → _) hK=>?_|refine fun (_ : V → V)=>?_);simp (maxSteps:=1000000) (disch:=omega) only [go_sem,Int.reduceEq,↓reduceIte,reduceCtorEq,Nat.reduceEqDiff,Nat.reduceLT,Nat.reduceLeDiff,Nat.reduceAdd,Nat.reduceSub,Nat.reduceMul,Int.reduceToNat,Int.reduceLE,Int.reduceLT,X0,e1,all_E,eD,mI_eq];(try (revert hK;intro hK;(repeat' first|(refine And.intro ?_ ?_)|(intro hc;first|cases hc|((try rw [hc]);(try simp only [stH] at hc);(try (exfalso;omega)))));all_goals first|(refine hK _ _ ?_;clear hK K;simp only [stU])|exact hK|omega)))) <;> (fail_if_success (show False;skip)))
      refine ⟨k + 1,by omega,e5,by omega,nm [],Wk.of ?_⟩
      simp (maxSteps:=1000000) (disch:=omega) only [go_sem,Int.reduceEq,↓reduceIte,reduceCtorEq,Nat.reduceEqDiff,Nat.reduceLT,Nat.reduceLeDiff,Nat.reduceAdd,Nat.reduceSub,Nat.reduceMul,Int.reduceToNat,Int.reduceLE,Int.reduceLT,X0]
      rfl
  · obtain rfl : k = l.length:=by omega
    rw [List.drop_length] at hf
    have hf : findX a l = none:=hf
    repeat' ((first
 | refine AW.seq ?_
 | refine AW.block ?_
 | refine AW.regl X0_ok [0,1,4,5,6,7,8,9,10,11,27] ?_
 | refine then_n ?_
 | refine then_r ?_
 | refine then_x ?_
 | refine block_x ?_
 | refine block_o (by decide) ?_
 | refine block_n ?_
 | refine block_r ?_
 | refine AW.skip ?_
 | refine AW.ret ?_
 | refine AW.exit ?_
 | refine AW.cond rfl ?_ ?_
 | refine awl_none rfl ?_
 | refine awl_nil2 ?_
 | refine awl_some rfl rfl (Nat.le_of_ble_eq_true rfl) rfl rfl ?_ ?_
 | (refine fun (hc : _ = _)=>?_;first|cases hc|((try rw [hc]);(try simp only [stH] at hc);(try (exfalso;omega)));(try (show Awl _ _ _ _ _;simp only [stU])))
 | ((first|refine fun (K : V → List _ → _) hK=>?_|refine fun (_ : V → V)=>?_);simp (maxSteps:=1000000) (disch:=omega) only [go_sem,Int.reduceEq,↓reduceIte,reduceCtorEq,Nat.reduceEqDiff,Nat.reduceLT,Nat.reduceLeDiff,Nat.reduceAdd,Nat.reduceSub,Nat.reduceMul,Int.reduceToNat,Int.reduceLE,Int.reduceLT,X0];(try (revert hK;intro hK;(repeat' first|(refine And.intro ?_ ?_)|(intro hc;first|cases hc|((try rw [hc]);(try simp only [stH] at hc);(try (exfalso;omega)))));all_goals first|(refine hK _ _ ?_;clear hK K;simp only [stU])|exact hK|omega)))) <;> (fail_if_success (show False;skip)))
    all_goals (refine Ends.of (nm []) (by first|exact .inl rfl|exact .inr rfl) ?_;simp (maxSteps:=1000000) (disch:=omega) only [go_sem,Int.reduceEq,↓reduceIte,reduceCtorEq,Nat.reduceEqDiff,Nat.reduceLT,Nat.reduceLeDiff,Nat.reduceAdd,Nat.reduceSub,Nat.reduceMul,Int.reduceToNat,Int.reduceLE,Int.reduceLT,X0,hf,findD])
theorem ent_extent_Find : Ent Try.prog 49:=⟨_,Try.func49,rfl,by decide⟩
def Sp_overdubref14_Find (ds : List D) (out : Out) : Prop:=∃ (l : List Xt) (a : Int),ds = [.list (l.map eD),.v (.int .i64 a)] ∧ l.length ≤ 1000000 ∧ (∀ e ∈ l,bdX e ∧ 0 ≤ e.f0) ∧ (-9223372036854775808 ≤ a ∧ a < 9223372036854775808) ∧ out = ⟨findD (findX a l),[]⟩
def bb_overdubref14_Find_4 : List Nat:=[0,0,0,6,14,30,63,127,255,255,255,1791,3839,7935,255,255,49407,114943,246015,524031,1048575,2097151]
theorem good_overdubref14_Find : Good Try.prog 37 Sp_overdubref14_Find:=by
  refine good_body (E:=X0) (nt:=36) (rs:=#[.tmp 4,.tmp 5]) Try.func37 rfl rfl rfl ?_
  rintro ds out ⟨l,a,rfl,hl,hb,ha,rfl⟩
  refine ⟨by simp,?_⟩
  repeat' first
 | refine AW.seq ?_
 | refine AW.block ?_
 | refine AW.regl X0_ok [0,1,4,5,6,8,9,10,33] ?_
 | (refine AW.regq (id:=4) X0_ok follows bb_overdubref14_Find_4 (by kernel_rfl) [0,1,4,5,6,8,9,10,33] ?_)
 | refine then_n ?_
 | refine then_r ?_
 | refine then_x ?_
 | refine block_x ?_
 | refine block_o (by decide) ?_
 | refine block_n ?_
 | refine block_r ?_
 | refine AW.skip ?_
 | refine AW.ret ?_
 | refine AW.exit ?_
 | refine AW.cond rfl ?_ ?_
 | refine awl_none rfl ?_
 | refine awl_nil2 ?_
 | refine awc_none rfl ?_
 | refine awc_some rfl rfl (Nat.le_of_ble_eq_true rfl) rfl rfl ?_ ?_
 | refine awc_nilq (by kernel_rfl) (by kernel_rfl) ?_
 | (refine fun (hc : _ = _)=>?_;first|cases hc|((try rw [hc]);(try simp only [stH] at hc);(try (exfalso;omega)));(try ((first|show Awl _ _ _ _ _|show Awc _ _ _ _ _ _);simp only [stU])))
 | ((first|refine fun (K : V → List _ → _) hK=>?_|refine fun (_ : V → V)=>?_);simp (maxSteps:=1000000) (disch:=omega) only [go_sem,Int.reduceEq,↓reduceIte,reduceCtorEq,Nat.reduceEqDiff,Nat.reduceLT,Nat.reduceLeDiff,Nat.reduceAdd,Nat.reduceSub,Nat.reduceMul,Int.reduceToNat,Int.reduceLE,Int.reduceLT,X0,Sg3,St.updIf,ifc_nil,gt_ifc,go_ifc,ite_self,Option.none_or,Option.some_or];(try (revert hK;intro hK;(repeat' first|(refine And.intro ?_ ?_)|(intro hc;first|cases hc|((try rw [hc]);(try simp only [stH] at hc);(try (exfalso;omega)))));all_goals first|(refine hK _ _ ?_;clear hK K;simp only [stU])|exact hK|omega)))
  refine AW.loop_wk (fun k : Nat=>⟨[(0,.d (.list (l.map eD))),(1,.d (.v (.int .i64 a))),(8,.d (.v (.int .i64 l.length))),(9,.d (.v (.int .i64 k)))],[],36⟩)
    (fun k=>k ≤ l.length ∧ findX a l = (findX a (l.drop k)).map (· + k)) (fun k=>l.length - k) 0 ⟨Nat.zero_le _,by simp⟩ (fun w0 oa a w hs=>Wk.sr (ρ:=nm []) (Wk.of ?_) hs) ?_
  · simp (maxSteps:=1000000) (disch:=omega) only [go_sem,Int.reduceEq,↓reduceIte,reduceCtorEq,Nat.reduceEqDiff,Nat.reduceLT,Nat.reduceLeDiff,Nat.reduceAdd,Nat.reduceSub,Nat.reduceMul,Int.reduceToNat,Int.reduceLE,Int.reduceLT,X0]
  rintro k ⟨hk,hf⟩
  by_cases hk1 : k < l.length
  · have e1:=nth_E l k hk1
    have e2:=hb _ (mem_getD hk1)
    have e3:=findX_step (at':=a) hk1
    have e4:=findX_here (at':=a) hk1
    generalize l.getD k x0 = e at *
    obtain ⟨f0,f1,f2,f3,f4⟩:=e
    unfold bdX at e2
    simp only at e2 e3 e4
    clear hb
    by_cases h0 : f0 ≤ a
    · have d0 : decide (f0 ≤ a) = true:=decide_eq_true h0
      by_cases h1 : a < f0 + f4
      · have e5:=hf.trans (e4 ⟨h0,h1⟩)
        repeat' ((first
 | refine AW.seq ?_
 | refine AW.block ?_
 | refine AW.regl X0_ok [0,1,4,5,6,8,9,10,33] ?_
 | (refine AW.regq (id:=4) X0_ok follows bb_overdubref14_Find_4 (by kernel_rfl) [0,1,4,5,6,8,9,10,33] ?_)
 | refine then_n ?_
 | refine then_r ?_
 | refine then_x ?_
 | refine block_x ?_
 | refine block_o (by decide) ?_
 | refine block_n ?_
 | refine block_r ?_
 | refine AW.skip ?_
 | refine AW.ret ?_
 | refine AW.exit ?_
 | refine AW.cond rfl ?_ ?_
 | refine awl_none rfl ?_
 | refine awl_nil2 ?_
 | refine awc_none rfl ?_
 | refine awc_some rfl rfl (Nat.le_of_ble_eq_true rfl) rfl rfl ?_ ?_
 | refine awc_nilq (by kernel_rfl) (by kernel_rfl) ?_
 | (refine fun (hc : _ = _)=>?_;first|cases hc|((try rw [hc]);(try simp only [stH] at hc);(try (exfalso;omega)));(try ((first|show Awl _ _ _ _ _|show Awc _ _ _ _ _ _);simp only [stU])))
 | ((first|refine fun (K : V → List _ → _) hK=>?_|refine fun (_ : V → V)=>?_);simp (maxSteps:=1000000) (disch:=omega) only [go_sem,Int.reduceEq,↓reduceIte,reduceCtorEq,Nat.reduceEqDiff,Nat.reduceLT,Nat.reduceLeDiff,Nat.reduceAdd,Nat.reduceSub,Nat.reduceMul,Int.reduceToNat,Int.reduceLE,Int.reduceLT,X0,e1,d0,all_E,eD,mI_eq,Sg3,St.updIf,ifc_nil,gt_ifc,go_ifc,ite_self,Option.none_or,Option.some_or];(try (revert hK;intro hK;(repeat' first|(refine And.intro ?_ ?_)|(intro hc;first|cases hc|((try rw [hc]);(try simp only [stH] at hc);(try (exfalso;omega)))));all_goals first|(refine hK _ _ ?_;clear hK K;simp only [stU])|exact hK|omega)))) <;> (fail_if_success (show False;skip)))
        all_goals (refine Ends.of (nm []) (by first|exact .inl rfl|exact .inr rfl) ?_;simp (maxSteps:=1000000) (disch:=omega) only [go_sem,Int.reduceEq,↓reduceIte,reduceCtorEq,Nat.reduceEqDiff,Nat.reduceLT,Nat.reduceLeDiff,Nat.reduceAdd,Nat.reduceSub,Nat.reduceMul,Int.reduceToNat,Int.reduceLE,Int.reduceLT,X0,e5,findD])
      · have e5:=hf.trans (e3 (by omega))
        repeat' ((first
 | refine AW.seq ?_
 | refine AW.block ?_
 | refine AW.regl X0_ok [0,1,4,5,6,8,9,10,33] ?_
 | (refine AW.regq (id:=4) X0_ok follows bb_overdubref14_Find_4 (by kernel_rfl) [0,1,4,5,6,8,9,10,33] ?_)
 | refine then_n ?_
 | refine then_r ?_
 | refine then_x ?_
 | refine block_x ?_
 | refine block_o (by decide) ?_
 | refine block_n ?_
 | refine block_r ?_
 | refine AW.skip ?_
 | refine AW.ret ?_
 | refine AW.exit ?_
 | refine AW.cond rfl ?_ ?_
 | refine awl_none rfl ?_
 | refine awl_nil2 ?_
 | refine awc_none rfl ?_
 | refine awc_some rfl rfl (Nat.le_of_ble_eq_true rfl) rfl rfl ?_ ?_
 | refine awc_nilq (by kernel_rfl) (by kernel_rfl) ?_
 | (refine fun (hc : _ = _)=>?_;first|cases hc|((try rw [hc]);(try simp only [stH] at hc);(try (exfalso;omega)));(try ((first|show Awl _ _ _ _ _|show Awc _ _ _ _ _ _);simp only [stU])))
 | ((first|refine fun (K : V → List _ → _) hK=>?_|refine fun (_ : V → V)=>?_);simp (maxSteps:=1000000) (disch:=omega) only [go_sem,Int.reduceEq,↓reduceIte,reduceCtorEq,Nat.reduceEqDiff,Nat.reduceLT,Nat.reduceLeDiff,Nat.reduceAdd,Nat.reduceSub,Nat.reduceMul,Int.reduceToNat,Int.reduceLE,Int.reduceLT,X0,e1,d0,all_E,eD,mI_eq,Sg3,St.updIf,ifc_nil,gt_ifc,go_ifc,ite_self,Option.none_or,Option.some_or];(try (revert hK;intro hK;(repeat' first|(refine And.intro ?_ ?_)|(intro hc;first|cases hc|((try rw [hc]);(try simp only [stH] at hc);(try (exfalso;omega)))));all_goals first|(refine hK _ _ ?_;clear hK K;simp only [stU])|exact hK|omega)))) <;> (fail_if_success (show False;skip)))
        refine ⟨k + 1,by omega,e5,by omega,nm [],Wk.of ?_⟩
        simp (maxSteps:=1000000) (disch:=omega) only [go_sem,Int.reduceEq,↓reduceIte,reduceCtorEq,Nat.reduceEqDiff,Nat.reduceLT,Nat.reduceLeDiff,Nat.reduceAdd,Nat.reduceSub,Nat.reduceMul,Int.reduceToNat,Int.reduceLE,Int.reduceLT,X0]
        rfl
    · have e5:=hf.trans (e3 (by omega))
      have d0 : decide (f0 ≤ a) = false:=decide_eq_false h0
      repeat' ((first
 | refine AW.seq ?_
 | refine AW.block ?_
 | refine AW.regl X0_ok [0,1,4,5,6,8,9,10,33] ?_
 | (refine AW.regq (id:=4) X0_ok follows bb_overdubref14_Find_4 (by kernel_rfl) [0,1,4,5,6,8,9,10,33] ?_)
 | refine then_n ?_
 | refine then_r ?_
 | refine then_x ?_
 | refine block_x ?_
 | refine block_o (by decide) ?_
 | refine block_n ?_
 | refine block_r ?_
 | refine AW.skip ?_
 | refine AW.ret ?_
 | refine AW.exit ?_
 | refine AW.cond rfl ?_ ?_
 | refine awl_none rfl ?_
 | refine awl_nil2 ?_
 | refine awc_none rfl ?_
 | refine awc_some rfl rfl (Nat.le_of_ble_eq_true rfl) rfl rfl ?_ ?_
 | refine awc_nilq (by kernel_rfl) (by kernel_rfl) ?_
 | (refine fun (hc : _ = _)=>?_;first|cases hc|((try rw [hc]);(try simp only [stH] at hc);(try (exfalso;omega)));(try ((first|show Awl _ _ _ _ _|show Awc _ _ _ _ _ _);simp only [stU])))
 | ((first|refine fun (K : V → List _ → _) hK=>?_|refine fun (_ : V → V)=>?_);simp (maxSteps:=1000000) (disch:=omega) only [go_sem,Int.reduceEq,↓reduceIte,reduceCtorEq,Nat.reduceEqDiff,Nat.reduceLT,Nat.reduceLeDiff,Nat.reduceAdd,Nat.reduceSub,Nat.reduceMul,Int.reduceToNat,Int.reduceLE,Int.reduceLT,X0,e1,d0,all_E,eD,mI_eq,Sg3,St.updIf,ifc_nil,gt_ifc,go_ifc,ite_self,Option.none_or,Option.some_or];(try (revert hK;intro hK;(repeat' first|(refine And.intro ?_ ?_)|(intro hc;first|cases hc|((try rw [hc]);(try simp only [stH] at hc);(try (exfalso;omega)))));all_goals first|(refine hK _ _ ?_;clear hK K;simp only [stU])|exact hK|omega)))) <;> (fail_if_success (show False;skip)))
      refine ⟨k + 1,by omega,e5,by omega,nm [],Wk.of ?_⟩
      simp (maxSteps:=1000000) (disch:=omega) only [go_sem,Int.reduceEq,↓reduceIte,reduceCtorEq,Nat.reduceEqDiff,Nat.reduceLT,Nat.reduceLeDiff,Nat.reduceAdd,Nat.reduceSub,Nat.reduceMul,Int.reduceToNat,Int.reduceLE,Int.reduceLT,X0]
      rfl
  · obtain rfl : k = l.length:=by omega
    rw [List.drop_length] at hf
    have hf : findX a l = none:=hf
    repeat' ((first
 | refine AW.seq ?_
 | refine AW.block ?_
 | refine AW.regl X0_ok [0,1,4,5,6,8,9,10,33] ?_
 | (refine AW.regq (id:=4) X0_ok follows bb_overdubref14_Find_4 (by kernel_rfl) [0,1,4,5,6,8,9,10,33] ?_)
 | refine then_n ?_
 | refine then_r ?_
 | refine then_x ?_
 | refine block_x ?_
 | refine block_o (by decide) ?_
 | refine block_n ?_
 | refine block_r ?_
 | refine AW.skip ?_
 | refine AW.ret ?_
 | refine AW.exit ?_
 | refine AW.cond rfl ?_ ?_
 | refine awl_none rfl ?_
 | refine awl_nil2 ?_
 | refine awc_none rfl ?_
 | refine awc_some rfl rfl (Nat.le_of_ble_eq_true rfl) rfl rfl ?_ ?_
 | refine awc_nilq (by kernel_rfl) (by kernel_rfl) ?_
 | (refine fun (hc : _ = _)=>?_;first|cases hc|((try rw [hc]);(try simp only [stH] at hc);(try (exfalso;omega)));(try ((first|show Awl _ _ _ _ _|show Awc _ _ _ _ _ _);simp only [stU])))
 | ((first|refine fun (K : V → List _ → _) hK=>?_|refine fun (_ : V → V)=>?_);simp (maxSteps:=1000000) (disch:=omega) only [go_sem,Int.reduceEq,↓reduceIte,reduceCtorEq,Nat.reduceEqDiff,Nat.reduceLT,Nat.reduceLeDiff,Nat.reduceAdd,Nat.reduceSub,Nat.reduceMul,Int.reduceToNat,Int.reduceLE,Int.reduceLT,X0,Sg3,St.updIf,ifc_nil,gt_ifc,go_ifc,ite_self,Option.none_or,Option.some_or];(try (revert hK;intro hK;(repeat' first|(refine And.intro ?_ ?_)|(intro hc;first|cases hc|((try rw [hc]);(try simp only [stH] at hc);(try (exfalso;omega)))));all_goals first|(refine hK _ _ ?_;clear hK K;simp only [stU])|exact hK|omega)))) <;> (fail_if_success (show False;skip)))
    all_goals (refine Ends.of (nm []) (by first|exact .inl rfl|exact .inr rfl) ?_;simp (maxSteps:=1000000) (disch:=omega) only [go_sem,Int.reduceEq,↓reduceIte,reduceCtorEq,Nat.reduceEqDiff,Nat.reduceLT,Nat.reduceLeDiff,Nat.reduceAdd,Nat.reduceSub,Nat.reduceMul,Int.reduceToNat,Int.reduceLE,Int.reduceLT,X0,hf,findD])
theorem ent_overdubref14_Find : Ent Try.prog 37:=⟨_,Try.func37,rfl,by decide⟩
end Go.Proofs.Ytleahjfgedfgmaa.Am
