import Derived.Test.YtleahjfgedfgmaaZTM
import Derived.Test.YtleahjfgedfgmaaZZf
import Derived.Test.YtleahjfgedfgmaaZZB
set_option linter.unusedVariables false
set_option linter.unusedSimpArgs false
set_option maxRecDepth 10000
set_option maxHeartbeats 0
namespace Go.Proofs.Ytleahjfgedfgmaa.Am
open Go Go.RowKit Go.Proofs
noncomputable def M0 : Env:=⟨Try.prog,fun f ds out=>(f = 54 ∧ Sp_tree_cut ds out) ∨ (f = 40 ∧ Sp_tree_fresh ds out) ∨ (f = 55 ∧ Sp_tree_Node_first ds out),Es,fun _=>false,fun f vs lent out=>False,fun f=>none,fun f=>false,false,fun f=>none⟩
theorem M0_sp : ∀ f ds out,M0.Sp f ds out → Ent M0.P f ∧ Good M0.P f (fun a b=>a = ds ∧ b = out):=by
  rintro f ds out (⟨rfl,h⟩|⟨rfl,h⟩|⟨rfl,h⟩)
  · exact ⟨ent_tree_cut,good_tree_cut.one h⟩
  · exact ⟨ent_tree_fresh,good_tree_fresh.one h⟩
  · exact ⟨ent_tree_Node_first,good_tree_Node_first.one h⟩
theorem M0_sm : ∀ f vs lent out,M0.Sm f vs lent out → Ent M0.P f ∧ GoodM M0.P f (fun a l b=>a = vs ∧ l = lent ∧ b = out):=fun _ _ _ _ h=>h.elim
theorem M0_at : ∀ f k,M0.At f = some k → AtomOk M0.P f k:=fun _ _ h=>nomatch h
theorem M0_ok : M0.Ok:=⟨M0_sp,Es_ok,M0_sm,M0_at⟩
def ndV : Nd → V
  | .mk l f p=>.agg [.d (.list (l.map eD)),.d (.list (f.map mI)),.d (.list (p.map nD))]
def madeOut (l : List Xt) : Out:=if l = [] then ⟨.agg [.nil,.nil,.nil],[]⟩ else ⟨ndV (madeN l),[]⟩
def Sp_tree_made (ds : List D) (out : Out) : Prop:=∃ l : List Xt,ds = [.list (l.map eD)] ∧ l.length ≤ 1000 ∧ out = madeOut l
theorem grp_cast (l : List Xt) (i : Nat) : (((l.drop (offN l.length i)).map eD).take (szN l.length i)) = (grp l i).map eD:=by rw [grp,List.map_take]
theorem grp_castN (l : List Nd) (i : Nat) : (((l.drop (offN l.length i)).map nD).take (szN l.length i)) = (grp l i).map nD:=by rw [grp,List.map_take]
theorem drop_next {α : Type} (f : α → D) (l : List α) (i : Nat) : (((l.drop (offN l.length i)).map f).drop (szN l.length i)) = (l.drop (offN l.length (i + 1))).map f:=by
  rw [← List.map_drop,List.drop_drop,offN_succ]
def bb_tree_made_17 : List Nat:=[0,1,0,4,12,31,63,127]
def cc_tree_made_17 : List (List (Option Bool)):=[[some false,some false,none,none,none,some false,some false,some false],[some true,some false,none,none,none,some false,some false,some false],[none,none,some false,some false,some false,some false,some false,some false],[none,none,some true,some false,some false,some false,some false,some false],[none,none,some true,some true,some false,some false,some false,some false],[some true,some true,some true,some true,some true,some false,some false,some false],[some true,some true,some true,some true,some true,some true,some false,some false],[some true,some true,some true,some true,some true,some true,some true,some false]]
theorem good_tree_made : Good Try.prog 41 Sp_tree_made:=by
  refine good_body (E:=M0) (nt:=79) (rs:=#[.cell 2 42]) Try.func41 rfl rfl rfl ?_
  rintro ds out ⟨l,rfl,hl,rfl⟩
  refine ⟨by simp,?_⟩
  have hg : (l.length + 7) / 8 = grN l.length:=rfl
  have hg1 : grN l.length ≤ 126:=by unfold grN;omega
  refine AW.m3 ⟨[(2,.ptr 2 0),(3,.sl 100 3 0 (grN l.length) true)],[(2,.box [.nil,.nil,.nil]),(100,.row 42 3 ((lvN l (grN l.length)).map nD))],79⟩ ?_ ?_
  · repeat' ((first
 | refine AW.seq ?_
 | refine AW.block ?_
 | refine AW.regl M0_ok [0,2,3,5,6,8,9,11,14,15,16,17,34,37,38,39,40,49,50,51,52,74] ?_
 | (refine AW.regc (id:=17) M0_ok follows bb_tree_made_17 (by kernel_rfl) [0,2,3,5,6,8,9,11,14,15,16,17,34,37,38,39,40,49,50,51,52,74] ?_)
 | refine then_n ?_
 | refine then_r ?_
 | refine then_x ?_
 | refine block_x ?_
 | refine block_o (by decide) ?_
 | refine block_n ?_
 | refine block_r ?_
 | refine AW.skip ?_
 | refine AW.ret ?_
 | refine AW.exit ?_
 | refine AW.cond rfl ?_ ?_
 | refine awl_none rfl ?_
 | refine awl_nil2 ?_
 | refine awc_none rfl ?_
 | exact each_nil
 | refine each_none rfl ?_ ?_
 | refine awc_leaf2 [some 55,some 56,some 57,some 58,some 59,some 60,some 61,none] cc_tree_made_17 rfl (by kernel_rfl) (by kernel_rfl) ?_ ?_
 | (refine fun (hc : _ = _)=>?_;first|cases hc|((try rw [hc]);(try simp only [stH] at hc);(try (exfalso;omega)));(try ((first|show Awl _ _ _ _ _|show Awc _ _ _ _ _ _);simp only [stU])))
 | ((first|refine fun (K : V → List _ → _) hK=>?_|refine fun (_ : V → V)=>?_|refine fun (bb : Nat → Bool) K hK=>?_);simp (maxSteps:=1000000) (disch:=omega) only [go_sem,Int.reduceEq,↓reduceIte,reduceCtorEq,Nat.reduceEqDiff,Nat.reduceLT,Nat.reduceLeDiff,Nat.reduceAdd,Nat.reduceSub,Nat.reduceMul,Int.reduceToNat,Int.reduceLE,Int.reduceLT,M0,Sp_tree_cut,Sp_tree_fresh,Sp_tree_Node_first,hg,Int.natCast_inj,Sg3,St.updIf,ifc_nil,gt_ifc,go_ifc,ite_self,Option.none_or,Option.some_or];(try (revert hK;intro hK;(repeat' first|(refine And.intro ?_ ?_)|(intro hc;first|cases hc|((try rw [hc]);(try simp only [stH] at hc);(try (exfalso;omega)))));all_goals first|(refine hK _ _ ?_;clear hK K;simp only [stU])|exact hK|omega)))) <;> (fail_if_success (show False;skip)))
    refine AW.loop_wk (fun i : Nat=>⟨[(0,.d (.list ((l.drop (offN l.length i)).map eD))),(2,.ptr 2 0),(3,.sl 100 3 0 i true),(14,.sl 14 1 0 (grN l.length) true),(15,.d (.v (.int .i64 (grN l.length)))),(16,.d (.v (.int .i64 i)))],[(2,.box [.nil,.nil,.nil]),(14,.row 3 1 ((szL l.length (grN l.length) (grN l.length)).map mI)),(100,.row 42 3 ((lvN l i).map nD))],79⟩)
      (fun i=>i ≤ grN l.length) (fun i=>grN l.length - i) 0 (Nat.zero_le _) (fun w0 oa aa w hs=>Wk.sr (ρ:=nm []) (Wk.of ?_) (nil_sr 3 100 42 3 rfl (by simp) rfl (by decide) hs)) ?_
    · have h0 : lvN l 0 = []:=rfl
      have h1:=offN_0 l.length
      simp (maxSteps:=1000000) (disch:=omega) only [go_sem,Int.reduceEq,↓reduceIte,reduceCtorEq,Nat.reduceEqDiff,Nat.reduceLT,Nat.reduceLeDiff,Nat.reduceAdd,Nat.reduceSub,Nat.reduceMul,Int.reduceToNat,Int.reduceLE,Int.reduceLT,M0,Sp_tree_cut,Sp_tree_fresh,Sp_tree_Node_first,h0,h1,List.drop_zero]
    intro i hi
    by_cases hi1 : i < grN l.length
    · have e1:=nth_I (szL l.length (grN l.length) (grN l.length)) i (by rw [szL_len];exact hi1)
      have e2 : (szL l.length (grN l.length) (grN l.length)).getD i 0 = (szN l.length i : Int):=by
        simp [szL,List.getD_eq_getElem?_getD,hi1,szI_szN]
      have e3:=szL_len l.length (grN l.length) (grN l.length)
      rw [e2] at e1
      have e4:=grp_cast l i
      have e5:=grp_len (l:=l) hi1
      have e6:=drop_next eD l i
      have e7:=lvN_succ l i
      have e8:=lvN_len l i
      have b1:=szN_le (n:=l.length) (i:=i) (by unfold grN at hi1;omega)
      have b2:=offN_le (n:=l.length) (i:=i + 1) hi1
      rw [offN_succ] at b2
      have e9 : (l.drop (offN l.length i)).length = l.length - offN l.length i:=List.length_drop
      obtain ⟨S,hS⟩ : ∃ S,szL l.length (grN l.length) (grN l.length) = S:=⟨_,rfl⟩
      obtain ⟨z,hz⟩ : ∃ z,szN l.length i = z:=⟨_,rfl⟩
      obtain ⟨G,hG⟩ : ∃ G,grp l i = G:=⟨_,rfl⟩
      obtain ⟨R,hR⟩ : ∃ R,lvN l i = R:=⟨_,rfl⟩
      obtain ⟨X,hX⟩ : ∃ X,l.drop (offN l.length i) = X:=⟨_,rfl⟩
      rw [hS] at e1 e3
      rw [hz] at e1 e4 e5 e6 b1 b2
      rw [hG] at e4 e5 e7
      rw [hR] at e7 e8
      rw [hX] at e4 e6 e9
      have c1 : R.map nD ++ [D.agg [.list (G.map eD),.list [],.list []]] = (R ++ [Nd.mk G [] []]).map nD:=by simp [nD_mk]
      have c2 : (G.map eD).take G.length = G.map eD:=List.take_of_length_le (by simp)
      have c3 : (R ++ [Nd.mk G [] []]).length = i + 1:=by simp [e8]
      have c4 : min z X.length = z:=by omega
      have c5 : (G.map eD).take z = G.map eD:=List.take_of_length_le (by simp [e5])
      have c7 : (X.map eD).take X.length = X.map eD:=List.take_of_length_le (by simp)
      have c6 : ((z : Int) ≤ (X.length : Int)) = True:=eq_true (by omega)
      repeat' ((first
 | refine AW.seq ?_
 | refine AW.block ?_
 | refine AW.regl M0_ok [0,2,3,5,6,8,9,11,14,15,16,17,34,37,38,39,40,49,50,51,52,74] ?_
 | (refine AW.regc (id:=17) M0_ok follows bb_tree_made_17 (by kernel_rfl) [0,2,3,5,6,8,9,11,14,15,16,17,34,37,38,39,40,49,50,51,52,74] ?_)
 | refine then_n ?_
 | refine then_r ?_
 | refine then_x ?_
 | refine block_x ?_
 | refine block_o (by decide) ?_
 | refine block_n ?_
 | refine block_r ?_
 | refine AW.skip ?_
 | refine AW.ret ?_
 | refine AW.exit ?_
 | refine AW.cond rfl ?_ ?_
 | refine awl_none rfl ?_
 | refine awl_nil2 ?_
 | refine awc_none rfl ?_
 | exact each_nil
 | refine each_none rfl ?_ ?_
 | refine awc_leaf2 [some 55,some 56,some 57,some 58,some 59,some 60,some 61,none] cc_tree_made_17 rfl (by kernel_rfl) (by kernel_rfl) ?_ ?_
 | (refine fun (hc : _ = _)=>?_;first|cases hc|((try rw [hc]);(try simp only [stH] at hc);(try (exfalso;omega)));(try ((first|show Awl _ _ _ _ _|show Awc _ _ _ _ _ _);simp only [stU])))
 | ((first|refine fun (K : V → List _ → _) hK=>?_|refine fun (_ : V → V)=>?_|refine fun (bb : Nat → Bool) K hK=>?_);simp (maxSteps:=1000000) (disch:=omega) only [go_sem,Int.reduceEq,↓reduceIte,reduceCtorEq,Nat.reduceEqDiff,Nat.reduceLT,Nat.reduceLeDiff,Nat.reduceAdd,Nat.reduceSub,Nat.reduceMul,Int.reduceToNat,Int.reduceLE,Int.reduceLT,M0,Sp_tree_cut,Sp_tree_fresh,Sp_tree_Node_first,hR,hS,hX,e1,e3,e4,e5,e6,e8,c1,c2,c5,all_E,all_I,eD_inj,Sg3,St.updIf,ifc_nil,gt_ifc,go_ifc,ite_self,Option.none_or,Option.some_or];(try (revert hK;intro hK;(repeat' first|(refine And.intro ?_ ?_)|(intro hc;first|cases hc|((try rw [hc]);(try simp only [stH] at hc);(try (exfalso;omega)))));all_goals first|(refine hK _ _ ?_;clear hK K;simp only [stU])|exact hK|omega)))) <;> (fail_if_success (show False;skip)))
      refine ⟨i + 1,by omega,by omega,nm [(2,2),(14,14),(100,27)],Wk.of ?_⟩
      simp (maxSteps:=1000000) (disch:=omega) only [go_sem,Int.reduceEq,↓reduceIte,reduceCtorEq,Nat.reduceEqDiff,Nat.reduceLT,Nat.reduceLeDiff,Nat.reduceAdd,Nat.reduceSub,Nat.reduceMul,Int.reduceToNat,Int.reduceLE,Int.reduceLT,M0,Sp_tree_cut,Sp_tree_fresh,Sp_tree_Node_first,e7,c7,e6]
      all_goals rfl
    · obtain rfl : i = grN l.length:=by omega
      repeat' ((first
 | refine AW.seq ?_
 | refine AW.block ?_
 | refine AW.regl M0_ok [0,2,3,5,6,8,9,11,14,15,16,17,34,37,38,39,40,49,50,51,52,74] ?_
 | (refine AW.regc (id:=17) M0_ok follows bb_tree_made_17 (by kernel_rfl) [0,2,3,5,6,8,9,11,14,15,16,17,34,37,38,39,40,49,50,51,52,74] ?_)
 | refine then_n ?_
 | refine then_r ?_
 | refine then_x ?_
 | refine block_x ?_
 | refine block_o (by decide) ?_
 | refine block_n ?_
 | refine block_r ?_
 | refine AW.skip ?_
 | refine AW.ret ?_
 | refine AW.exit ?_
 | refine AW.cond rfl ?_ ?_
 | refine awl_none rfl ?_
 | refine awl_nil2 ?_
 | refine awc_none rfl ?_
 | exact each_nil
 | refine each_none rfl ?_ ?_
 | refine awc_leaf2 [some 55,some 56,some 57,some 58,some 59,some 60,some 61,none] cc_tree_made_17 rfl (by kernel_rfl) (by kernel_rfl) ?_ ?_
 | (refine fun (hc : _ = _)=>?_;first|cases hc|((try rw [hc]);(try simp only [stH] at hc);(try (exfalso;omega)));(try ((first|show Awl _ _ _ _ _|show Awc _ _ _ _ _ _);simp only [stU])))
 | ((first|refine fun (K : V → List _ → _) hK=>?_|refine fun (_ : V → V)=>?_|refine fun (bb : Nat → Bool) K hK=>?_);simp (maxSteps:=1000000) (disch:=omega) only [go_sem,Int.reduceEq,↓reduceIte,reduceCtorEq,Nat.reduceEqDiff,Nat.reduceLT,Nat.reduceLeDiff,Nat.reduceAdd,Nat.reduceSub,Nat.reduceMul,Int.reduceToNat,Int.reduceLE,Int.reduceLT,M0,Sp_tree_cut,Sp_tree_fresh,Sp_tree_Node_first,Sg3,St.updIf,ifc_nil,gt_ifc,go_ifc,ite_self,Option.none_or,Option.some_or];(try (revert hK;intro hK;(repeat' first|(refine And.intro ?_ ?_)|(intro hc;first|cases hc|((try rw [hc]);(try simp only [stH] at hc);(try (exfalso;omega)))));all_goals first|(refine hK _ _ ?_;clear hK K;simp only [stU])|exact hK|omega)))) <;> (fail_if_success (show False;skip)))
      refine ⟨nm [(2,2),(100,100)],Wk.of ?_⟩
      simp (maxSteps:=1000000) (disch:=omega) only [go_sem,Int.reduceEq,↓reduceIte,reduceCtorEq,Nat.reduceEqDiff,Nat.reduceLT,Nat.reduceLeDiff,Nat.reduceAdd,Nat.reduceSub,Nat.reduceMul,Int.reduceToNat,Int.reduceLE,Int.reduceLT,M0,Sp_tree_cut,Sp_tree_fresh,Sp_tree_Node_first]
  repeat' ((first
 | refine AW.seq ?_
 | refine AW.block ?_
 | refine AW.regl M0_ok [0,2,3,5,6,8,9,11,14,15,16,17,34,37,38,39,40,49,50,51,52,74] ?_
 | (refine AW.regc (id:=17) M0_ok follows bb_tree_made_17 (by kernel_rfl) [0,2,3,5,6,8,9,11,14,15,16,17,34,37,38,39,40,49,50,51,52,74] ?_)
 | refine then_n ?_
 | refine then_r ?_
 | refine then_x ?_
 | refine block_x ?_
 | refine block_o (by decide) ?_
 | refine block_n ?_
 | refine block_r ?_
 | refine AW.skip ?_
 | refine AW.ret ?_
 | refine AW.exit ?_
 | refine AW.cond rfl ?_ ?_
 | refine awl_none rfl ?_
 | refine awl_nil2 ?_
 | refine awc_none rfl ?_
 | exact each_nil
 | refine each_none rfl ?_ ?_
 | refine awc_leaf2 [some 55,some 56,some 57,some 58,some 59,some 60,some 61,none] cc_tree_made_17 rfl (by kernel_rfl) (by kernel_rfl) ?_ ?_
 | (refine fun (hc : _ = _)=>?_;first|cases hc|((try rw [hc]);(try simp only [stH] at hc);(try (exfalso;omega)));(try ((first|show Awl _ _ _ _ _|show Awc _ _ _ _ _ _);simp only [stU])))
 | ((first|refine fun (K : V → List _ → _) hK=>?_|refine fun (_ : V → V)=>?_|refine fun (bb : Nat → Bool) K hK=>?_);simp (maxSteps:=1000000) (disch:=omega) only [go_sem,Int.reduceEq,↓reduceIte,reduceCtorEq,Nat.reduceEqDiff,Nat.reduceLT,Nat.reduceLeDiff,Nat.reduceAdd,Nat.reduceSub,Nat.reduceMul,Int.reduceToNat,Int.reduceLE,Int.reduceLT,M0,Sp_tree_cut,Sp_tree_fresh,Sp_tree_Node_first,Sg3,St.updIf,ifc_nil,gt_ifc,go_ifc,ite_self,Option.none_or,Option.some_or];(try (revert hK;intro hK;(repeat' first|(refine And.intro ?_ ?_)|(intro hc;first|cases hc|((try rw [hc]);(try simp only [stH] at hc);(try (exfalso;omega)))));all_goals first|(refine hK _ _ ?_;clear hK K;simp only [stU])|exact hK|omega)))) <;> (fail_if_success (show False;skip)))
  refine AW.loop_wk (fun x : Nat × List Nd=>⟨[(2,.ptr 2 0),(3,.sl 100 3 0 x.2.length true)],[(2,.box [.nil,.nil,.nil]),(100,.row 42 3 (x.2.map nD))],79⟩)
    (gU l (madeN l)) (fun x=>x.2.length) (1000000,lvN l (grN l.length)) (gU_0 hl) (fun w0 oa aa w hs=>Wk.sr (ρ:=nm []) (Wk.of ?_) hs) ?_
  · have h1:=lvN_len l (grN l.length)
    simp (maxSteps:=1000000) (disch:=omega) only [go_sem,Int.reduceEq,↓reduceIte,reduceCtorEq,Nat.reduceEqDiff,Nat.reduceLT,Nat.reduceLeDiff,Nat.reduceAdd,Nat.reduceSub,Nat.reduceMul,Int.reduceToNat,Int.reduceLE,Int.reduceLT,M0,Sp_tree_cut,Sp_tree_fresh,Sp_tree_Node_first,h1]
  rintro ⟨f,p⟩ hu
  have hpn:=hu.gn
  simp only at hpn
  by_cases h2 : 2 ≤ p.length
  · obtain ⟨f',rfl,hu'⟩:=gU_step hl hu h2
    have hok : ∀ q ∈ p,okc 8 q:=fun q hq=>by
      obtain ⟨i,hi,rfl⟩:=List.getElem_of_mem hq
      have:=gU_first hl hu h2 hi
      rwa [List.getD_eq_getElem?_getD,List.getElem?_eq_getElem hi] at this
    clear hu
    have hg2 : (p.length + 7) / 8 = grN p.length:=rfl
    have hgl : grN p.length ≤ 130000 ∧ 0 < grN p.length ∧ grN p.length < p.length:=by unfold grN;omega
    have hpt : (p.map nD).take p.length = p.map nD:=List.take_of_length_le (by simp)
    refine AW.wk (fun w0 oa aa w hs=>frz_sr 3 (d:=.list (p.map nD)) (by simp [toD,toD1,gt,go,hpt]) (by simp) hs) ?_
    repeat' ((first
 | refine AW.seq ?_
 | refine AW.block ?_
 | refine AW.regl M0_ok [0,2,3,5,6,8,9,11,14,15,16,17,34,37,38,39,40,49,50,51,52,74] ?_
 | (refine AW.regc (id:=17) M0_ok follows bb_tree_made_17 (by kernel_rfl) [0,2,3,5,6,8,9,11,14,15,16,17,34,37,38,39,40,49,50,51,52,74] ?_)
 | refine then_n ?_
 | refine then_r ?_
 | refine then_x ?_
 | refine block_x ?_
 | refine block_o (by decide) ?_
 | refine block_n ?_
 | refine block_r ?_
 | refine AW.skip ?_
 | refine AW.ret ?_
 | refine AW.exit ?_
 | refine AW.cond rfl ?_ ?_
 | refine awl_none rfl ?_
 | refine awl_nil2 ?_
 | refine awc_none rfl ?_
 | exact each_nil
 | refine each_none rfl ?_ ?_
 | refine awc_leaf2 [some 55,some 56,some 57,some 58,some 59,some 60,some 61,none] cc_tree_made_17 rfl (by kernel_rfl) (by kernel_rfl) ?_ ?_
 | (refine fun (hc : _ = _)=>?_;first|cases hc|((try rw [hc]);(try simp only [stH] at hc);(try (exfalso;omega)));(try ((first|show Awl _ _ _ _ _|show Awc _ _ _ _ _ _);simp only [stU])))
 | ((first|refine fun (K : V → List _ → _) hK=>?_|refine fun (_ : V → V)=>?_|refine fun (bb : Nat → Bool) K hK=>?_);simp (maxSteps:=1000000) (disch:=omega) only [go_sem,Int.reduceEq,↓reduceIte,reduceCtorEq,Nat.reduceEqDiff,Nat.reduceLT,Nat.reduceLeDiff,Nat.reduceAdd,Nat.reduceSub,Nat.reduceMul,Int.reduceToNat,Int.reduceLE,Int.reduceLT,M0,Sp_tree_cut,Sp_tree_fresh,Sp_tree_Node_first,hg2,Int.natCast_inj,Sg3,St.updIf,ifc_nil,gt_ifc,go_ifc,ite_self,Option.none_or,Option.some_or];(try (revert hK;intro hK;(repeat' first|(refine And.intro ?_ ?_)|(intro hc;first|cases hc|((try rw [hc]);(try simp only [stH] at hc);(try (exfalso;omega)))));all_goals first|(refine hK _ _ ?_;clear hK K;simp only [stU])|exact hK|omega)))) <;> (fail_if_success (show False;skip)))
    refine AW.loop_wk (fun i : Nat=>⟨[(2,.ptr 2 0),(3,.d (.list ((p.drop (offN p.length i)).map nD))),(6,.sl 200 3 0 i true),(37,.sl 37 1 0 (grN p.length) true),(38,.d (.v (.int .i64 (grN p.length)))),(39,.d (.v (.int .i64 i)))],[(2,.box [.nil,.nil,.nil]),(37,.row 3 1 ((szL p.length (grN p.length) (grN p.length)).map mI)),(200,.row 42 3 ((upN p i).map nD))],79⟩)
      (fun i=>i ≤ grN p.length) (fun i=>grN p.length - i) 0 (Nat.zero_le _) (fun w0 oa aa w hs=>Wk.sr (ρ:=nm []) (Wk.of ?_) (nil_sr 6 200 42 3 rfl (by simp) rfl (by decide) hs)) ?_
    · have h0 : upN p 0 = []:=rfl
      have h1:=offN_0 p.length
      simp (maxSteps:=1000000) (disch:=omega) only [go_sem,Int.reduceEq,↓reduceIte,reduceCtorEq,Nat.reduceEqDiff,Nat.reduceLT,Nat.reduceLeDiff,Nat.reduceAdd,Nat.reduceSub,Nat.reduceMul,Int.reduceToNat,Int.reduceLE,Int.reduceLT,M0,Sp_tree_cut,Sp_tree_fresh,Sp_tree_Node_first,h0,h1,List.drop_zero]
    intro i hi
    by_cases hi1 : i < grN p.length
    · have e1:=nth_I (szL p.length (grN p.length) (grN p.length)) i (by rw [szL_len];exact hi1)
      have e2 : (szL p.length (grN p.length) (grN p.length)).getD i 0 = (szN p.length i : Int):=by
        simp [szL,List.getD_eq_getElem?_getD,hi1,szI_szN]
      have e3:=szL_len p.length (grN p.length) (grN p.length)
      rw [e2] at e1
      have e4:=grp_castN p i
      have e5:=grp_len (l:=p) hi1
      have e6:=drop_next nD p i
      have e7:=upN_succ p i
      have e8:=upN_len p i
      have b1:=szN_le (n:=p.length) (i:=i) (by omega)
      have b2:=offN_le (n:=p.length) (i:=i + 1) hi1
      rw [offN_succ] at b2
      have e9 : (p.drop (offN p.length i)).length = p.length - offN p.length i:=List.length_drop
      have hokG : ∀ q ∈ grp p i,okc 8 q:=fun q hq=>hok q (List.mem_of_mem_drop (List.mem_of_mem_take hq))
      obtain ⟨S,hS⟩ : ∃ S,szL p.length (grN p.length) (grN p.length) = S:=⟨_,rfl⟩
      obtain ⟨z,hz⟩ : ∃ z,szN p.length i = z:=⟨_,rfl⟩
      obtain ⟨G,hG⟩ : ∃ G,grp p i = G:=⟨_,rfl⟩
      obtain ⟨R,hR⟩ : ∃ R,upN p i = R:=⟨_,rfl⟩
      obtain ⟨X,hX⟩ : ∃ X,p.drop (offN p.length i) = X:=⟨_,rfl⟩
      rw [hS] at e1 e3
      rw [hz] at e1 e4 e5 e6 b1 b2
      rw [hG] at e4 e5 e7 hokG
      rw [hR] at e7 e8
      rw [hX] at e4 e6 e9
      have c1 : R.map nD ++ [D.agg [.list [],.list ((G.map frN).map mI),.list (G.map nD)]] = (R ++ [Nd.mk [] (G.map frN) G]).map nD:=by simp [nD_mk]
      have c5 : (G.map nD).take z = G.map nD:=List.take_of_length_le (by simp [e5])
      have c7 : (X.map nD).take X.length = X.map nD:=List.take_of_length_le (by simp)
      have c8 : (G.map frN).length = G.length:=by simp
      repeat' ((first
 | refine AW.seq ?_
 | refine AW.block ?_
 | refine AW.regl M0_ok [0,2,3,5,6,8,9,11,14,15,16,17,34,37,38,39,40,49,50,51,52,74] ?_
 | (refine AW.regc (id:=17) M0_ok follows bb_tree_made_17 (by kernel_rfl) [0,2,3,5,6,8,9,11,14,15,16,17,34,37,38,39,40,49,50,51,52,74] ?_)
 | refine then_n ?_
 | refine then_r ?_
 | refine then_x ?_
 | refine block_x ?_
 | refine block_o (by decide) ?_
 | refine block_n ?_
 | refine block_r ?_
 | refine AW.skip ?_
 | refine AW.ret ?_
 | refine AW.exit ?_
 | refine AW.cond rfl ?_ ?_
 | refine awl_none rfl ?_
 | refine awl_nil2 ?_
 | refine awc_none rfl ?_
 | exact each_nil
 | refine each_none rfl ?_ ?_
 | refine awc_leaf2 [some 55,some 56,some 57,some 58,some 59,some 60,some 61,none] cc_tree_made_17 rfl (by kernel_rfl) (by kernel_rfl) ?_ ?_
 | (refine fun (hc : _ = _)=>?_;first|cases hc|((try rw [hc]);(try simp only [stH] at hc);(try (exfalso;omega)));(try ((first|show Awl _ _ _ _ _|show Awc _ _ _ _ _ _);simp only [stU])))
 | ((first|refine fun (K : V → List _ → _) hK=>?_|refine fun (_ : V → V)=>?_|refine fun (bb : Nat → Bool) K hK=>?_);simp (maxSteps:=1000000) (disch:=omega) only [go_sem,Int.reduceEq,↓reduceIte,reduceCtorEq,Nat.reduceEqDiff,Nat.reduceLT,Nat.reduceLeDiff,Nat.reduceAdd,Nat.reduceSub,Nat.reduceMul,Int.reduceToNat,Int.reduceLE,Int.reduceLT,M0,Sp_tree_cut,Sp_tree_fresh,Sp_tree_Node_first,hR,hS,hX,e1,e3,e4,e5,e6,e8,c1,c5,all_N,all_I,eD_inj,Sg3,St.updIf,ifc_nil,gt_ifc,go_ifc,ite_self,Option.none_or,Option.some_or];(try (revert hK;intro hK;(repeat' first|(refine And.intro ?_ ?_)|(intro hc;first|cases hc|((try rw [hc]);(try simp only [stH] at hc);(try (exfalso;omega)))));all_goals first|(refine hK _ _ ?_;clear hK K;simp only [stU])|exact hK|omega)))) <;> (fail_if_success (show False;skip)))
      refine AW.loop_wk (fun m : Nat=>⟨[(2,.ptr 2 0),(3,.d (.list (X.map nD))),(6,.sl 200 3 0 i true),(8,.d (.v (.int .i64 z))),(9,.ptr 9 0),(37,.sl 37 1 0 (grN p.length) true),(38,.d (.v (.int .i64 (grN p.length)))),(39,.d (.v (.int .i64 i))),(49,.d (.list (G.map nD))),(50,.d (.v (.int .i64 G.length))),(51,.d (.v (.int .i64 m)))],[(2,.box [.nil,.nil,.nil]),(9,.box [.nil,.sl 300 1 0 m true,.d (.list (G.map nD))]),(37,.row 3 1 (S.map mI)),(200,.row 42 3 (R.map nD)),(300,.row 3 1 (((G.map frN).take m).map mI))],79⟩)
        (fun m=>m ≤ G.length) (fun m=>G.length - m) 0 (Nat.zero_le _) (fun w0 oa aa w hs=>Wk.sr (ρ:=nm []) (Wk.of ?_) (nilB_sr 9 300 1 3 1 rfl rfl rfl (by decide) hs)) ?_
      · simp (maxSteps:=1000000) (disch:=omega) only [go_sem,Int.reduceEq,↓reduceIte,reduceCtorEq,Nat.reduceEqDiff,Nat.reduceLT,Nat.reduceLeDiff,Nat.reduceAdd,Nat.reduceSub,Nat.reduceMul,Int.reduceToNat,Int.reduceLE,Int.reduceLT,M0,Sp_tree_cut,Sp_tree_fresh,Sp_tree_Node_first,hR,hS,hX,e5,List.set_cons_succ,List.set_cons_zero,List.take_zero]
        all_goals rfl
      intro m hm
      by_cases hm1 : m < G.length
      · have f1:=nth_N G m hm1
        have f2:=hokG _ (memN_getD hm1)
        have f3 : (G.map frN).take (m + 1) = (G.map frN).take m ++ [frN (G.getD m n0)]:=by
          rw [List.take_succ_eq_append_getElem (by simpa using hm1)]
          simp [List.getD_eq_getElem?_getD,hm1]
        have f4 : ((G.map frN).take m).length = m:=by rw [List.length_take,c8];omega
        obtain ⟨⟨l2,f2',p2⟩,hn⟩ : ∃ n,G.getD m n0 = n:=⟨_,rfl⟩
        rw [hn,nD_mk] at f1
        rw [hn] at f2 f3
        have f2t : okc 8 (.mk l2 f2' p2) = True:=eq_true f2
        have f5 : ((ckR (chk 8 true (.mk l2 f2' p2))).getD 0 x0).f0 = frN (.mk l2 f2' p2):=rfl
        obtain ⟨y,hy⟩ : ∃ y,frN (.mk l2 f2' p2) = y:=⟨_,rfl⟩
        rw [hy] at f3 f5
        obtain ⟨T,hT⟩ : ∃ T,(G.map frN).take m = T:=⟨_,rfl⟩
        rw [hT] at f3 f4
        have f6 : T.map mI ++ [D.v (.int .i64 y)] = (T ++ [y]).map mI:=by simp [mI]
        have f7 : (T ++ [y]).length = m + 1:=by simp [f4]
        repeat' ((first
 | refine AW.seq ?_
 | refine AW.block ?_
 | refine AW.regl M0_ok [0,2,3,5,6,8,9,11,14,15,16,17,34,37,38,39,40,49,50,51,52,74] ?_
 | (refine AW.regc (id:=17) M0_ok follows bb_tree_made_17 (by kernel_rfl) [0,2,3,5,6,8,9,11,14,15,16,17,34,37,38,39,40,49,50,51,52,74] ?_)
 | refine then_n ?_
 | refine then_r ?_
 | refine then_x ?_
 | refine block_x ?_
 | refine block_o (by decide) ?_
 | refine block_n ?_
 | refine block_r ?_
 | refine AW.skip ?_
 | refine AW.ret ?_
 | refine AW.exit ?_
 | refine AW.cond rfl ?_ ?_
 | refine awl_none rfl ?_
 | refine awl_nil2 ?_
 | refine awc_none rfl ?_
 | exact each_nil
 | refine each_none rfl ?_ ?_
 | refine awc_leaf2 [some 55,some 56,some 57,some 58,some 59,some 60,some 61,none] cc_tree_made_17 rfl (by kernel_rfl) (by kernel_rfl) ?_ ?_
 | (refine fun (hc : _ = _)=>?_;first|cases hc|((try rw [hc]);(try simp only [stH] at hc);(try (exfalso;omega)));(try ((first|show Awl _ _ _ _ _|show Awc _ _ _ _ _ _);simp only [stU])))
 | ((first|refine fun (K : V → List _ → _) hK=>?_|refine fun (_ : V → V)=>?_|refine fun (bb : Nat → Bool) K hK=>?_);simp (maxSteps:=1000000) (disch:=omega) only [go_sem,Int.reduceEq,↓reduceIte,reduceCtorEq,Nat.reduceEqDiff,Nat.reduceLT,Nat.reduceLeDiff,Nat.reduceAdd,Nat.reduceSub,Nat.reduceMul,Int.reduceToNat,Int.reduceLE,Int.reduceLT,M0,Sp_tree_cut,Sp_tree_fresh,Sp_tree_Node_first,hT,f1,f2t,f4,f5,f6,f7,all_N,all_I,eD_inj,mI_inj,nD_inj,List.set_cons_succ,List.set_cons_zero,Sg3,St.updIf,ifc_nil,gt_ifc,go_ifc,ite_self,Option.none_or,Option.some_or];(try (revert hK;intro hK;(repeat' first|(refine And.intro ?_ ?_)|(intro hc;first|cases hc|((try rw [hc]);(try simp only [stH] at hc);(try (exfalso;omega)))));all_goals first|(refine hK _ _ ?_;clear hK K;simp only [stU])|exact hK|omega)))) <;> (fail_if_success (show False;skip)))
        refine ⟨m + 1,by omega,by omega,nm [(2,2),(9,9),(37,37),(200,200),(300,60)],Wk.of ?_⟩
        simp (maxSteps:=1000000) (disch:=omega) only [go_sem,Int.reduceEq,↓reduceIte,reduceCtorEq,Nat.reduceEqDiff,Nat.reduceLT,Nat.reduceLeDiff,Nat.reduceAdd,Nat.reduceSub,Nat.reduceMul,Int.reduceToNat,Int.reduceLE,Int.reduceLT,M0,Sp_tree_cut,Sp_tree_fresh,Sp_tree_Node_first,f3]
        all_goals rfl
      · obtain rfl : m = G.length:=by omega
        have f3 : (G.map frN).take G.length = G.map frN:=List.take_of_length_le (by simp)
        have f4 : ((G.map frN).map mI).take G.length = (G.map frN).map mI:=List.take_of_length_le (by simp)
        repeat' ((first
 | refine AW.seq ?_
 | refine AW.block ?_
 | refine AW.regl M0_ok [0,2,3,5,6,8,9,11,14,15,16,17,34,37,38,39,40,49,50,51,52,74] ?_
 | (refine AW.regc (id:=17) M0_ok follows bb_tree_made_17 (by kernel_rfl) [0,2,3,5,6,8,9,11,14,15,16,17,34,37,38,39,40,49,50,51,52,74] ?_)
 | refine then_n ?_
 | refine then_r ?_
 | refine then_x ?_
 | refine block_x ?_
 | refine block_o (by decide) ?_
 | refine block_n ?_
 | refine block_r ?_
 | refine AW.skip ?_
 | refine AW.ret ?_
 | refine AW.exit ?_
 | refine AW.cond rfl ?_ ?_
 | refine awl_none rfl ?_
 | refine awl_nil2 ?_
 | refine awc_none rfl ?_
 | exact each_nil
 | refine each_none rfl ?_ ?_
 | refine awc_leaf2 [some 55,some 56,some 57,some 58,some 59,some 60,some 61,none] cc_tree_made_17 rfl (by kernel_rfl) (by kernel_rfl) ?_ ?_
 | (refine fun (hc : _ = _)=>?_;first|cases hc|((try rw [hc]);(try simp only [stH] at hc);(try (exfalso;omega)));(try ((first|show Awl _ _ _ _ _|show Awc _ _ _ _ _ _);simp only [stU])))
 | ((first|refine fun (K : V → List _ → _) hK=>?_|refine fun (_ : V → V)=>?_|refine fun (bb : Nat → Bool) K hK=>?_);simp (maxSteps:=1000000) (disch:=omega) only [go_sem,Int.reduceEq,↓reduceIte,reduceCtorEq,Nat.reduceEqDiff,Nat.reduceLT,Nat.reduceLeDiff,Nat.reduceAdd,Nat.reduceSub,Nat.reduceMul,Int.reduceToNat,Int.reduceLE,Int.reduceLT,M0,Sp_tree_cut,Sp_tree_fresh,Sp_tree_Node_first,f3,f4,c1,c7,c8,e6,e8,all_N,all_I,List.set_cons_succ,List.set_cons_zero,Sg3,St.updIf,ifc_nil,gt_ifc,go_ifc,ite_self,Option.none_or,Option.some_or];(try (revert hK;intro hK;(repeat' first|(refine And.intro ?_ ?_)|(intro hc;first|cases hc|((try rw [hc]);(try simp only [stH] at hc);(try (exfalso;omega)))));all_goals first|(refine hK _ _ ?_;clear hK K;simp only [stU])|exact hK|omega)))) <;> (fail_if_success (show False;skip)))
        refine ⟨i + 1,by omega,by omega,nm [(2,2),(37,37),(200,66)],Wk.of ?_⟩
        simp (maxSteps:=1000000) (disch:=omega) only [go_sem,Int.reduceEq,↓reduceIte,reduceCtorEq,Nat.reduceEqDiff,Nat.reduceLT,Nat.reduceLeDiff,Nat.reduceAdd,Nat.reduceSub,Nat.reduceMul,Int.reduceToNat,Int.reduceLE,Int.reduceLT,M0,Sp_tree_cut,Sp_tree_fresh,Sp_tree_Node_first,e7,e6,c7,hS]
        all_goals rfl
    · obtain rfl : i = grN p.length:=by omega
      repeat' ((first
 | refine AW.seq ?_
 | refine AW.block ?_
 | refine AW.regl M0_ok [0,2,3,5,6,8,9,11,14,15,16,17,34,37,38,39,40,49,50,51,52,74] ?_
 | (refine AW.regc (id:=17) M0_ok follows bb_tree_made_17 (by kernel_rfl) [0,2,3,5,6,8,9,11,14,15,16,17,34,37,38,39,40,49,50,51,52,74] ?_)
 | refine then_n ?_
 | refine then_r ?_
 | refine then_x ?_
 | refine block_x ?_
 | refine block_o (by decide) ?_
 | refine block_n ?_
 | refine block_r ?_
 | refine AW.skip ?_
 | refine AW.ret ?_
 | refine AW.exit ?_
 | refine AW.cond rfl ?_ ?_
 | refine awl_none rfl ?_
 | refine awl_nil2 ?_
 | refine awc_none rfl ?_
 | exact each_nil
 | refine each_none rfl ?_ ?_
 | refine awc_leaf2 [some 55,some 56,some 57,some 58,some 59,some 60,some 61,none] cc_tree_made_17 rfl (by kernel_rfl) (by kernel_rfl) ?_ ?_
 | (refine fun (hc : _ = _)=>?_;first|cases hc|((try rw [hc]);(try simp only [stH] at hc);(try (exfalso;omega)));(try ((first|show Awl _ _ _ _ _|show Awc _ _ _ _ _ _);simp only [stU])))
 | ((first|refine fun (K : V → List _ → _) hK=>?_|refine fun (_ : V → V)=>?_|refine fun (bb : Nat → Bool) K hK=>?_);simp (maxSteps:=1000000) (disch:=omega) only [go_sem,Int.reduceEq,↓reduceIte,reduceCtorEq,Nat.reduceEqDiff,Nat.reduceLT,Nat.reduceLeDiff,Nat.reduceAdd,Nat.reduceSub,Nat.reduceMul,Int.reduceToNat,Int.reduceLE,Int.reduceLT,M0,Sp_tree_cut,Sp_tree_fresh,Sp_tree_Node_first,Sg3,St.updIf,ifc_nil,gt_ifc,go_ifc,ite_self,Option.none_or,Option.some_or];(try (revert hK;intro hK;(repeat' first|(refine And.intro ?_ ?_)|(intro hc;first|cases hc|((try rw [hc]);(try simp only [stH] at hc);(try (exfalso;omega)))));all_goals first|(refine hK _ _ ?_;clear hK K;simp only [stU])|exact hK|omega)))) <;> (fail_if_success (show False;skip)))
      refine ⟨(f',upN p (grN p.length)),hu',by dsimp only;rw [upN_len];omega,nm [(2,2),(100,200)],Wk.of ?_⟩
      have h8:=upN_len p (grN p.length)
      simp (maxSteps:=1000000) (disch:=omega) only [go_sem,Int.reduceEq,↓reduceIte,reduceCtorEq,Nat.reduceEqDiff,Nat.reduceLT,Nat.reduceLeDiff,Nat.reduceAdd,Nat.reduceSub,Nat.reduceMul,Int.reduceToNat,Int.reduceLE,Int.reduceLT,M0,Sp_tree_cut,Sp_tree_fresh,Sp_tree_Node_first,h8]
      all_goals rfl
  · rcases hu.one (by simp only;omega) with ⟨h1,h3,h4⟩|⟨n,d,m,h1,h3,h4⟩
    · simp only at h1
      subst h1 h3
      have hz : madeOut [] = ⟨.agg [.nil,.nil,.nil],[]⟩:=by unfold madeOut;rw [if_pos rfl]
      repeat' ((first
 | refine AW.seq ?_
 | refine AW.block ?_
 | refine AW.regl M0_ok [0,2,3,5,6,8,9,11,14,15,16,17,34,37,38,39,40,49,50,51,52,74] ?_
 | (refine AW.regc (id:=17) M0_ok follows bb_tree_made_17 (by kernel_rfl) [0,2,3,5,6,8,9,11,14,15,16,17,34,37,38,39,40,49,50,51,52,74] ?_)
 | refine then_n ?_
 | refine then_r ?_
 | refine then_x ?_
 | refine block_x ?_
 | refine block_o (by decide) ?_
 | refine block_n ?_
 | refine block_r ?_
 | refine AW.skip ?_
 | refine AW.ret ?_
 | refine AW.exit ?_
 | refine AW.cond rfl ?_ ?_
 | refine awl_none rfl ?_
 | refine awl_nil2 ?_
 | refine awc_none rfl ?_
 | exact each_nil
 | refine each_none rfl ?_ ?_
 | refine awc_leaf2 [some 55,some 56,some 57,some 58,some 59,some 60,some 61,none] cc_tree_made_17 rfl (by kernel_rfl) (by kernel_rfl) ?_ ?_
 | (refine fun (hc : _ = _)=>?_;first|cases hc|((try rw [hc]);(try simp only [stH] at hc);(try (exfalso;omega)));(try ((first|show Awl _ _ _ _ _|show Awc _ _ _ _ _ _);simp only [stU])))
 | ((first|refine fun (K : V → List _ → _) hK=>?_|refine fun (_ : V → V)=>?_|refine fun (bb : Nat → Bool) K hK=>?_);simp (maxSteps:=1000000) (disch:=omega) only [go_sem,Int.reduceEq,↓reduceIte,reduceCtorEq,Nat.reduceEqDiff,Nat.reduceLT,Nat.reduceLeDiff,Nat.reduceAdd,Nat.reduceSub,Nat.reduceMul,Int.reduceToNat,Int.reduceLE,Int.reduceLT,M0,Sp_tree_cut,Sp_tree_fresh,Sp_tree_Node_first,Sg3,St.updIf,ifc_nil,gt_ifc,go_ifc,ite_self,Option.none_or,Option.some_or];(try (revert hK;intro hK;(repeat' first|(refine And.intro ?_ ?_)|(intro hc;first|cases hc|((try rw [hc]);(try simp only [stH] at hc);(try (exfalso;omega)))));all_goals first|(refine hK _ _ ?_;clear hK K;simp only [stU])|exact hK|omega)))) <;> (fail_if_success (show False;skip)))
      all_goals (refine Ends.of (nm []) (by first|exact .inl rfl|exact .inr rfl) ?_;simp (maxSteps:=1000000) (disch:=omega) only [go_sem,Int.reduceEq,↓reduceIte,reduceCtorEq,Nat.reduceEqDiff,Nat.reduceLT,Nat.reduceLeDiff,Nat.reduceAdd,Nat.reduceSub,Nat.reduceMul,Int.reduceToNat,Int.reduceLE,Int.reduceLT,M0,Sp_tree_cut,Sp_tree_fresh,Sp_tree_Node_first,hz])
    · simp only at h1
      subst h1
      have hne : l ≠ []:=chk_ne h4
      obtain ⟨l2,f2,p2⟩:=n
      have hz : madeOut l = ⟨.agg [.d (.list (l2.map eD)),.d (.list (f2.map mI)),.d (.list (p2.map nD))],[]⟩:=by unfold madeOut;rw [if_neg hne,h3];rfl
      have e1 : nth [nD (Nd.mk l2 f2 p2)] 0 = .agg [.list (l2.map eD),.list (f2.map mI),.list (p2.map nD)]:=by rw [← nD_mk];rfl
      repeat' ((first
 | refine AW.seq ?_
 | refine AW.block ?_
 | refine AW.regl M0_ok [0,2,3,5,6,8,9,11,14,15,16,17,34,37,38,39,40,49,50,51,52,74] ?_
 | (refine AW.regc (id:=17) M0_ok follows bb_tree_made_17 (by kernel_rfl) [0,2,3,5,6,8,9,11,14,15,16,17,34,37,38,39,40,49,50,51,52,74] ?_)
 | refine then_n ?_
 | refine then_r ?_
 | refine then_x ?_
 | refine block_x ?_
 | refine block_o (by decide) ?_
 | refine block_n ?_
 | refine block_r ?_
 | refine AW.skip ?_
 | refine AW.ret ?_
 | refine AW.exit ?_
 | refine AW.cond rfl ?_ ?_
 | refine awl_none rfl ?_
 | refine awl_nil2 ?_
 | refine awc_none rfl ?_
 | exact each_nil
 | refine each_none rfl ?_ ?_
 | refine awc_leaf2 [some 55,some 56,some 57,some 58,some 59,some 60,some 61,none] cc_tree_made_17 rfl (by kernel_rfl) (by kernel_rfl) ?_ ?_
 | (refine fun (hc : _ = _)=>?_;first|cases hc|((try rw [hc]);(try simp only [stH] at hc);(try (exfalso;omega)));(try ((first|show Awl _ _ _ _ _|show Awc _ _ _ _ _ _);simp only [stU])))
 | ((first|refine fun (K : V → List _ → _) hK=>?_|refine fun (_ : V → V)=>?_|refine fun (bb : Nat → Bool) K hK=>?_);simp (maxSteps:=1000000) (disch:=omega) only [go_sem,Int.reduceEq,↓reduceIte,reduceCtorEq,Nat.reduceEqDiff,Nat.reduceLT,Nat.reduceLeDiff,Nat.reduceAdd,Nat.reduceSub,Nat.reduceMul,Int.reduceToNat,Int.reduceLE,Int.reduceLT,M0,Sp_tree_cut,Sp_tree_fresh,Sp_tree_Node_first,e1,all_N,Sg3,St.updIf,ifc_nil,gt_ifc,go_ifc,ite_self,Option.none_or,Option.some_or];(try (revert hK;intro hK;(repeat' first|(refine And.intro ?_ ?_)|(intro hc;first|cases hc|((try rw [hc]);(try simp only [stH] at hc);(try (exfalso;omega)))));all_goals first|(refine hK _ _ ?_;clear hK K;simp only [stU])|exact hK|omega)))) <;> (fail_if_success (show False;skip)))
      all_goals (refine Ends.of (nm []) (by first|exact .inl rfl|exact .inr rfl) ?_;simp (maxSteps:=1000000) (disch:=omega) only [go_sem,Int.reduceEq,↓reduceIte,reduceCtorEq,Nat.reduceEqDiff,Nat.reduceLT,Nat.reduceLeDiff,Nat.reduceAdd,Nat.reduceSub,Nat.reduceMul,Int.reduceToNat,Int.reduceLE,Int.reduceLT,M0,Sp_tree_cut,Sp_tree_fresh,Sp_tree_Node_first,hz])
theorem ent_tree_made : Ent Try.prog 41:=⟨_,Try.func41,rfl,by decide⟩
end Go.Proofs.Ytleahjfgedfgmaa.Am
