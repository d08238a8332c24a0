import Derived.Test.YtigkcigoiinkpaaZNEb
import Derived.Test.YtigkcigoiinkpaaZNEc
import Derived.Test.YtigkcigoiinkpaaZNEd
import Derived.Test.YtigkcigoiinkpaaZN9
import Derived.Test.YtigkcigoiinkpaaZRA
set_option linter.unusedVariables false
set_option linter.unusedSimpArgs false
set_option maxRecDepth 10000
set_option maxHeartbeats 0
namespace Go.Proofs.Ytigkcigoiinkpaa.Am
open Go Go.RowKit Go.Proofs
noncomputable def NE1 : Env:=⟨Try.prog,fun f ds out=>(f = 53 ∧ Sp_overdubref20_MayLeaf ds out) ∨ (f = 55 ∧ Sp_overdubref14_Extents ds out) ∨ (f = 54 ∧ Sp_overdubref20_seal ds out),Es,fun _=>false⟩
theorem NE1_sp : ∀ f ds out,NE1.Sp f ds out → Ent NE1.P f ∧ Good NE1.P f (fun a b=>a = ds ∧ b = out):=by
  rintro f ds out (⟨rfl,h⟩|⟨rfl,h⟩|⟨rfl,h⟩)
  · exact ⟨ent_overdubref20_MayLeaf,good_overdubref20_MayLeaf.one h⟩
  · exact ⟨ent_overdubref14_Extents,good_overdubref14_Extents.one h⟩
  · exact ⟨ent_overdubref20_seal,good_overdubref20_seal.one h⟩
theorem NE1_ok : NE1.Ok:=⟨NE1_sp,Es_ok⟩
def Sp_overdubref20_PackLeaf (ds : List D) (out : Out) : Prop:=∃ l : List Xt,ds = [.list (l.map eD)] ∧ l.length ≤ 9223372036854775807 ∧ out = packFOut l
theorem good_overdubref20_PackLeaf : Good Try.prog 26 Sp_overdubref20_PackLeaf:=by
  refine good_body (E:=NE1) (nt:=12) (rs:=#[.tmp 2,.tmp 3]) Try.func26 rfl rfl rfl ?_
  rintro ds out ⟨l,rfl,hl,rfl⟩
  refine ⟨by simp,?_⟩
  by_cases hm : mayF l
  case neg =>
    have hz : packFOut l = ⟨.tup [.nil,.d (.v (.bool false))],[]⟩:=if_neg hm
    have hb : bMayLeaf l = false:=by classical exact decide_eq_false hm
    repeat' first
 | refine AW.seq ?_
 | refine AW.block ?_
 | refine AW.regl NE1_ok [0,2,3,6] ?_
 | refine then_n ?_
 | refine then_r ?_
 | refine then_x ?_
 | refine block_x ?_
 | refine block_o (by decide) ?_
 | refine block_n ?_
 | refine block_r ?_
 | refine AW.skip ?_
 | refine AW.ret ?_
 | refine AW.exit ?_
 | refine AW.cond rfl ?_ ?_
 | refine awl_none rfl ?_
 | refine awl_nil2 ?_
 | (refine fun (hc : _ = _)=>?_;first|cases hc|((try rw [hc]);(try simp only [stH] at hc);(try (exfalso;omega)));(try (show Awl _ _ _ _ _;simp only [stU])))
 | ((first|refine fun (K : V → List _ → _) hK=>?_|refine fun (_ : V → V)=>?_);simp (disch:=omega) only [go_sem,Int.reduceEq,↓reduceIte,reduceCtorEq,Nat.reduceEqDiff,Nat.reduceLT,Nat.reduceLeDiff,Nat.reduceAdd,Nat.reduceSub,Nat.reduceMul,Int.reduceToNat,Int.reduceLE,Int.reduceLT,NE1,Sp_overdubref20_MayLeaf,Sp_overdubref14_Extents,Sp_overdubref20_seal,hb,eD_inj];(try (revert hK;intro hK;(repeat' first|(refine And.intro ?_ ?_)|(intro hc;first|cases hc|((try rw [hc]);(try simp only [stH] at hc);(try (exfalso;omega)))));all_goals first|(refine hK _ _ ?_;clear hK K;simp only [stU])|exact hK|omega)))
    (refine Ends.of (nm []) (by first|exact .inl rfl|exact .inr rfl) ?_;simp (disch:=omega) only [go_sem,Int.reduceEq,↓reduceIte,reduceCtorEq,Nat.reduceEqDiff,Nat.reduceLT,Nat.reduceLeDiff,Nat.reduceAdd,Nat.reduceSub,Nat.reduceMul,Int.reduceToNat,Int.reduceLE,Int.reduceLT,NE1,Sp_overdubref20_MayLeaf,Sp_overdubref14_Extents,Sp_overdubref20_seal,hz])
  have hz : packFOut l = ⟨.tup [.sl 0 1 0 128 true,.d (.v (.bool true))],[(0,.row 5 1 ((nodP 1 l.length (exsB l)).map mB))]⟩:=if_pos hm
  have hb : bMayLeaf l = true:=by classical exact decide_eq_true hm
  have hq : (∀ e ∈ l,numE e) = True:=eq_true (mayF_num hm)
  have h8:=hm.2.1
  have hel : (exsB l).length = 7 * l.length:=exsB_length l
  have hey : Byt (exsB l) = True:=eq_true (exsB_byt l)
  have het : ((exsB l).map mB).take (7 * l.length) = (exsB l).map mB:=List.take_of_length_le (by rw [List.length_map,hel];omega)
  repeat' first
 | refine AW.seq ?_
 | refine AW.block ?_
 | refine AW.regl NE1_ok [0,2,3,6] ?_
 | refine then_n ?_
 | refine then_r ?_
 | refine then_x ?_
 | refine block_x ?_
 | refine block_o (by decide) ?_
 | refine block_n ?_
 | refine block_r ?_
 | refine AW.skip ?_
 | refine AW.ret ?_
 | refine AW.exit ?_
 | refine AW.cond rfl ?_ ?_
 | refine awl_none rfl ?_
 | refine awl_nil2 ?_
 | (refine fun (hc : _ = _)=>?_;first|cases hc|((try rw [hc]);(try simp only [stH] at hc);(try (exfalso;omega)));(try (show Awl _ _ _ _ _;simp only [stU])))
 | ((first|refine fun (K : V → List _ → _) hK=>?_|refine fun (_ : V → V)=>?_);simp (disch:=omega) only [go_sem,Int.reduceEq,↓reduceIte,reduceCtorEq,Nat.reduceEqDiff,Nat.reduceLT,Nat.reduceLeDiff,Nat.reduceAdd,Nat.reduceSub,Nat.reduceMul,Int.reduceToNat,Int.reduceLE,Int.reduceLT,NE1,Sp_overdubref20_MayLeaf,Sp_overdubref14_Extents,Sp_overdubref20_seal,hb,hq,hel,hey,het,eD_inj,mB_inj];(try (revert hK;intro hK;(repeat' first|(refine And.intro ?_ ?_)|(intro hc;first|cases hc|((try rw [hc]);(try simp only [stH] at hc);(try (exfalso;omega)))));all_goals first|(refine hK _ _ ?_;clear hK K;simp only [stU])|exact hK|omega)))
  (refine Ends.of (nm [(0,11)]) (by first|exact .inl rfl|exact .inr rfl) ?_;simp (disch:=omega) only [go_sem,Int.reduceEq,↓reduceIte,reduceCtorEq,Nat.reduceEqDiff,Nat.reduceLT,Nat.reduceLeDiff,Nat.reduceAdd,Nat.reduceSub,Nat.reduceMul,Int.reduceToNat,Int.reduceLE,Int.reduceLT,NE1,Sp_overdubref20_MayLeaf,Sp_overdubref14_Extents,Sp_overdubref20_seal,hz])
theorem ent_overdubref20_PackLeaf : Ent Try.prog 26:=⟨_,Try.func26,rfl,by decide⟩
noncomputable def NE2 : Env:=⟨Try.prog,fun f ds out=>(f = 61 ∧ Sp_overdubref20_MayNode ds out) ∨ (f = 62 ∧ Sp_overdubref01_Put ds out) ∨ (f = 54 ∧ Sp_overdubref20_seal ds out),Es,fun _=>false⟩
theorem NE2_sp : ∀ f ds out,NE2.Sp f ds out → Ent NE2.P f ∧ Good NE2.P f (fun a b=>a = ds ∧ b = out):=by
  rintro f ds out (⟨rfl,h⟩|⟨rfl,h⟩|⟨rfl,h⟩)
  · exact ⟨ent_overdubref20_MayNode,good_overdubref20_MayNode.one h⟩
  · exact ⟨ent_overdubref01_Put,good_overdubref01_Put.one h⟩
  · exact ⟨ent_overdubref20_seal,good_overdubref20_seal.one h⟩
theorem NE2_ok : NE2.Ok:=⟨NE2_sp,Es_ok⟩
def Sp_overdubref20_PackNode (ds : List D) (out : Out) : Prop:=∃ l : List Pa,ds = [.list (l.map pD)] ∧ l.length ≤ 9223372036854775807 ∧ out = packNOut l
def bb_overdubref20_PackNode_7 : List Nat:=[0,0,0,6,14,30,62,127,0,0,768,1792,3840,8191,16383,32767]
def cc_overdubref20_PackNode_7 : List (List (Option Bool)):=[[some false,none,none,none,none,none,none,some false,none,none,none,none,none,some false,some false,some false],[none,some false,none,some false,some false,some false,some false,some false,none,none,none,none,none,some false,some false,some false],[none,none,some false,some false,some false,some false,some false,some false,none,none,none,none,none,some false,some false,some false],[none,some true,some true,some false,some false,some false,some false,some false,none,none,none,none,none,some false,some false,some false],[none,some true,some true,some true,some false,some false,some false,some false,none,none,none,none,none,some false,some false,some false],[none,some true,some true,some true,some true,some false,some false,some false,none,none,none,none,none,some false,some false,some false],[none,some true,some true,some true,some true,some true,some false,some false,none,none,none,none,none,some false,some false,some false],[some true,some true,some true,some true,some true,some true,some true,some false,none,none,none,none,none,some false,some false,some false],[none,none,none,none,none,none,none,none,some false,none,some false,some false,some false,some false,some false,some false],[none,none,none,none,none,none,none,none,none,some false,some false,some false,some false,some false,some false,some false],[none,none,none,none,none,none,none,none,some true,some true,some false,some false,some false,some false,some false,some false],[none,none,none,none,none,none,none,none,some true,some true,some true,some false,some false,some false,some false,some false],[none,none,none,none,none,none,none,none,some true,some true,some true,some true,some false,some false,some false,some false],[some true,some true,some true,some true,some true,some true,some true,some true,some true,some true,some true,some true,some true,some false,some false,some false],[some true,some true,some true,some true,some true,some true,some true,some true,some true,some true,some true,some true,some true,some true,some false,some false],[some true,some true,some true,some true,some true,some true,some true,some true,some true,some true,some true,some true,some true,some true,some true,some false]]
theorem good_overdubref20_PackNode : Good Try.prog 30 Sp_overdubref20_PackNode:=by
  refine good_body (E:=NE2) (nt:=34) (rs:=#[.tmp 2,.tmp 3]) Try.func30 rfl rfl rfl ?_
  rintro ds out ⟨l,rfl,hl,rfl⟩
  refine ⟨by simp,?_⟩
  by_cases hm : mayN l
  case neg =>
    have hz : packNOut l = ⟨.tup [.nil,.d (.v (.bool false))],[]⟩:=if_neg hm
    have hb : bMayNode l = false:=by classical exact decide_eq_false hm
    repeat' first
 | refine AW.seq ?_
 | refine AW.block ?_
 | refine AW.regl NE2_ok [0,2,3,4,5,8,10,11,12] ?_
 | (refine AW.regc (id:=7) NE2_ok follows bb_overdubref20_PackNode_7 (by kernel_rfl) [0,2,3,4,5,8,10,11,12] ?_)
 | refine then_n ?_
 | refine then_r ?_
 | refine then_x ?_
 | refine block_x ?_
 | refine block_o (by decide) ?_
 | refine block_n ?_
 | refine block_r ?_
 | refine AW.skip ?_
 | refine AW.ret ?_
 | refine AW.exit ?_
 | refine AW.cond rfl ?_ ?_
 | refine awl_none rfl ?_
 | refine awl_nil2 ?_
 | refine awc_none rfl ?_
 | exact each_nil
 | refine each_none rfl ?_ ?_
 | refine awc_leaf2 [some 14,some 15,some 16,some 17,some 18,some 19,some 20,some 21,some 22,some 23,some 24,some 25,some 26,some 27,some 28,some 4] cc_overdubref20_PackNode_7 rfl (by kernel_rfl) (by kernel_rfl) ?_ ?_
 | (refine fun (hc : _ = _)=>?_;first|cases hc|((try rw [hc]);(try simp only [stH] at hc);(try (exfalso;omega)));(try ((first|show Awl _ _ _ _ _|show Awc _ _ _ _ _ _);simp only [stU])))
 | ((first|refine fun (K : V → List _ → _) hK=>?_|refine fun (_ : V → V)=>?_|refine fun (bb : Nat → Bool) K hK=>?_);simp (disch:=omega) only [go_sem,Int.reduceEq,↓reduceIte,reduceCtorEq,Nat.reduceEqDiff,Nat.reduceLT,Nat.reduceLeDiff,Nat.reduceAdd,Nat.reduceSub,Nat.reduceMul,Int.reduceToNat,Int.reduceLE,Int.reduceLT,NE2,Sp_overdubref20_MayNode,Sp_overdubref01_Put,Sp_overdubref20_seal,hb,pD_inj,Sg3,St.updIf,ifc_nil,gt_ifc,go_ifc,ite_self,Option.none_or,Option.some_or];(try (revert hK;intro hK;(repeat' first|(refine And.intro ?_ ?_)|(intro hc;first|cases hc|((try rw [hc]);(try simp only [stH] at hc);(try (exfalso;omega)))));all_goals first|(refine hK _ _ ?_;clear hK K;simp only [stU])|exact hK|omega)))
    (refine Ends.of (nm []) (by first|exact .inl rfl|exact .inr rfl) ?_;simp (disch:=omega) only [go_sem,Int.reduceEq,↓reduceIte,reduceCtorEq,Nat.reduceEqDiff,Nat.reduceLT,Nat.reduceLeDiff,Nat.reduceAdd,Nat.reduceSub,Nat.reduceMul,Int.reduceToNat,Int.reduceLE,Int.reduceLT,NE2,Sp_overdubref20_MayNode,Sp_overdubref01_Put,Sp_overdubref20_seal,hz])
  have hz : packNOut l = ⟨.tup [.sl 0 1 0 128 true,.d (.v (.bool true))],[(0,.row 5 1 ((nodP 2 l.length (psB l)).map mB))]⟩:=if_pos hm
  have hb : bMayNode l = true:=by classical exact decide_eq_true hm
  have h8:=hm.2.1
  have hok:=hm.2.2
  clear hm
  repeat' first
 | refine AW.seq ?_
 | refine AW.block ?_
 | refine AW.regl NE2_ok [0,2,3,4,5,8,10,11,12] ?_
 | (refine AW.regc (id:=7) NE2_ok follows bb_overdubref20_PackNode_7 (by kernel_rfl) [0,2,3,4,5,8,10,11,12] ?_)
 | refine then_n ?_
 | refine then_r ?_
 | refine then_x ?_
 | refine block_x ?_
 | refine block_o (by decide) ?_
 | refine block_n ?_
 | refine block_r ?_
 | refine AW.skip ?_
 | refine AW.ret ?_
 | refine AW.exit ?_
 | refine AW.cond rfl ?_ ?_
 | refine awl_none rfl ?_
 | refine awl_nil2 ?_
 | refine awc_none rfl ?_
 | exact each_nil
 | refine each_none rfl ?_ ?_
 | refine awc_leaf2 [some 14,some 15,some 16,some 17,some 18,some 19,some 20,some 21,some 22,some 23,some 24,some 25,some 26,some 27,some 28,some 4] cc_overdubref20_PackNode_7 rfl (by kernel_rfl) (by kernel_rfl) ?_ ?_
 | (refine fun (hc : _ = _)=>?_;first|cases hc|((try rw [hc]);(try simp only [stH] at hc);(try (exfalso;omega)));(try ((first|show Awl _ _ _ _ _|show Awc _ _ _ _ _ _);simp only [stU])))
 | ((first|refine fun (K : V → List _ → _) hK=>?_|refine fun (_ : V → V)=>?_|refine fun (bb : Nat → Bool) K hK=>?_);simp (disch:=omega) only [go_sem,Int.reduceEq,↓reduceIte,reduceCtorEq,Nat.reduceEqDiff,Nat.reduceLT,Nat.reduceLeDiff,Nat.reduceAdd,Nat.reduceSub,Nat.reduceMul,Int.reduceToNat,Int.reduceLE,Int.reduceLT,NE2,Sp_overdubref20_MayNode,Sp_overdubref01_Put,Sp_overdubref20_seal,hb,pD_inj,Sg3,St.updIf,ifc_nil,gt_ifc,go_ifc,ite_self,Option.none_or,Option.some_or];(try (revert hK;intro hK;(repeat' first|(refine And.intro ?_ ?_)|(intro hc;first|cases hc|((try rw [hc]);(try simp only [stH] at hc);(try (exfalso;omega)))));all_goals first|(refine hK _ _ ?_;clear hK K;simp only [stU])|exact hK|omega)))
  refine AW.loop_wk (fun k : Nat=>⟨[(0,.d (.list (l.map pD))),(2,.nil),(3,.d (.v (.bool false))),(4,.sl 100 1 0 (4 * k) true),(10,.d (.v (.int .i64 l.length))),(11,.d (.v (.int .i64 k)))],[(100,.row 5 1 ((psB (l.take k)).map mB))],34⟩)
    (fun k=>k ≤ l.length) (fun k=>l.length - k) 0 (by omega) (fun w0 oa a w hs=>Wk.sr (ρ:=nm []) (Wk.of ?_) (nil_sr 4 100 5 1 rfl (by simp) rfl (by decide) hs)) ?_
  · simp (disch:=omega) only [go_sem,Int.reduceEq,↓reduceIte,reduceCtorEq,Nat.reduceEqDiff,Nat.reduceLT,Nat.reduceLeDiff,Nat.reduceAdd,Nat.reduceSub,Nat.reduceMul,Int.reduceToNat,Int.reduceLE,Int.reduceLT,NE2,Sp_overdubref20_MayNode,Sp_overdubref01_Put,Sp_overdubref20_seal]
    all_goals first|done|exact ⟨rfl,rfl⟩|rfl
  · intro k hk
    by_cases hk1 : k < l.length
    · have e2:=nth_Ph l k hk1
      have hpl : (psB (l.take k)).length = 4 * k:=by rw [psB_len,List.length_take];omega
      have e4 : psB (l.take (k + 1)) = (psB (l.take k) ++ putB (max 0 (l.getD k p0).a) 2) ++ putB (max 0 (l.getD k p0).b) 2:=by rw [take_snocG l k p0 hk1,psB_snoc];unfold itP;rw [List.append_assoc]
      have hb1:=(hok k hk1).2.1
      have hb2:=(hok k hk1).2.2.1.2
      obtain ⟨R,hR⟩ : ∃ R,psB (l.take k) = R:=⟨_,rfl⟩
      have hRm : (R.map mB).length = 4 * k:=by rw [← hR,List.length_map,hpl]
      rw [hR] at hpl e4 ⊢
      clear hok
      generalize l.getD k p0 = P at *
      obtain ⟨a,b⟩:=P
      dsimp only at e2 e4 hb1 hb2
      repeat' first
 | refine AW.seq ?_
 | refine AW.block ?_
 | refine AW.regl NE2_ok [0,2,3,4,5,8,10,11,12] ?_
 | (refine AW.regc (id:=7) NE2_ok follows bb_overdubref20_PackNode_7 (by kernel_rfl) [0,2,3,4,5,8,10,11,12] ?_)
 | refine then_n ?_
 | refine then_r ?_
 | refine then_x ?_
 | refine block_x ?_
 | refine block_o (by decide) ?_
 | refine block_n ?_
 | refine block_r ?_
 | refine AW.skip ?_
 | refine AW.ret ?_
 | refine AW.exit ?_
 | refine AW.cond rfl ?_ ?_
 | refine awl_none rfl ?_
 | refine awl_nil2 ?_
 | refine awc_none rfl ?_
 | exact each_nil
 | refine each_none rfl ?_ ?_
 | refine awc_leaf2 [some 14,some 15,some 16,some 17,some 18,some 19,some 20,some 21,some 22,some 23,some 24,some 25,some 26,some 27,some 28,some 4] cc_overdubref20_PackNode_7 rfl (by kernel_rfl) (by kernel_rfl) ?_ ?_
 | (refine fun (hc : _ = _)=>?_;first|cases hc|((try rw [hc]);(try simp only [stH] at hc);(try (exfalso;omega)));(try ((first|show Awl _ _ _ _ _|show Awc _ _ _ _ _ _);simp only [stU])))
 | ((first|refine fun (K : V → List _ → _) hK=>?_|refine fun (_ : V → V)=>?_|refine fun (bb : Nat → Bool) K hK=>?_);simp (disch:=omega) only [go_sem,Int.reduceEq,↓reduceIte,reduceCtorEq,Nat.reduceEqDiff,Nat.reduceLT,Nat.reduceLeDiff,Nat.reduceAdd,Nat.reduceSub,Nat.reduceMul,Int.reduceToNat,Int.reduceLE,Int.reduceLT,NE2,Sp_overdubref20_MayNode,Sp_overdubref01_Put,Sp_overdubref20_seal,e2,hRm,wd_2n,putB_taken,putB_len,Sg3,St.updIf,ifc_nil,gt_ifc,go_ifc,ite_self,Option.none_or,Option.some_or];(try (revert hK;intro hK;(repeat' first|(refine And.intro ?_ ?_)|(intro hc;first|cases hc|((try rw [hc]);(try simp only [stH] at hc);(try (exfalso;omega)))));all_goals first|(refine hK _ _ ?_;clear hK K;simp only [stU])|exact hK|omega)))
      refine ⟨k + 1,by omega,by omega,nm [(100,28)],Wk.of ?_⟩
      simp (disch:=omega) only [go_sem,Int.reduceEq,↓reduceIte,reduceCtorEq,Nat.reduceEqDiff,Nat.reduceLT,Nat.reduceLeDiff,Nat.reduceAdd,Nat.reduceSub,Nat.reduceMul,Int.reduceToNat,Int.reduceLE,Int.reduceLT,NE2,Sp_overdubref20_MayNode,Sp_overdubref01_Put,Sp_overdubref20_seal,e4,List.map_append]
      all_goals first|done|rfl|exact ⟨by rw [hpl];rfl,rfl⟩|exact ⟨rfl,rfl⟩
    · obtain rfl : k = l.length:=by omega
      have hpl:=psB_len l
      have hpt : ((psB l).map mB).take (4 * l.length) = (psB l).map mB:=List.take_of_length_le (by simp [hpl])
      have hy : Byt (psB l) = True:=eq_true (psB_byt l)
      rw [List.take_length]
      repeat' first
 | refine AW.seq ?_
 | refine AW.block ?_
 | refine AW.regl NE2_ok [0,2,3,4,5,8,10,11,12] ?_
 | (refine AW.regc (id:=7) NE2_ok follows bb_overdubref20_PackNode_7 (by kernel_rfl) [0,2,3,4,5,8,10,11,12] ?_)
 | refine then_n ?_
 | refine then_r ?_
 | refine then_x ?_
 | refine block_x ?_
 | refine block_o (by decide) ?_
 | refine block_n ?_
 | refine block_r ?_
 | refine AW.skip ?_
 | refine AW.ret ?_
 | refine AW.exit ?_
 | refine AW.cond rfl ?_ ?_
 | refine awl_none rfl ?_
 | refine awl_nil2 ?_
 | refine awc_none rfl ?_
 | exact each_nil
 | refine each_none rfl ?_ ?_
 | refine awc_leaf2 [some 14,some 15,some 16,some 17,some 18,some 19,some 20,some 21,some 22,some 23,some 24,some 25,some 26,some 27,some 28,some 4] cc_overdubref20_PackNode_7 rfl (by kernel_rfl) (by kernel_rfl) ?_ ?_
 | (refine fun (hc : _ = _)=>?_;first|cases hc|((try rw [hc]);(try simp only [stH] at hc);(try (exfalso;omega)));(try ((first|show Awl _ _ _ _ _|show Awc _ _ _ _ _ _);simp only [stU])))
 | ((first|refine fun (K : V → List _ → _) hK=>?_|refine fun (_ : V → V)=>?_|refine fun (bb : Nat → Bool) K hK=>?_);simp (disch:=omega) only [go_sem,Int.reduceEq,↓reduceIte,reduceCtorEq,Nat.reduceEqDiff,Nat.reduceLT,Nat.reduceLeDiff,Nat.reduceAdd,Nat.reduceSub,Nat.reduceMul,Int.reduceToNat,Int.reduceLE,Int.reduceLT,NE2,Sp_overdubref20_MayNode,Sp_overdubref01_Put,Sp_overdubref20_seal,hpt,hpl,hy,mB_inj,Sg3,St.updIf,ifc_nil,gt_ifc,go_ifc,ite_self,Option.none_or,Option.some_or];(try (revert hK;intro hK;(repeat' first|(refine And.intro ?_ ?_)|(intro hc;first|cases hc|((try rw [hc]);(try simp only [stH] at hc);(try (exfalso;omega)))));all_goals first|(refine hK _ _ ?_;clear hK K;simp only [stU])|exact hK|omega)))
      (refine Ends.of (nm [(0,33)]) (by first|exact .inl rfl|exact .inr rfl) ?_;simp (disch:=omega) only [go_sem,Int.reduceEq,↓reduceIte,reduceCtorEq,Nat.reduceEqDiff,Nat.reduceLT,Nat.reduceLeDiff,Nat.reduceAdd,Nat.reduceSub,Nat.reduceMul,Int.reduceToNat,Int.reduceLE,Int.reduceLT,NE2,Sp_overdubref20_MayNode,Sp_overdubref01_Put,Sp_overdubref20_seal,hz])
theorem ent_overdubref20_PackNode : Ent Try.prog 30:=⟨_,Try.func30,rfl,by decide⟩
noncomputable def NE3 : Env:=⟨Try.prog,fun f ds out=>(f = 63 ∧ Sp_overdubref20_MayDir ds out) ∨ (f = 62 ∧ Sp_overdubref01_Put ds out) ∨ (f = 54 ∧ Sp_overdubref20_seal ds out),Es,fun _=>false⟩
theorem NE3_sp : ∀ f ds out,NE3.Sp f ds out → Ent NE3.P f ∧ Good NE3.P f (fun a b=>a = ds ∧ b = out):=by
  rintro f ds out (⟨rfl,h⟩|⟨rfl,h⟩|⟨rfl,h⟩)
  · exact ⟨ent_overdubref20_MayDir,good_overdubref20_MayDir.one h⟩
  · exact ⟨ent_overdubref01_Put,good_overdubref01_Put.one h⟩
  · exact ⟨ent_overdubref20_seal,good_overdubref20_seal.one h⟩
theorem NE3_ok : NE3.Ok:=⟨NE3_sp,Es_ok⟩
theorem putB1_one {n : Int} (h0 : 0 ≤ n) (h1 : n < 256) : putB (max 0 n) 1 = [n]:=by
  have:=putB_byt (max 0 n) 1
  have h2 : leV (putB (max 0 n) 1) = n:=by
    rw [putB_leB,show max 0 n = n by omega]
    exact leV_leB_small h0 h1
  have l1 : (putB (max 0 n) 1).length = 1:=putB_len _ 1
  match hp : putB (max 0 n) 1,l1 with
  | [x],_ =>
    rw [hp] at h2
    simp only [leV] at h2
    congr 1
    omega
def Sp_overdubref20_PackDir (ds : List D) (out : Out) : Prop:=∃ l : List Ln,ds = [.list (l.map lD)] ∧ l.length ≤ 9223372036854775807 ∧ out = packDOut l
def bb_overdubref20_PackDir_8 : List Nat:=[0,0,0,6,14,30,62,127,0,0,768,1792,3840,8191,16383,32767]
def cc_overdubref20_PackDir_8 : List (List (Option Bool)):=[[some false,none,none,none,none,none,none,some false,none,none,none,none,none,some false,some false,some false],[none,some false,none,some false,some false,some false,some false,some false,none,none,none,none,none,some false,some false,some false],[none,none,some false,some false,some false,some false,some false,some false,none,none,none,none,none,some false,some false,some false],[none,some true,some true,some false,some false,some false,some false,some false,none,none,none,none,none,some false,some false,some false],[none,some true,some true,some true,some false,some false,some false,some false,none,none,none,none,none,some false,some false,some false],[none,some true,some true,some true,some true,some false,some false,some false,none,none,none,none,none,some false,some false,some false],[none,some true,some true,some true,some true,some true,some false,some false,none,none,none,none,none,some false,some false,some false],[some true,some true,some true,some true,some true,some true,some true,some false,none,none,none,none,none,some false,some false,some false],[none,none,none,none,none,none,none,none,some false,none,some false,some false,some false,some false,some false,some false],[none,none,none,none,none,none,none,none,none,some false,some false,some false,some false,some false,some false,some false],[none,none,none,none,none,none,none,none,some true,some true,some false,some false,some false,some false,some false,some false],[none,none,none,none,none,none,none,none,some true,some true,some true,some false,some false,some false,some false,some false],[none,none,none,none,none,none,none,none,some true,some true,some true,some true,some false,some false,some false,some false],[some true,some true,some true,some true,some true,some true,some true,some true,some true,some true,some true,some true,some true,some false,some false,some false],[some true,some true,some true,some true,some true,some true,some true,some true,some true,some true,some true,some true,some true,some true,some false,some false],[some true,some true,some true,some true,some true,some true,some true,some true,some true,some true,some true,some true,some true,some true,some true,some false]]
theorem good_overdubref20_PackDir : Good Try.prog 31 Sp_overdubref20_PackDir:=by
  refine good_body (E:=NE3) (nt:=43) (rs:=#[.tmp 2,.tmp 3]) Try.func31 rfl rfl rfl ?_
  rintro ds out ⟨l,rfl,hl,rfl⟩
  refine ⟨by simp,?_⟩
  by_cases hm : mayD l
  case neg =>
    have hz : packDOut l = ⟨.tup [.nil,.d (.v (.bool false))],[]⟩:=if_neg hm
    have hb : bMayDir l = false:=by classical exact decide_eq_false hm
    repeat' first
 | refine AW.seq ?_
 | refine AW.block ?_
 | refine AW.regl NE3_ok [0,2,3,4,5,8,10,11,12] ?_
 | (refine AW.regc (id:=8) NE3_ok follows bb_overdubref20_PackDir_8 (by kernel_rfl) [0,2,3,4,5,8,10,11,12] ?_)
 | refine then_n ?_
 | refine then_r ?_
 | refine then_x ?_
 | refine block_x ?_
 | refine block_o (by decide) ?_
 | refine block_n ?_
 | refine block_r ?_
 | refine AW.skip ?_
 | refine AW.ret ?_
 | refine AW.exit ?_
 | refine AW.cond rfl ?_ ?_
 | refine awl_none rfl ?_
 | refine awl_nil2 ?_
 | refine awc_none rfl ?_
 | exact each_nil
 | refine each_none rfl ?_ ?_
 | refine awc_leaf2 [some 23,some 24,some 25,some 26,some 27,some 28,some 29,some 30,some 31,some 32,some 33,some 34,some 35,some 36,some 37,some 4] cc_overdubref20_PackDir_8 rfl (by kernel_rfl) (by kernel_rfl) ?_ ?_
 | (refine fun (hc : _ = _)=>?_;first|cases hc|((try rw [hc]);(try simp only [stH] at hc);(try (exfalso;omega)));(try ((first|show Awl _ _ _ _ _|show Awc _ _ _ _ _ _);simp only [stU])))
 | ((first|refine fun (K : V → List _ → _) hK=>?_|refine fun (_ : V → V)=>?_|refine fun (bb : Nat → Bool) K hK=>?_);simp (disch:=omega) only [go_sem,Int.reduceEq,↓reduceIte,reduceCtorEq,Nat.reduceEqDiff,Nat.reduceLT,Nat.reduceLeDiff,Nat.reduceAdd,Nat.reduceSub,Nat.reduceMul,Int.reduceToNat,Int.reduceLE,Int.reduceLT,NE3,Sp_overdubref20_MayDir,Sp_overdubref01_Put,Sp_overdubref20_seal,hb,lD_inj,Sg3,St.updIf,ifc_nil,gt_ifc,go_ifc,ite_self,Option.none_or,Option.some_or];(try (revert hK;intro hK;(repeat' first|(refine And.intro ?_ ?_)|(intro hc;first|cases hc|((try rw [hc]);(try simp only [stH] at hc);(try (exfalso;omega)))));all_goals first|(refine hK _ _ ?_;clear hK K;simp only [stU])|exact hK|omega)))
    (refine Ends.of (nm []) (by first|exact .inl rfl|exact .inr rfl) ?_;simp (disch:=omega) only [go_sem,Int.reduceEq,↓reduceIte,reduceCtorEq,Nat.reduceEqDiff,Nat.reduceLT,Nat.reduceLeDiff,Nat.reduceAdd,Nat.reduceSub,Nat.reduceMul,Int.reduceToNat,Int.reduceLE,Int.reduceLT,NE3,Sp_overdubref20_MayDir,Sp_overdubref01_Put,Sp_overdubref20_seal,hz])
  have hz : packDOut l = ⟨.tup [.sl 0 1 0 128 true,.d (.v (.bool true))],[(0,.row 5 1 ((nodP 3 l.length (lsB l)).map mB))]⟩:=if_pos hm
  have hb : bMayDir l = true:=by classical exact decide_eq_true hm
  have h6:=hm.1
  have hok:=hm.2
  clear hm
  repeat' first
 | refine AW.seq ?_
 | refine AW.block ?_
 | refine AW.regl NE3_ok [0,2,3,4,5,8,10,11,12] ?_
 | (refine AW.regc (id:=8) NE3_ok follows bb_overdubref20_PackDir_8 (by kernel_rfl) [0,2,3,4,5,8,10,11,12] ?_)
 | refine then_n ?_
 | refine then_r ?_
 | refine then_x ?_
 | refine block_x ?_
 | refine block_o (by decide) ?_
 | refine block_n ?_
 | refine block_r ?_
 | refine AW.skip ?_
 | refine AW.ret ?_
 | refine AW.exit ?_
 | refine AW.cond rfl ?_ ?_
 | refine awl_none rfl ?_
 | refine awl_nil2 ?_
 | refine awc_none rfl ?_
 | exact each_nil
 | refine each_none rfl ?_ ?_
 | refine awc_leaf2 [some 23,some 24,some 25,some 26,some 27,some 28,some 29,some 30,some 31,some 32,some 33,some 34,some 35,some 36,some 37,some 4] cc_overdubref20_PackDir_8 rfl (by kernel_rfl) (by kernel_rfl) ?_ ?_
 | (refine fun (hc : _ = _)=>?_;first|cases hc|((try rw [hc]);(try simp only [stH] at hc);(try (exfalso;omega)));(try ((first|show Awl _ _ _ _ _|show Awc _ _ _ _ _ _);simp only [stU])))
 | ((first|refine fun (K : V → List _ → _) hK=>?_|refine fun (_ : V → V)=>?_|refine fun (bb : Nat → Bool) K hK=>?_);simp (disch:=omega) only [go_sem,Int.reduceEq,↓reduceIte,reduceCtorEq,Nat.reduceEqDiff,Nat.reduceLT,Nat.reduceLeDiff,Nat.reduceAdd,Nat.reduceSub,Nat.reduceMul,Int.reduceToNat,Int.reduceLE,Int.reduceLT,NE3,Sp_overdubref20_MayDir,Sp_overdubref01_Put,Sp_overdubref20_seal,hb,lD_inj,Sg3,St.updIf,ifc_nil,gt_ifc,go_ifc,ite_self,Option.none_or,Option.some_or];(try (revert hK;intro hK;(repeat' first|(refine And.intro ?_ ?_)|(intro hc;first|cases hc|((try rw [hc]);(try simp only [stH] at hc);(try (exfalso;omega)))));all_goals first|(refine hK _ _ ?_;clear hK K;simp only [stU])|exact hK|omega)))
  refine AW.loop_wk (fun k : Nat=>⟨[(0,.d (.list (l.map lD))),(2,.nil),(3,.d (.v (.bool false))),(4,.sl 100 1 0 (5 * k) true),(10,.d (.v (.int .i64 l.length))),(11,.d (.v (.int .i64 k)))],[(100,.row 5 1 ((lsB (l.take k)).map mB))],43⟩)
    (fun k=>k ≤ l.length) (fun k=>l.length - k) 0 (by omega) (fun w0 oa a w hs=>Wk.sr (ρ:=nm []) (Wk.of ?_) (nil_sr 4 100 5 1 rfl (by simp) rfl (by decide) hs)) ?_
  · simp (disch:=omega) only [go_sem,Int.reduceEq,↓reduceIte,reduceCtorEq,Nat.reduceEqDiff,Nat.reduceLT,Nat.reduceLeDiff,Nat.reduceAdd,Nat.reduceSub,Nat.reduceMul,Int.reduceToNat,Int.reduceLE,Int.reduceLT,NE3,Sp_overdubref20_MayDir,Sp_overdubref01_Put,Sp_overdubref20_seal]
    all_goals first|done|exact ⟨rfl,rfl⟩|rfl
  · intro k hk
    by_cases hk1 : k < l.length
    · have e2:=nth_Lh l k hk1
      have hpl : (lsB (l.take k)).length = 5 * k:=by rw [lsB_len,List.length_take];omega
      have hok:=hok k hk1
      have hsx : secN (l.getD k l0).c ∨ (l.getD k l0).c = 0:=by
        by_cases h : (l.getD k l0).c = 0
        · exact .inr h
        · exact .inl (hok.2.2.2.2.2.1 h)
      have hr : (0 ≤ (l.getD k l0).a ∧ (l.getD k l0).a ≤ 99) ∧ (0 ≤ (l.getD k l0).b ∧ (l.getD k l0).b ≤ 1000) ∧ (0 ≤ (l.getD k l0).c ∧ (l.getD k l0).c < 4096):=⟨⟨hok.1,hok.2.1⟩,⟨hok.2.2.2.1,hok.2.2.2.2.1⟩,by unfold secN at hsx;omega⟩
      have e4 : lsB (l.take (k + 1)) = ((lsB (l.take k) ++ [(l.getD k l0).a]) ++ putB (max 0 (l.getD k l0).b) 2) ++ putB (max 0 (l.getD k l0).c) 2:=by rw [take_snocG l k l0 hk1,lsB_snoc];unfold itL;rw [putB1_one hr.1.1 (by omega)];simp only [List.append_assoc]
      obtain ⟨R,hR⟩ : ∃ R,lsB (l.take k) = R:=⟨_,rfl⟩
      have hRm : (R.map mB).length = 5 * k:=by rw [← hR,List.length_map,hpl]
      rw [hR] at hpl e4 ⊢
      clear hok hsx
      generalize l.getD k l0 = P at *
      obtain ⟨a,b,c⟩:=P
      dsimp only at e2 e4 hr
      have ham : a % 256 = a:=by omega
      have hsn : R.map mB ++ [D.v (.int .u8 a)] = (R ++ [a]).map mB:=by rw [List.map_append];rfl
      have hRl : (R ++ [a]).length = 5 * k + 1:=by rw [List.length_append,hpl];rfl
      repeat' first
 | refine AW.seq ?_
 | refine AW.block ?_
 | refine AW.regl NE3_ok [0,2,3,4,5,8,10,11,12] ?_
 | (refine AW.regc (id:=8) NE3_ok follows bb_overdubref20_PackDir_8 (by kernel_rfl) [0,2,3,4,5,8,10,11,12] ?_)
 | refine then_n ?_
 | refine then_r ?_
 | refine then_x ?_
 | refine block_x ?_
 | refine block_o (by decide) ?_
 | refine block_n ?_
 | refine block_r ?_
 | refine AW.skip ?_
 | refine AW.ret ?_
 | refine AW.exit ?_
 | refine AW.cond rfl ?_ ?_
 | refine awl_none rfl ?_
 | refine awl_nil2 ?_
 | refine awc_none rfl ?_
 | exact each_nil
 | refine each_none rfl ?_ ?_
 | refine awc_leaf2 [some 23,some 24,some 25,some 26,some 27,some 28,some 29,some 30,some 31,some 32,some 33,some 34,some 35,some 36,some 37,some 4] cc_overdubref20_PackDir_8 rfl (by kernel_rfl) (by kernel_rfl) ?_ ?_
 | (refine fun (hc : _ = _)=>?_;first|cases hc|((try rw [hc]);(try simp only [stH] at hc);(try (exfalso;omega)));(try ((first|show Awl _ _ _ _ _|show Awc _ _ _ _ _ _);simp only [stU])))
 | ((first|refine fun (K : V → List _ → _) hK=>?_|refine fun (_ : V → V)=>?_|refine fun (bb : Nat → Bool) K hK=>?_);simp (disch:=omega) only [go_sem,Int.reduceEq,↓reduceIte,reduceCtorEq,Nat.reduceEqDiff,Nat.reduceLT,Nat.reduceLeDiff,Nat.reduceAdd,Nat.reduceSub,Nat.reduceMul,Int.reduceToNat,Int.reduceLE,Int.reduceLT,NE3,Sp_overdubref20_MayDir,Sp_overdubref01_Put,Sp_overdubref20_seal,e2,hRm,ham,hsn,wrap_u8,wd_2n,putB_taken,putB_len,hpl,Sg3,St.updIf,ifc_nil,gt_ifc,go_ifc,ite_self,Option.none_or,Option.some_or];(try (revert hK;intro hK;(repeat' first|(refine And.intro ?_ ?_)|(intro hc;first|cases hc|((try rw [hc]);(try simp only [stH] at hc);(try (exfalso;omega)))));all_goals first|(refine hK _ _ ?_;clear hK K;simp only [stU])|exact hK|omega)))
      refine ⟨k + 1,by omega,by omega,nm [(100,37)],Wk.of ?_⟩
      simp (disch:=omega) only [go_sem,Int.reduceEq,↓reduceIte,reduceCtorEq,Nat.reduceEqDiff,Nat.reduceLT,Nat.reduceLeDiff,Nat.reduceAdd,Nat.reduceSub,Nat.reduceMul,Int.reduceToNat,Int.reduceLE,Int.reduceLT,NE3,Sp_overdubref20_MayDir,Sp_overdubref01_Put,Sp_overdubref20_seal,e4,List.map_append]
      all_goals first|done|rfl|exact ⟨by rw [hpl];rfl,rfl⟩|exact ⟨rfl,rfl⟩
    · obtain rfl : k = l.length:=by omega
      have hpl:=lsB_len l
      have hpt : ((lsB l).map mB).take (5 * l.length) = (lsB l).map mB:=List.take_of_length_le (by simp [hpl])
      have hy : Byt (lsB l) = True:=eq_true (lsB_byt l)
      rw [List.take_length]
      repeat' first
 | refine AW.seq ?_
 | refine AW.block ?_
 | refine AW.regl NE3_ok [0,2,3,4,5,8,10,11,12] ?_
 | (refine AW.regc (id:=8) NE3_ok follows bb_overdubref20_PackDir_8 (by kernel_rfl) [0,2,3,4,5,8,10,11,12] ?_)
 | refine then_n ?_
 | refine then_r ?_
 | refine then_x ?_
 | refine block_x ?_
 | refine block_o (by decide) ?_
 | refine block_n ?_
 | refine block_r ?_
 | refine AW.skip ?_
 | refine AW.ret ?_
 | refine AW.exit ?_
 | refine AW.cond rfl ?_ ?_
 | refine awl_none rfl ?_
 | refine awl_nil2 ?_
 | refine awc_none rfl ?_
 | exact each_nil
 | refine each_none rfl ?_ ?_
 | refine awc_leaf2 [some 23,some 24,some 25,some 26,some 27,some 28,some 29,some 30,some 31,some 32,some 33,some 34,some 35,some 36,some 37,some 4] cc_overdubref20_PackDir_8 rfl (by kernel_rfl) (by kernel_rfl) ?_ ?_
 | (refine fun (hc : _ = _)=>?_;first|cases hc|((try rw [hc]);(try simp only [stH] at hc);(try (exfalso;omega)));(try ((first|show Awl _ _ _ _ _|show Awc _ _ _ _ _ _);simp only [stU])))
 | ((first|refine fun (K : V → List _ → _) hK=>?_|refine fun (_ : V → V)=>?_|refine fun (bb : Nat → Bool) K hK=>?_);simp (disch:=omega) only [go_sem,Int.reduceEq,↓reduceIte,reduceCtorEq,Nat.reduceEqDiff,Nat.reduceLT,Nat.reduceLeDiff,Nat.reduceAdd,Nat.reduceSub,Nat.reduceMul,Int.reduceToNat,Int.reduceLE,Int.reduceLT,NE3,Sp_overdubref20_MayDir,Sp_overdubref01_Put,Sp_overdubref20_seal,hpt,hpl,hy,mB_inj,Sg3,St.updIf,ifc_nil,gt_ifc,go_ifc,ite_self,Option.none_or,Option.some_or];(try (revert hK;intro hK;(repeat' first|(refine And.intro ?_ ?_)|(intro hc;first|cases hc|((try rw [hc]);(try simp only [stH] at hc);(try (exfalso;omega)))));all_goals first|(refine hK _ _ ?_;clear hK K;simp only [stU])|exact hK|omega)))
      (refine Ends.of (nm [(0,42)]) (by first|exact .inl rfl|exact .inr rfl) ?_;simp (disch:=omega) only [go_sem,Int.reduceEq,↓reduceIte,reduceCtorEq,Nat.reduceEqDiff,Nat.reduceLT,Nat.reduceLeDiff,Nat.reduceAdd,Nat.reduceSub,Nat.reduceMul,Int.reduceToNat,Int.reduceLE,Int.reduceLT,NE3,Sp_overdubref20_MayDir,Sp_overdubref01_Put,Sp_overdubref20_seal,hz])
theorem ent_overdubref20_PackDir : Ent Try.prog 31:=⟨_,Try.func31,rfl,by decide⟩
end Go.Proofs.Ytigkcigoiinkpaa.Am
