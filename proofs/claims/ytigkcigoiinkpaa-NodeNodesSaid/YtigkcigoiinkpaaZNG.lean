import Derived.Test.YtigkcigoiinkpaaZNFb
import Derived.Test.YtigkcigoiinkpaaZNP
import Derived.Test.YtigkcigoiinkpaaZZA
set_option linter.unusedVariables false
set_option linter.unusedSimpArgs false
set_option maxRecDepth 10000
set_option maxHeartbeats 0
namespace Go.Proofs.Ytigkcigoiinkpaa.Am
open Go Go.RowKit Go.Proofs
noncomputable def NG1 : Env:=⟨Try.prog,fun f ds out=>(f = 56 ∧ Sp_overdubref20_Leaf ds out) ∨ (f = 58 ∧ Sp_overdubref20_Node ds out) ∨ (f = 59 ∧ Sp_overdubref20_Dir ds out) ∨ (f = 60 ∧ Sp_overdubref20_Root ds out),Es,fun _=>false⟩
theorem NG1_sp : ∀ f ds out,NG1.Sp f ds out → Ent NG1.P f ∧ Good NG1.P f (fun a b=>a = ds ∧ b = out):=by
  rintro f ds out (⟨rfl,h⟩|⟨rfl,h⟩|⟨rfl,h⟩|⟨rfl,h⟩)
  · exact ⟨ent_overdubref20_Leaf,good_overdubref20_Leaf.one h⟩
  · exact ⟨ent_overdubref20_Node,good_overdubref20_Node.one h⟩
  · exact ⟨ent_overdubref20_Dir,good_overdubref20_Dir.one h⟩
  · exact ⟨ent_overdubref20_Root,good_overdubref20_Root.one h⟩
theorem NG1_ok : NG1.Ok:=⟨NG1_sp,Es_ok⟩
def Sp_overdubref20_Kind (ds : List D) (out : Out) : Prop:=∃ b : List Int,ds = [.list (b.map mB)] ∧ Byt b ∧ b.length ≤ 9223372036854775807 ∧ out = ⟨.d (.v (.int .i64 (kindN b))),[]⟩
theorem good_overdubref20_Kind : Good Try.prog 57 Sp_overdubref20_Kind:=by
  refine good_body (E:=NG1) (nt:=39) (rs:=#[.tmp 2]) Try.func57 rfl rfl rfl ?_
  rintro ds out ⟨b,rfl,hb,hl,rfl⟩
  refine ⟨by simp,?_⟩
  have hbt : Byt b = True:=eq_true hb
  by_cases h1 : leafOk b
  · have e1 : leafOut b = _:=if_pos h1
    have hz:=kindN_1 h1
    clear h1
    repeat' first
 | refine AW.seq ?_
 | refine AW.block ?_
 | refine AW.regl NG1_ok [0,2,4,6,8,12,18,24,30,38] ?_
 | refine then_n ?_
 | refine then_r ?_
 | refine then_x ?_
 | refine block_x ?_
 | refine block_o (by decide) ?_
 | refine block_n ?_
 | refine block_r ?_
 | refine AW.skip ?_
 | refine AW.ret ?_
 | refine AW.exit ?_
 | refine AW.cond rfl ?_ ?_
 | refine awl_none rfl ?_
 | refine awl_nil2 ?_
 | (refine fun (hc : _ = _)=>?_;first|cases hc|((try rw [hc]);(try simp only [stH] at hc);(try (exfalso;omega)));(try (show Awl _ _ _ _ _;simp only [stU])))
 | ((first|refine fun (K : V → List _ → _) hK=>?_|refine fun (_ : V → V)=>?_);simp (disch:=omega) only [go_sem,Int.reduceEq,↓reduceIte,reduceCtorEq,Nat.reduceEqDiff,Nat.reduceLT,Nat.reduceLeDiff,Nat.reduceAdd,Nat.reduceSub,Nat.reduceMul,Int.reduceToNat,Int.reduceLE,Int.reduceLT,NG1,Sp_overdubref20_Leaf,Sp_overdubref20_Node,Sp_overdubref20_Dir,Sp_overdubref20_Root,hbt,e1,sc_E,mB_inj];(try (revert hK;intro hK;(repeat' first|(refine And.intro ?_ ?_)|(intro hc;first|cases hc|((try rw [hc]);(try simp only [stH] at hc);(try (exfalso;omega)))));all_goals first|(refine hK _ _ ?_;clear hK K;simp only [stU])|exact hK|omega)))
    (refine Ends.of (nm []) (by first|exact .inl rfl|exact .inr rfl) ?_;simp (disch:=omega) only [go_sem,Int.reduceEq,↓reduceIte,reduceCtorEq,Nat.reduceEqDiff,Nat.reduceLT,Nat.reduceLeDiff,Nat.reduceAdd,Nat.reduceSub,Nat.reduceMul,Int.reduceToNat,Int.reduceLE,Int.reduceLT,NG1,Sp_overdubref20_Leaf,Sp_overdubref20_Node,Sp_overdubref20_Dir,Sp_overdubref20_Root,hz])
  have e1 : leafOut b = ⟨.tup [.nil,.d (.v (.bool false))],[]⟩:=if_neg h1
  by_cases h2 : nodeOk b
  · have e2 : rnodeOut b = _:=if_pos h2
    have hz:=kindN_2 h1 h2
    clear h1 h2
    repeat' first
 | refine AW.seq ?_
 | refine AW.block ?_
 | refine AW.regl NG1_ok [0,2,4,6,8,12,18,24,30,38] ?_
 | refine then_n ?_
 | refine then_r ?_
 | refine then_x ?_
 | refine block_x ?_
 | refine block_o (by decide) ?_
 | refine block_n ?_
 | refine block_r ?_
 | refine AW.skip ?_
 | refine AW.ret ?_
 | refine AW.exit ?_
 | refine AW.cond rfl ?_ ?_
 | refine awl_none rfl ?_
 | refine awl_nil2 ?_
 | (refine fun (hc : _ = _)=>?_;first|cases hc|((try rw [hc]);(try simp only [stH] at hc);(try (exfalso;omega)));(try (show Awl _ _ _ _ _;simp only [stU])))
 | ((first|refine fun (K : V → List _ → _) hK=>?_|refine fun (_ : V → V)=>?_);simp (disch:=omega) only [go_sem,Int.reduceEq,↓reduceIte,reduceCtorEq,Nat.reduceEqDiff,Nat.reduceLT,Nat.reduceLeDiff,Nat.reduceAdd,Nat.reduceSub,Nat.reduceMul,Int.reduceToNat,Int.reduceLE,Int.reduceLT,NG1,Sp_overdubref20_Leaf,Sp_overdubref20_Node,Sp_overdubref20_Dir,Sp_overdubref20_Root,hbt,e1,e2,sc_P,mB_inj];(try (revert hK;intro hK;(repeat' first|(refine And.intro ?_ ?_)|(intro hc;first|cases hc|((try rw [hc]);(try simp only [stH] at hc);(try (exfalso;omega)))));all_goals first|(refine hK _ _ ?_;clear hK K;simp only [stU])|exact hK|omega)))
    (refine Ends.of (nm []) (by first|exact .inl rfl|exact .inr rfl) ?_;simp (disch:=omega) only [go_sem,Int.reduceEq,↓reduceIte,reduceCtorEq,Nat.reduceEqDiff,Nat.reduceLT,Nat.reduceLeDiff,Nat.reduceAdd,Nat.reduceSub,Nat.reduceMul,Int.reduceToNat,Int.reduceLE,Int.reduceLT,NG1,Sp_overdubref20_Leaf,Sp_overdubref20_Node,Sp_overdubref20_Dir,Sp_overdubref20_Root,hz])
  have e2 : rnodeOut b = ⟨.tup [.nil,.d (.v (.bool false))],[]⟩:=if_neg h2
  by_cases h3 : dirOk b
  · have e3 : rdirOut b = _:=if_pos h3
    have hz:=kindN_3 h1 h2 h3
    clear h1 h2 h3
    repeat' first
 | refine AW.seq ?_
 | refine AW.block ?_
 | refine AW.regl NG1_ok [0,2,4,6,8,12,18,24,30,38] ?_
 | refine then_n ?_
 | refine then_r ?_
 | refine then_x ?_
 | refine block_x ?_
 | refine block_o (by decide) ?_
 | refine block_n ?_
 | refine block_r ?_
 | refine AW.skip ?_
 | refine AW.ret ?_
 | refine AW.exit ?_
 | refine AW.cond rfl ?_ ?_
 | refine awl_none rfl ?_
 | refine awl_nil2 ?_
 | (refine fun (hc : _ = _)=>?_;first|cases hc|((try rw [hc]);(try simp only [stH] at hc);(try (exfalso;omega)));(try (show Awl _ _ _ _ _;simp only [stU])))
 | ((first|refine fun (K : V → List _ → _) hK=>?_|refine fun (_ : V → V)=>?_);simp (disch:=omega) only [go_sem,Int.reduceEq,↓reduceIte,reduceCtorEq,Nat.reduceEqDiff,Nat.reduceLT,Nat.reduceLeDiff,Nat.reduceAdd,Nat.reduceSub,Nat.reduceMul,Int.reduceToNat,Int.reduceLE,Int.reduceLT,NG1,Sp_overdubref20_Leaf,Sp_overdubref20_Node,Sp_overdubref20_Dir,Sp_overdubref20_Root,hbt,e1,e2,e3,sc_L,mB_inj];(try (revert hK;intro hK;(repeat' first|(refine And.intro ?_ ?_)|(intro hc;first|cases hc|((try rw [hc]);(try simp only [stH] at hc);(try (exfalso;omega)))));all_goals first|(refine hK _ _ ?_;clear hK K;simp only [stU])|exact hK|omega)))
    (refine Ends.of (nm []) (by first|exact .inl rfl|exact .inr rfl) ?_;simp (disch:=omega) only [go_sem,Int.reduceEq,↓reduceIte,reduceCtorEq,Nat.reduceEqDiff,Nat.reduceLT,Nat.reduceLeDiff,Nat.reduceAdd,Nat.reduceSub,Nat.reduceMul,Int.reduceToNat,Int.reduceLE,Int.reduceLT,NG1,Sp_overdubref20_Leaf,Sp_overdubref20_Node,Sp_overdubref20_Dir,Sp_overdubref20_Root,hz])
  have e3 : rdirOut b = ⟨.tup [.nil,.d (.v (.bool false))],[]⟩:=if_neg h3
  by_cases h4 : rootOk b
  · have e4 : rootOut b = _:=if_pos h4
    have hz:=kindN_4 h1 h2 h3 h4
    clear h1 h2 h3 h4
    repeat' first
 | refine AW.seq ?_
 | refine AW.block ?_
 | refine AW.regl NG1_ok [0,2,4,6,8,12,18,24,30,38] ?_
 | refine then_n ?_
 | refine then_r ?_
 | refine then_x ?_
 | refine block_x ?_
 | refine block_o (by decide) ?_
 | refine block_n ?_
 | refine block_r ?_
 | refine AW.skip ?_
 | refine AW.ret ?_
 | refine AW.exit ?_
 | refine AW.cond rfl ?_ ?_
 | refine awl_none rfl ?_
 | refine awl_nil2 ?_
 | (refine fun (hc : _ = _)=>?_;first|cases hc|((try rw [hc]);(try simp only [stH] at hc);(try (exfalso;omega)));(try (show Awl _ _ _ _ _;simp only [stU])))
 | ((first|refine fun (K : V → List _ → _) hK=>?_|refine fun (_ : V → V)=>?_);simp (disch:=omega) only [go_sem,Int.reduceEq,↓reduceIte,reduceCtorEq,Nat.reduceEqDiff,Nat.reduceLT,Nat.reduceLeDiff,Nat.reduceAdd,Nat.reduceSub,Nat.reduceMul,Int.reduceToNat,Int.reduceLE,Int.reduceLT,NG1,Sp_overdubref20_Leaf,Sp_overdubref20_Node,Sp_overdubref20_Dir,Sp_overdubref20_Root,hbt,e1,e2,e3,e4,sc_I,mB_inj];(try (revert hK;intro hK;(repeat' first|(refine And.intro ?_ ?_)|(intro hc;first|cases hc|((try rw [hc]);(try simp only [stH] at hc);(try (exfalso;omega)))));all_goals first|(refine hK _ _ ?_;clear hK K;simp only [stU])|exact hK|omega)))
    (refine Ends.of (nm []) (by first|exact .inl rfl|exact .inr rfl) ?_;simp (disch:=omega) only [go_sem,Int.reduceEq,↓reduceIte,reduceCtorEq,Nat.reduceEqDiff,Nat.reduceLT,Nat.reduceLeDiff,Nat.reduceAdd,Nat.reduceSub,Nat.reduceMul,Int.reduceToNat,Int.reduceLE,Int.reduceLT,NG1,Sp_overdubref20_Leaf,Sp_overdubref20_Node,Sp_overdubref20_Dir,Sp_overdubref20_Root,hz])
  have e4 : rootOut b = rootNo:=if_neg h4
  have hz:=kindN_0 h1 h2 h3 h4
  clear h1 h2 h3 h4
  repeat' first
 | refine AW.seq ?_
 | refine AW.block ?_
 | refine AW.regl NG1_ok [0,2,4,6,8,12,18,24,30,38] ?_
 | refine then_n ?_
 | refine then_r ?_
 | refine then_x ?_
 | refine block_x ?_
 | refine block_o (by decide) ?_
 | refine block_n ?_
 | refine block_r ?_
 | refine AW.skip ?_
 | refine AW.ret ?_
 | refine AW.exit ?_
 | refine AW.cond rfl ?_ ?_
 | refine awl_none rfl ?_
 | refine awl_nil2 ?_
 | (refine fun (hc : _ = _)=>?_;first|cases hc|((try rw [hc]);(try simp only [stH] at hc);(try (exfalso;omega)));(try (show Awl _ _ _ _ _;simp only [stU])))
 | ((first|refine fun (K : V → List _ → _) hK=>?_|refine fun (_ : V → V)=>?_);simp (disch:=omega) only [go_sem,Int.reduceEq,↓reduceIte,reduceCtorEq,Nat.reduceEqDiff,Nat.reduceLT,Nat.reduceLeDiff,Nat.reduceAdd,Nat.reduceSub,Nat.reduceMul,Int.reduceToNat,Int.reduceLE,Int.reduceLT,NG1,Sp_overdubref20_Leaf,Sp_overdubref20_Node,Sp_overdubref20_Dir,Sp_overdubref20_Root,hbt,e1,e2,e3,e4,rootNo,mB_inj];(try (revert hK;intro hK;(repeat' first|(refine And.intro ?_ ?_)|(intro hc;first|cases hc|((try rw [hc]);(try simp only [stH] at hc);(try (exfalso;omega)))));all_goals first|(refine hK _ _ ?_;clear hK K;simp only [stU])|exact hK|omega)))
  (refine Ends.of (nm []) (by first|exact .inl rfl|exact .inr rfl) ?_;simp (disch:=omega) only [go_sem,Int.reduceEq,↓reduceIte,reduceCtorEq,Nat.reduceEqDiff,Nat.reduceLT,Nat.reduceLeDiff,Nat.reduceAdd,Nat.reduceSub,Nat.reduceMul,Int.reduceToNat,Int.reduceLE,Int.reduceLT,NG1,Sp_overdubref20_Leaf,Sp_overdubref20_Node,Sp_overdubref20_Dir,Sp_overdubref20_Root,hz])
theorem ent_overdubref20_Kind : Ent Try.prog 57:=⟨_,Try.func57,rfl,by decide⟩
noncomputable def NG2 : Env:=⟨Try.prog,fun f ds out=>(f = 39 ∧ Sp_node_Leaf ds out) ∨ (f = 56 ∧ Sp_overdubref20_Leaf ds out) ∨ (f = 19 ∧ Sp_overdubkeep_Same_api_Extent ds out) ∨ (f = 45 ∧ Sp_node_Kind ds out) ∨ (f = 57 ∧ Sp_overdubref20_Kind ds out) ∨ (f = 40 ∧ Sp_node_Node ds out) ∨ (f = 58 ∧ Sp_overdubref20_Node ds out) ∨ (f = 42 ∧ Sp_node_Dir ds out) ∨ (f = 59 ∧ Sp_overdubref20_Dir ds out) ∨ (f = 43 ∧ Sp_node_Root ds out) ∨ (f = 60 ∧ Sp_overdubref20_Root ds out) ∨ (f = 44 ∧ Sp_overdubkeep_Same_int ds out),Es,fun _=>false⟩
theorem NG2_sp : ∀ f ds out,NG2.Sp f ds out → Ent NG2.P f ∧ Good NG2.P f (fun a b=>a = ds ∧ b = out):=by
  rintro f ds out (⟨rfl,h⟩|⟨rfl,h⟩|⟨rfl,h⟩|⟨rfl,h⟩|⟨rfl,h⟩|⟨rfl,h⟩|⟨rfl,h⟩|⟨rfl,h⟩|⟨rfl,h⟩|⟨rfl,h⟩|⟨rfl,h⟩|⟨rfl,h⟩)
  · exact ⟨ent_node_Leaf,good_node_Leaf.one h⟩
  · exact ⟨ent_overdubref20_Leaf,good_overdubref20_Leaf.one h⟩
  · exact ⟨ent_overdubkeep_Same_api_Extent,good_overdubkeep_Same_api_Extent.one h⟩
  · exact ⟨ent_node_Kind,good_node_Kind.one h⟩
  · exact ⟨ent_overdubref20_Kind,good_overdubref20_Kind.one h⟩
  · exact ⟨ent_node_Node,good_node_Node.one h⟩
  · exact ⟨ent_overdubref20_Node,good_overdubref20_Node.one h⟩
  · exact ⟨ent_node_Dir,good_node_Dir.one h⟩
  · exact ⟨ent_overdubref20_Dir,good_overdubref20_Dir.one h⟩
  · exact ⟨ent_node_Root,good_node_Root.one h⟩
  · exact ⟨ent_overdubref20_Root,good_overdubref20_Root.one h⟩
  · exact ⟨ent_overdubkeep_Same_int,good_overdubkeep_Same_int.one h⟩
theorem NG2_ok : NG2.Ok:=⟨NG2_sp,Es_ok⟩
theorem nil_EG (l : List Xt) : (([] : List D) = l.map eD) = (l = []):=by cases l <;> simp
theorem nil_IG (l : List Int) : (([] : List D) = l.map mI) = (l = []):=by cases l <;> simp
def stG (b : List Int) : St:=⟨[(0,.d (.list (b.map mB))),(2,.d (.v (.bool false)))],[],147⟩
def stGn (b : List Int) (F : List Pa) (k : Nat) : St:=⟨[(0,.d (.list (b.map mB))),(2,.d (.v (.bool false))),(7,.sl 100 2 0 F.length true),(8,.sl 101 2 0 F.length true),(66,.d (.v (.int .i64 F.length))),(67,.d (.v (.int .i64 k)))],[(100,.row 47 2 (F.map pD)),(101,.row 96 2 (F.map pD))],147⟩
def stGd (b : List Int) (F : List Ln) (k : Nat) : St:=⟨[(0,.d (.list (b.map mB))),(2,.d (.v (.bool false))),(10,.sl 100 3 0 F.length true),(11,.sl 101 3 0 F.length true),(101,.d (.v (.int .i64 F.length))),(102,.d (.v (.int .i64 k)))],[(100,.row 36 3 (F.map lD)),(101,.row 86 3 (F.map lD))],147⟩
def Sp_overdublaw20_read (ds : List D) (out : Out) : Prop:=∃ b : List Int,ds = [.list (b.map mB)] ∧ Byt b ∧ b.length ≤ 9223372036854775807 ∧ out = ⟨.d (.v (.bool true)),[]⟩
def bb_overdublaw20_read_12 : List Nat:=[0,0,3,7,0,0,48,112,255]
def bb_overdublaw20_read_22 : List Nat:=[0,0,3,7,0,0,48,112,255]
theorem good_overdublaw20_read : Good Try.prog 27 Sp_overdublaw20_read:=by
  refine good_body (E:=NG2) (nt:=147) (rs:=#[.tmp 2]) Try.func27 rfl rfl rfl ?_
  rintro ds out ⟨b,rfl,hb,hl,rfl⟩
  refine ⟨by simp,?_⟩
  have hbt : Byt b = True:=eq_true hb
  have hta : (b.map mB).take b.length = b.map mB:=List.take_of_length_le (by simp)
  refine AW.m4 (stG b) ?_ ?_
  · have dk : decide (¬ kindN b = kindN b) = false:=decide_eq_false fun h=>h rfl
    by_cases h1 : leafOk b
    · have e1 : leafOut b = _:=if_pos h1
      have hft : ((fE b).map eD).take (fE b).length = (fE b).map eD:=List.take_of_length_le (by simp)
      have dF : decide (fE b = fE b) = true:=decide_eq_true rfl
      have h8 : (fE b).length ≤ 8:=h1.2.2.1.2.1
      clear h1
      generalize fE b = F at *
      repeat' first
 | refine AW.seq ?_
 | refine AW.block ?_
 | refine AW.regl NG2_ok [0,2,3,4,5,6,7,8,9,10,11,12,13,14,15,16,17,18,44,64,66,67,68,78,99,101,102,103,113] ?_
 | (refine AW.regq (id:=12) NG2_ok follows bb_overdublaw20_read_12 (by kernel_rfl) [0,2,3,4,5,6,7,8,9,10,11,12,13,14,15,16,17,18,44,64,66,67,68,78,99,101,102,103,113] ?_)
 | (refine AW.regq (id:=22) NG2_ok follows bb_overdublaw20_read_22 (by kernel_rfl) [0,2,3,4,5,6,7,8,9,10,11,12,13,14,15,16,17,18,44,64,66,67,68,78,99,101,102,103,113] ?_)
 | refine then_n ?_
 | refine then_r ?_
 | refine then_x ?_
 | refine block_x ?_
 | refine block_o (by decide) ?_
 | refine block_n ?_
 | refine block_r ?_
 | refine AW.skip ?_
 | refine AW.ret ?_
 | refine AW.exit ?_
 | refine AW.cond rfl ?_ ?_
 | refine awl_none rfl ?_
 | refine awl_nil2 ?_
 | refine awl_some rfl rfl (Nat.le_of_ble_eq_true rfl) rfl rfl ?_ ?_
 | refine awc_none rfl ?_
 | refine awc_nilq (by kernel_rfl) (by kernel_rfl) ?_
 | (refine fun (hc : _ = _)=>?_;first|cases hc|((try rw [hc]);(try simp only [stH] at hc);(try (exfalso;omega)));(try ((first|show Awl _ _ _ _ _|show Awc _ _ _ _ _ _);simp only [stU])))
 | ((first|refine fun (K : V → List _ → _) hK=>?_|refine fun (_ : V → V)=>?_);simp (disch:=omega) only [go_sem,Int.reduceEq,↓reduceIte,reduceCtorEq,Nat.reduceEqDiff,Nat.reduceLT,Nat.reduceLeDiff,Nat.reduceAdd,Nat.reduceSub,Nat.reduceMul,Int.reduceToNat,Int.reduceLE,Int.reduceLT,NG2,Sp_node_Leaf,Sp_overdubref20_Leaf,Sp_overdubkeep_Same_api_Extent,Sp_node_Kind,Sp_overdubref20_Kind,Sp_node_Node,Sp_overdubref20_Node,Sp_node_Dir,Sp_overdubref20_Dir,Sp_node_Root,Sp_overdubref20_Root,Sp_overdubkeep_Same_int,hbt,e1,hft,dF,dk,sc_E,mB_inj,eD_inj,Sg3,St.updIf,ifc_nil,gt_ifc,go_ifc,ite_self,Option.none_or,Option.some_or];(try (revert hK;intro hK;(repeat' first|(refine And.intro ?_ ?_)|(intro hc;first|cases hc|((try rw [hc]);(try simp only [stH] at hc);(try (exfalso;omega)))));all_goals first|(refine hK _ _ ?_;clear hK K;simp only [stU])|exact hK|omega)))
      refine ⟨nm [],Wk.of ?_⟩
      simp (disch:=omega) only [go_sem,Int.reduceEq,↓reduceIte,reduceCtorEq,Nat.reduceEqDiff,Nat.reduceLT,Nat.reduceLeDiff,Nat.reduceAdd,Nat.reduceSub,Nat.reduceMul,Int.reduceToNat,Int.reduceLE,Int.reduceLT,NG2,Sp_node_Leaf,Sp_overdubref20_Leaf,Sp_overdubkeep_Same_api_Extent,Sp_node_Kind,Sp_overdubref20_Kind,Sp_node_Node,Sp_overdubref20_Node,Sp_node_Dir,Sp_overdubref20_Dir,Sp_node_Root,Sp_overdubref20_Root,Sp_overdubkeep_Same_int,stG]
    · have e1 : leafOut b = ⟨.tup [.nil,.d (.v (.bool false))],[]⟩:=if_neg h1
      have d0 : decide (([] : List Xt) = []) = true:=decide_eq_true rfl
      clear h1
      repeat' first
 | refine AW.seq ?_
 | refine AW.block ?_
 | refine AW.regl NG2_ok [0,2,3,4,5,6,7,8,9,10,11,12,13,14,15,16,17,18,44,64,66,67,68,78,99,101,102,103,113] ?_
 | (refine AW.regq (id:=12) NG2_ok follows bb_overdublaw20_read_12 (by kernel_rfl) [0,2,3,4,5,6,7,8,9,10,11,12,13,14,15,16,17,18,44,64,66,67,68,78,99,101,102,103,113] ?_)
 | (refine AW.regq (id:=22) NG2_ok follows bb_overdublaw20_read_22 (by kernel_rfl) [0,2,3,4,5,6,7,8,9,10,11,12,13,14,15,16,17,18,44,64,66,67,68,78,99,101,102,103,113] ?_)
 | refine then_n ?_
 | refine then_r ?_
 | refine then_x ?_
 | refine block_x ?_
 | refine block_o (by decide) ?_
 | refine block_n ?_
 | refine block_r ?_
 | refine AW.skip ?_
 | refine AW.ret ?_
 | refine AW.exit ?_
 | refine AW.cond rfl ?_ ?_
 | refine awl_none rfl ?_
 | refine awl_nil2 ?_
 | refine awl_some rfl rfl (Nat.le_of_ble_eq_true rfl) rfl rfl ?_ ?_
 | refine awc_none rfl ?_
 | refine awc_nilq (by kernel_rfl) (by kernel_rfl) ?_
 | (refine fun (hc : _ = _)=>?_;first|cases hc|((try rw [hc]);(try simp only [stH] at hc);(try (exfalso;omega)));(try ((first|show Awl _ _ _ _ _|show Awc _ _ _ _ _ _);simp only [stU])))
 | ((first|refine fun (K : V → List _ → _) hK=>?_|refine fun (_ : V → V)=>?_);simp (disch:=omega) only [go_sem,Int.reduceEq,↓reduceIte,reduceCtorEq,Nat.reduceEqDiff,Nat.reduceLT,Nat.reduceLeDiff,Nat.reduceAdd,Nat.reduceSub,Nat.reduceMul,Int.reduceToNat,Int.reduceLE,Int.reduceLT,NG2,Sp_node_Leaf,Sp_overdubref20_Leaf,Sp_overdubkeep_Same_api_Extent,Sp_node_Kind,Sp_overdubref20_Kind,Sp_node_Node,Sp_overdubref20_Node,Sp_node_Dir,Sp_overdubref20_Dir,Sp_node_Root,Sp_overdubref20_Root,Sp_overdubkeep_Same_int,hbt,e1,d0,dk,nil_EG,mB_inj,eD_inj,Sg3,St.updIf,ifc_nil,gt_ifc,go_ifc,ite_self,Option.none_or,Option.some_or];(try (revert hK;intro hK;(repeat' first|(refine And.intro ?_ ?_)|(intro hc;first|cases hc|((try rw [hc]);(try simp only [stH] at hc);(try (exfalso;omega)))));all_goals first|(refine hK _ _ ?_;clear hK K;simp only [stU])|exact hK|omega)))
      refine ⟨nm [],Wk.of ?_⟩
      simp (disch:=omega) only [go_sem,Int.reduceEq,↓reduceIte,reduceCtorEq,Nat.reduceEqDiff,Nat.reduceLT,Nat.reduceLeDiff,Nat.reduceAdd,Nat.reduceSub,Nat.reduceMul,Int.reduceToNat,Int.reduceLE,Int.reduceLT,NG2,Sp_node_Leaf,Sp_overdubref20_Leaf,Sp_overdubkeep_Same_api_Extent,Sp_node_Kind,Sp_overdubref20_Kind,Sp_node_Node,Sp_overdubref20_Node,Sp_node_Dir,Sp_overdubref20_Dir,Sp_node_Root,Sp_overdubref20_Root,Sp_overdubkeep_Same_int,stG]
  refine AW.m4 (stG b) ?_ ?_
  · by_cases h1 : nodeOk b
    · have e1 : nodeOut b = _:=if_pos h1
      have e2 : rnodeOut b = _:=if_pos h1
      have h8 : (nE b).length ≤ 8:=h1.2.2.1.2.1
      clear h1
      generalize nE b = F at *
      repeat' first
 | refine AW.seq ?_
 | refine AW.block ?_
 | refine AW.regl NG2_ok [0,2,3,4,5,6,7,8,9,10,11,12,13,14,15,16,17,18,44,64,66,67,68,78,99,101,102,103,113] ?_
 | (refine AW.regq (id:=12) NG2_ok follows bb_overdublaw20_read_12 (by kernel_rfl) [0,2,3,4,5,6,7,8,9,10,11,12,13,14,15,16,17,18,44,64,66,67,68,78,99,101,102,103,113] ?_)
 | (refine AW.regq (id:=22) NG2_ok follows bb_overdublaw20_read_22 (by kernel_rfl) [0,2,3,4,5,6,7,8,9,10,11,12,13,14,15,16,17,18,44,64,66,67,68,78,99,101,102,103,113] ?_)
 | refine then_n ?_
 | refine then_r ?_
 | refine then_x ?_
 | refine block_x ?_
 | refine block_o (by decide) ?_
 | refine block_n ?_
 | refine block_r ?_
 | refine AW.skip ?_
 | refine AW.ret ?_
 | refine AW.exit ?_
 | refine AW.cond rfl ?_ ?_
 | refine awl_none rfl ?_
 | refine awl_nil2 ?_
 | refine awl_some rfl rfl (Nat.le_of_ble_eq_true rfl) rfl rfl ?_ ?_
 | refine awc_none rfl ?_
 | refine awc_nilq (by kernel_rfl) (by kernel_rfl) ?_
 | (refine fun (hc : _ = _)=>?_;first|cases hc|((try rw [hc]);(try simp only [stH] at hc);(try (exfalso;omega)));(try ((first|show Awl _ _ _ _ _|show Awc _ _ _ _ _ _);simp only [stU])))
 | ((first|refine fun (K : V → List _ → _) hK=>?_|refine fun (_ : V → V)=>?_);simp (disch:=omega) only [go_sem,Int.reduceEq,↓reduceIte,reduceCtorEq,Nat.reduceEqDiff,Nat.reduceLT,Nat.reduceLeDiff,Nat.reduceAdd,Nat.reduceSub,Nat.reduceMul,Int.reduceToNat,Int.reduceLE,Int.reduceLT,NG2,Sp_node_Leaf,Sp_overdubref20_Leaf,Sp_overdubkeep_Same_api_Extent,Sp_node_Kind,Sp_overdubref20_Kind,Sp_node_Node,Sp_overdubref20_Node,Sp_node_Dir,Sp_overdubref20_Dir,Sp_node_Root,Sp_overdubref20_Root,Sp_overdubkeep_Same_int,stG,hbt,e1,e2,sc_P,mB_inj,Sg3,St.updIf,ifc_nil,gt_ifc,go_ifc,ite_self,Option.none_or,Option.some_or];(try (revert hK;intro hK;(repeat' first|(refine And.intro ?_ ?_)|(intro hc;first|cases hc|((try rw [hc]);(try simp only [stH] at hc);(try (exfalso;omega)))));all_goals first|(refine hK _ _ ?_;clear hK K;simp only [stU])|exact hK|omega)))
      refine AW.loop_wk (fun k : Nat=>stGn b F k) (fun k=>k ≤ F.length) (fun k=>F.length - k) 0 (by omega) (fun w0 oa a w hs=>Wk.sr (ρ:=nm [(100,47),(101,52)]) (Wk.of ?_) hs) ?_
      · simp (disch:=omega) only [go_sem,Int.reduceEq,↓reduceIte,reduceCtorEq,Nat.reduceEqDiff,Nat.reduceLT,Nat.reduceLeDiff,Nat.reduceAdd,Nat.reduceSub,Nat.reduceMul,Int.reduceToNat,Int.reduceLE,Int.reduceLT,NG2,Sp_node_Leaf,Sp_overdubref20_Leaf,Sp_overdubkeep_Same_api_Extent,Sp_node_Kind,Sp_overdubref20_Kind,Sp_node_Node,Sp_overdubref20_Node,Sp_node_Dir,Sp_overdubref20_Dir,Sp_node_Root,Sp_overdubref20_Root,Sp_overdubkeep_Same_int,stGn]
      · intro k hk
        by_cases hk1 : k < F.length
        · have g2:=nth_Ph F k hk1
          generalize F.getD k p0 = x at *
          obtain ⟨u,v⟩:=x
          dsimp only at g2
          have dq : decide ([u,v] = [u,v]) = true:=decide_eq_true rfl
          repeat' first
 | refine AW.seq ?_
 | refine AW.block ?_
 | refine AW.regl NG2_ok [0,2,3,4,5,6,7,8,9,10,11,12,13,14,15,16,17,18,44,64,66,67,68,78,99,101,102,103,113] ?_
 | (refine AW.regq (id:=12) NG2_ok follows bb_overdublaw20_read_12 (by kernel_rfl) [0,2,3,4,5,6,7,8,9,10,11,12,13,14,15,16,17,18,44,64,66,67,68,78,99,101,102,103,113] ?_)
 | (refine AW.regq (id:=22) NG2_ok follows bb_overdublaw20_read_22 (by kernel_rfl) [0,2,3,4,5,6,7,8,9,10,11,12,13,14,15,16,17,18,44,64,66,67,68,78,99,101,102,103,113] ?_)
 | refine then_n ?_
 | refine then_r ?_
 | refine then_x ?_
 | refine block_x ?_
 | refine block_o (by decide) ?_
 | refine block_n ?_
 | refine block_r ?_
 | refine AW.skip ?_
 | refine AW.ret ?_
 | refine AW.exit ?_
 | refine AW.cond rfl ?_ ?_
 | refine awl_none rfl ?_
 | refine awl_nil2 ?_
 | refine awl_some rfl rfl (Nat.le_of_ble_eq_true rfl) rfl rfl ?_ ?_
 | refine awc_none rfl ?_
 | refine awc_nilq (by kernel_rfl) (by kernel_rfl) ?_
 | (refine fun (hc : _ = _)=>?_;first|cases hc|((try rw [hc]);(try simp only [stH] at hc);(try (exfalso;omega)));(try ((first|show Awl _ _ _ _ _|show Awc _ _ _ _ _ _);simp only [stU])))
 | ((first|refine fun (K : V → List _ → _) hK=>?_|refine fun (_ : V → V)=>?_);simp (disch:=omega) only [go_sem,Int.reduceEq,↓reduceIte,reduceCtorEq,Nat.reduceEqDiff,Nat.reduceLT,Nat.reduceLeDiff,Nat.reduceAdd,Nat.reduceSub,Nat.reduceMul,Int.reduceToNat,Int.reduceLE,Int.reduceLT,NG2,Sp_node_Leaf,Sp_overdubref20_Leaf,Sp_overdubkeep_Same_api_Extent,Sp_node_Kind,Sp_overdubref20_Kind,Sp_node_Node,Sp_overdubref20_Node,Sp_node_Dir,Sp_overdubref20_Dir,Sp_node_Root,Sp_overdubref20_Root,Sp_overdubkeep_Same_int,stGn,g2,dq,decide_not,Bool.not_true,all_P,Sg3,St.updIf,ifc_nil,gt_ifc,go_ifc,ite_self,Option.none_or,Option.some_or];(try (revert hK;intro hK;(repeat' first|(refine And.intro ?_ ?_)|(intro hc;first|cases hc|((try rw [hc]);(try simp only [stH] at hc);(try (exfalso;omega)))));all_goals first|(refine hK _ _ ?_;clear hK K;simp only [stU])|exact hK|omega)))
          refine ⟨k + 1,by omega,by omega,nm [],Wk.of ?_⟩
          simp (disch:=omega) only [go_sem,Int.reduceEq,↓reduceIte,reduceCtorEq,Nat.reduceEqDiff,Nat.reduceLT,Nat.reduceLeDiff,Nat.reduceAdd,Nat.reduceSub,Nat.reduceMul,Int.reduceToNat,Int.reduceLE,Int.reduceLT,NG2,Sp_node_Leaf,Sp_overdubref20_Leaf,Sp_overdubkeep_Same_api_Extent,Sp_node_Kind,Sp_overdubref20_Kind,Sp_node_Node,Sp_overdubref20_Node,Sp_node_Dir,Sp_overdubref20_Dir,Sp_node_Root,Sp_overdubref20_Root,Sp_overdubkeep_Same_int,stGn]
          all_goals first|done|rfl|exact ⟨rfl,rfl⟩
        · obtain rfl : k = F.length:=by omega
          repeat' first
 | refine AW.seq ?_
 | refine AW.block ?_
 | refine AW.regl NG2_ok [0,2,3,4,5,6,7,8,9,10,11,12,13,14,15,16,17,18,44,64,66,67,68,78,99,101,102,103,113] ?_
 | (refine AW.regq (id:=12) NG2_ok follows bb_overdublaw20_read_12 (by kernel_rfl) [0,2,3,4,5,6,7,8,9,10,11,12,13,14,15,16,17,18,44,64,66,67,68,78,99,101,102,103,113] ?_)
 | (refine AW.regq (id:=22) NG2_ok follows bb_overdublaw20_read_22 (by kernel_rfl) [0,2,3,4,5,6,7,8,9,10,11,12,13,14,15,16,17,18,44,64,66,67,68,78,99,101,102,103,113] ?_)
 | refine then_n ?_
 | refine then_r ?_
 | refine then_x ?_
 | refine block_x ?_
 | refine block_o (by decide) ?_
 | refine block_n ?_
 | refine block_r ?_
 | refine AW.skip ?_
 | refine AW.ret ?_
 | refine AW.exit ?_
 | refine AW.cond rfl ?_ ?_
 | refine awl_none rfl ?_
 | refine awl_nil2 ?_
 | refine awl_some rfl rfl (Nat.le_of_ble_eq_true rfl) rfl rfl ?_ ?_
 | refine awc_none rfl ?_
 | refine awc_nilq (by kernel_rfl) (by kernel_rfl) ?_
 | (refine fun (hc : _ = _)=>?_;first|cases hc|((try rw [hc]);(try simp only [stH] at hc);(try (exfalso;omega)));(try ((first|show Awl _ _ _ _ _|show Awc _ _ _ _ _ _);simp only [stU])))
 | ((first|refine fun (K : V → List _ → _) hK=>?_|refine fun (_ : V → V)=>?_);simp (disch:=omega) only [go_sem,Int.reduceEq,↓reduceIte,reduceCtorEq,Nat.reduceEqDiff,Nat.reduceLT,Nat.reduceLeDiff,Nat.reduceAdd,Nat.reduceSub,Nat.reduceMul,Int.reduceToNat,Int.reduceLE,Int.reduceLT,NG2,Sp_node_Leaf,Sp_overdubref20_Leaf,Sp_overdubkeep_Same_api_Extent,Sp_node_Kind,Sp_overdubref20_Kind,Sp_node_Node,Sp_overdubref20_Node,Sp_node_Dir,Sp_overdubref20_Dir,Sp_node_Root,Sp_overdubref20_Root,Sp_overdubkeep_Same_int,stGn,Sg3,St.updIf,ifc_nil,gt_ifc,go_ifc,ite_self,Option.none_or,Option.some_or];(try (revert hK;intro hK;(repeat' first|(refine And.intro ?_ ?_)|(intro hc;first|cases hc|((try rw [hc]);(try simp only [stH] at hc);(try (exfalso;omega)))));all_goals first|(refine hK _ _ ?_;clear hK K;simp only [stU])|exact hK|omega)))
          refine ⟨nm [],Wk.of ?_⟩
          simp (disch:=omega) only [go_sem,Int.reduceEq,↓reduceIte,reduceCtorEq,Nat.reduceEqDiff,Nat.reduceLT,Nat.reduceLeDiff,Nat.reduceAdd,Nat.reduceSub,Nat.reduceMul,Int.reduceToNat,Int.reduceLE,Int.reduceLT,NG2,Sp_node_Leaf,Sp_overdubref20_Leaf,Sp_overdubkeep_Same_api_Extent,Sp_node_Kind,Sp_overdubref20_Kind,Sp_node_Node,Sp_overdubref20_Node,Sp_node_Dir,Sp_overdubref20_Dir,Sp_node_Root,Sp_overdubref20_Root,Sp_overdubkeep_Same_int,stG]
    · have e1 : nodeOut b = ⟨.tup [.nil,.d (.v (.bool false))],[]⟩:=if_neg h1
      have e2 : rnodeOut b = ⟨.tup [.nil,.d (.v (.bool false))],[]⟩:=if_neg h1
      clear h1
      repeat' first
 | refine AW.seq ?_
 | refine AW.block ?_
 | refine AW.regl NG2_ok [0,2,3,4,5,6,7,8,9,10,11,12,13,14,15,16,17,18,44,64,66,67,68,78,99,101,102,103,113] ?_
 | (refine AW.regq (id:=12) NG2_ok follows bb_overdublaw20_read_12 (by kernel_rfl) [0,2,3,4,5,6,7,8,9,10,11,12,13,14,15,16,17,18,44,64,66,67,68,78,99,101,102,103,113] ?_)
 | (refine AW.regq (id:=22) NG2_ok follows bb_overdublaw20_read_22 (by kernel_rfl) [0,2,3,4,5,6,7,8,9,10,11,12,13,14,15,16,17,18,44,64,66,67,68,78,99,101,102,103,113] ?_)
 | refine then_n ?_
 | refine then_r ?_
 | refine then_x ?_
 | refine block_x ?_
 | refine block_o (by decide) ?_
 | refine block_n ?_
 | refine block_r ?_
 | refine AW.skip ?_
 | refine AW.ret ?_
 | refine AW.exit ?_
 | refine AW.cond rfl ?_ ?_
 | refine awl_none rfl ?_
 | refine awl_nil2 ?_
 | refine awl_some rfl rfl (Nat.le_of_ble_eq_true rfl) rfl rfl ?_ ?_
 | refine awc_none rfl ?_
 | refine awc_nilq (by kernel_rfl) (by kernel_rfl) ?_
 | (refine fun (hc : _ = _)=>?_;first|cases hc|((try rw [hc]);(try simp only [stH] at hc);(try (exfalso;omega)));(try ((first|show Awl _ _ _ _ _|show Awc _ _ _ _ _ _);simp only [stU])))
 | ((first|refine fun (K : V → List _ → _) hK=>?_|refine fun (_ : V → V)=>?_);simp (disch:=omega) only [go_sem,Int.reduceEq,↓reduceIte,reduceCtorEq,Nat.reduceEqDiff,Nat.reduceLT,Nat.reduceLeDiff,Nat.reduceAdd,Nat.reduceSub,Nat.reduceMul,Int.reduceToNat,Int.reduceLE,Int.reduceLT,NG2,Sp_node_Leaf,Sp_overdubref20_Leaf,Sp_overdubkeep_Same_api_Extent,Sp_node_Kind,Sp_overdubref20_Kind,Sp_node_Node,Sp_overdubref20_Node,Sp_node_Dir,Sp_overdubref20_Dir,Sp_node_Root,Sp_overdubref20_Root,Sp_overdubkeep_Same_int,stG,hbt,e1,e2,mB_inj,Sg3,St.updIf,ifc_nil,gt_ifc,go_ifc,ite_self,Option.none_or,Option.some_or];(try (revert hK;intro hK;(repeat' first|(refine And.intro ?_ ?_)|(intro hc;first|cases hc|((try rw [hc]);(try simp only [stH] at hc);(try (exfalso;omega)))));all_goals first|(refine hK _ _ ?_;clear hK K;simp only [stU])|exact hK|omega)))
      refine AW.loop_wk (fun _ : Unit=>⟨[(0,.d (.list (b.map mB))),(2,.d (.v (.bool false))),(66,.d (.v (.int .i64 0))),(67,.d (.v (.int .i64 0)))],[],147⟩) (fun _=>True) (fun _=>0) () trivial (fun w0 oa a w hs=>Wk.sr (ρ:=nm []) (Wk.of ?_) hs) ?_
      · simp (disch:=omega) only [go_sem,Int.reduceEq,↓reduceIte,reduceCtorEq,Nat.reduceEqDiff,Nat.reduceLT,Nat.reduceLeDiff,Nat.reduceAdd,Nat.reduceSub,Nat.reduceMul,Int.reduceToNat,Int.reduceLE,Int.reduceLT,NG2,Sp_node_Leaf,Sp_overdubref20_Leaf,Sp_overdubkeep_Same_api_Extent,Sp_node_Kind,Sp_overdubref20_Kind,Sp_node_Node,Sp_overdubref20_Node,Sp_node_Dir,Sp_overdubref20_Dir,Sp_node_Root,Sp_overdubref20_Root,Sp_overdubkeep_Same_int]
      · rintro _ _
        repeat' first
 | refine AW.seq ?_
 | refine AW.block ?_
 | refine AW.regl NG2_ok [0,2,3,4,5,6,7,8,9,10,11,12,13,14,15,16,17,18,44,64,66,67,68,78,99,101,102,103,113] ?_
 | (refine AW.regq (id:=12) NG2_ok follows bb_overdublaw20_read_12 (by kernel_rfl) [0,2,3,4,5,6,7,8,9,10,11,12,13,14,15,16,17,18,44,64,66,67,68,78,99,101,102,103,113] ?_)
 | (refine AW.regq (id:=22) NG2_ok follows bb_overdublaw20_read_22 (by kernel_rfl) [0,2,3,4,5,6,7,8,9,10,11,12,13,14,15,16,17,18,44,64,66,67,68,78,99,101,102,103,113] ?_)
 | refine then_n ?_
 | refine then_r ?_
 | refine then_x ?_
 | refine block_x ?_
 | refine block_o (by decide) ?_
 | refine block_n ?_
 | refine block_r ?_
 | refine AW.skip ?_
 | refine AW.ret ?_
 | refine AW.exit ?_
 | refine AW.cond rfl ?_ ?_
 | refine awl_none rfl ?_
 | refine awl_nil2 ?_
 | refine awl_some rfl rfl (Nat.le_of_ble_eq_true rfl) rfl rfl ?_ ?_
 | refine awc_none rfl ?_
 | refine awc_nilq (by kernel_rfl) (by kernel_rfl) ?_
 | (refine fun (hc : _ = _)=>?_;first|cases hc|((try rw [hc]);(try simp only [stH] at hc);(try (exfalso;omega)));(try ((first|show Awl _ _ _ _ _|show Awc _ _ _ _ _ _);simp only [stU])))
 | ((first|refine fun (K : V → List _ → _) hK=>?_|refine fun (_ : V → V)=>?_);simp (disch:=omega) only [go_sem,Int.reduceEq,↓reduceIte,reduceCtorEq,Nat.reduceEqDiff,Nat.reduceLT,Nat.reduceLeDiff,Nat.reduceAdd,Nat.reduceSub,Nat.reduceMul,Int.reduceToNat,Int.reduceLE,Int.reduceLT,NG2,Sp_node_Leaf,Sp_overdubref20_Leaf,Sp_overdubkeep_Same_api_Extent,Sp_node_Kind,Sp_overdubref20_Kind,Sp_node_Node,Sp_overdubref20_Node,Sp_node_Dir,Sp_overdubref20_Dir,Sp_node_Root,Sp_overdubref20_Root,Sp_overdubkeep_Same_int,Sg3,St.updIf,ifc_nil,gt_ifc,go_ifc,ite_self,Option.none_or,Option.some_or];(try (revert hK;intro hK;(repeat' first|(refine And.intro ?_ ?_)|(intro hc;first|cases hc|((try rw [hc]);(try simp only [stH] at hc);(try (exfalso;omega)))));all_goals first|(refine hK _ _ ?_;clear hK K;simp only [stU])|exact hK|omega)))
        refine ⟨nm [],Wk.of ?_⟩
        simp (disch:=omega) only [go_sem,Int.reduceEq,↓reduceIte,reduceCtorEq,Nat.reduceEqDiff,Nat.reduceLT,Nat.reduceLeDiff,Nat.reduceAdd,Nat.reduceSub,Nat.reduceMul,Int.reduceToNat,Int.reduceLE,Int.reduceLT,NG2,Sp_node_Leaf,Sp_overdubref20_Leaf,Sp_overdubkeep_Same_api_Extent,Sp_node_Kind,Sp_overdubref20_Kind,Sp_node_Node,Sp_overdubref20_Node,Sp_node_Dir,Sp_overdubref20_Dir,Sp_node_Root,Sp_overdubref20_Root,Sp_overdubkeep_Same_int,stG]
  refine AW.m4 (stG b) ?_ ?_
  · by_cases h1 : dirOk b
    · have e1 : dirOut b = _:=if_pos h1
      have e2 : rdirOut b = _:=if_pos h1
      have h8 : (dE b).length ≤ 6:=h1.2.2.1.1
      clear h1
      generalize dE b = F at *
      repeat' first
 | refine AW.seq ?_
 | refine AW.block ?_
 | refine AW.regl NG2_ok [0,2,3,4,5,6,7,8,9,10,11,12,13,14,15,16,17,18,44,64,66,67,68,78,99,101,102,103,113] ?_
 | (refine AW.regq (id:=12) NG2_ok follows bb_overdublaw20_read_12 (by kernel_rfl) [0,2,3,4,5,6,7,8,9,10,11,12,13,14,15,16,17,18,44,64,66,67,68,78,99,101,102,103,113] ?_)
 | (refine AW.regq (id:=22) NG2_ok follows bb_overdublaw20_read_22 (by kernel_rfl) [0,2,3,4,5,6,7,8,9,10,11,12,13,14,15,16,17,18,44,64,66,67,68,78,99,101,102,103,113] ?_)
 | refine then_n ?_
 | refine then_r ?_
 | refine then_x ?_
 | refine block_x ?_
 | refine block_o (by decide) ?_
 | refine block_n ?_
 | refine block_r ?_
 | refine AW.skip ?_
 | refine AW.ret ?_
 | refine AW.exit ?_
 | refine AW.cond rfl ?_ ?_
 | refine awl_none rfl ?_
 | refine awl_nil2 ?_
 | refine awl_some rfl rfl (Nat.le_of_ble_eq_true rfl) rfl rfl ?_ ?_
 | refine awc_none rfl ?_
 | refine awc_nilq (by kernel_rfl) (by kernel_rfl) ?_
 | (refine fun (hc : _ = _)=>?_;first|cases hc|((try rw [hc]);(try simp only [stH] at hc);(try (exfalso;omega)));(try ((first|show Awl _ _ _ _ _|show Awc _ _ _ _ _ _);simp only [stU])))
 | ((first|refine fun (K : V → List _ → _) hK=>?_|refine fun (_ : V → V)=>?_);simp (disch:=omega) only [go_sem,Int.reduceEq,↓reduceIte,reduceCtorEq,Nat.reduceEqDiff,Nat.reduceLT,Nat.reduceLeDiff,Nat.reduceAdd,Nat.reduceSub,Nat.reduceMul,Int.reduceToNat,Int.reduceLE,Int.reduceLT,NG2,Sp_node_Leaf,Sp_overdubref20_Leaf,Sp_overdubkeep_Same_api_Extent,Sp_node_Kind,Sp_overdubref20_Kind,Sp_node_Node,Sp_overdubref20_Node,Sp_node_Dir,Sp_overdubref20_Dir,Sp_node_Root,Sp_overdubref20_Root,Sp_overdubkeep_Same_int,stG,hbt,e1,e2,sc_L,mB_inj,Sg3,St.updIf,ifc_nil,gt_ifc,go_ifc,ite_self,Option.none_or,Option.some_or];(try (revert hK;intro hK;(repeat' first|(refine And.intro ?_ ?_)|(intro hc;first|cases hc|((try rw [hc]);(try simp only [stH] at hc);(try (exfalso;omega)))));all_goals first|(refine hK _ _ ?_;clear hK K;simp only [stU])|exact hK|omega)))
      refine AW.loop_wk (fun k : Nat=>stGd b F k) (fun k=>k ≤ F.length) (fun k=>F.length - k) 0 (by omega) (fun w0 oa a w hs=>Wk.sr (ρ:=nm [(100,82),(101,87)]) (Wk.of ?_) hs) ?_
      · simp (disch:=omega) only [go_sem,Int.reduceEq,↓reduceIte,reduceCtorEq,Nat.reduceEqDiff,Nat.reduceLT,Nat.reduceLeDiff,Nat.reduceAdd,Nat.reduceSub,Nat.reduceMul,Int.reduceToNat,Int.reduceLE,Int.reduceLT,NG2,Sp_node_Leaf,Sp_overdubref20_Leaf,Sp_overdubkeep_Same_api_Extent,Sp_node_Kind,Sp_overdubref20_Kind,Sp_node_Node,Sp_overdubref20_Node,Sp_node_Dir,Sp_overdubref20_Dir,Sp_node_Root,Sp_overdubref20_Root,Sp_overdubkeep_Same_int,stGd]
      · intro k hk
        by_cases hk1 : k < F.length
        · have g2:=nth_Lh F k hk1
          generalize F.getD k l0 = x at *
          obtain ⟨u,v,w⟩:=x
          dsimp only at g2
          have dq : decide ([u,v,w] = [u,v,w]) = true:=decide_eq_true rfl
          repeat' first
 | refine AW.seq ?_
 | refine AW.block ?_
 | refine AW.regl NG2_ok [0,2,3,4,5,6,7,8,9,10,11,12,13,14,15,16,17,18,44,64,66,67,68,78,99,101,102,103,113] ?_
 | (refine AW.regq (id:=12) NG2_ok follows bb_overdublaw20_read_12 (by kernel_rfl) [0,2,3,4,5,6,7,8,9,10,11,12,13,14,15,16,17,18,44,64,66,67,68,78,99,101,102,103,113] ?_)
 | (refine AW.regq (id:=22) NG2_ok follows bb_overdublaw20_read_22 (by kernel_rfl) [0,2,3,4,5,6,7,8,9,10,11,12,13,14,15,16,17,18,44,64,66,67,68,78,99,101,102,103,113] ?_)
 | refine then_n ?_
 | refine then_r ?_
 | refine then_x ?_
 | refine block_x ?_
 | refine block_o (by decide) ?_
 | refine block_n ?_
 | refine block_r ?_
 | refine AW.skip ?_
 | refine AW.ret ?_
 | refine AW.exit ?_
 | refine AW.cond rfl ?_ ?_
 | refine awl_none rfl ?_
 | refine awl_nil2 ?_
 | refine awl_some rfl rfl (Nat.le_of_ble_eq_true rfl) rfl rfl ?_ ?_
 | refine awc_none rfl ?_
 | refine awc_nilq (by kernel_rfl) (by kernel_rfl) ?_
 | (refine fun (hc : _ = _)=>?_;first|cases hc|((try rw [hc]);(try simp only [stH] at hc);(try (exfalso;omega)));(try ((first|show Awl _ _ _ _ _|show Awc _ _ _ _ _ _);simp only [stU])))
 | ((first|refine fun (K : V → List _ → _) hK=>?_|refine fun (_ : V → V)=>?_);simp (disch:=omega) only [go_sem,Int.reduceEq,↓reduceIte,reduceCtorEq,Nat.reduceEqDiff,Nat.reduceLT,Nat.reduceLeDiff,Nat.reduceAdd,Nat.reduceSub,Nat.reduceMul,Int.reduceToNat,Int.reduceLE,Int.reduceLT,NG2,Sp_node_Leaf,Sp_overdubref20_Leaf,Sp_overdubkeep_Same_api_Extent,Sp_node_Kind,Sp_overdubref20_Kind,Sp_node_Node,Sp_overdubref20_Node,Sp_node_Dir,Sp_overdubref20_Dir,Sp_node_Root,Sp_overdubref20_Root,Sp_overdubkeep_Same_int,stGd,g2,dq,decide_not,Bool.not_true,all_L,Sg3,St.updIf,ifc_nil,gt_ifc,go_ifc,ite_self,Option.none_or,Option.some_or];(try (revert hK;intro hK;(repeat' first|(refine And.intro ?_ ?_)|(intro hc;first|cases hc|((try rw [hc]);(try simp only [stH] at hc);(try (exfalso;omega)))));all_goals first|(refine hK _ _ ?_;clear hK K;simp only [stU])|exact hK|omega)))
          refine ⟨k + 1,by omega,by omega,nm [],Wk.of ?_⟩
          simp (disch:=omega) only [go_sem,Int.reduceEq,↓reduceIte,reduceCtorEq,Nat.reduceEqDiff,Nat.reduceLT,Nat.reduceLeDiff,Nat.reduceAdd,Nat.reduceSub,Nat.reduceMul,Int.reduceToNat,Int.reduceLE,Int.reduceLT,NG2,Sp_node_Leaf,Sp_overdubref20_Leaf,Sp_overdubkeep_Same_api_Extent,Sp_node_Kind,Sp_overdubref20_Kind,Sp_node_Node,Sp_overdubref20_Node,Sp_node_Dir,Sp_overdubref20_Dir,Sp_node_Root,Sp_overdubref20_Root,Sp_overdubkeep_Same_int,stGd]
          all_goals first|done|rfl|exact ⟨rfl,rfl⟩
        · obtain rfl : k = F.length:=by omega
          repeat' first
 | refine AW.seq ?_
 | refine AW.block ?_
 | refine AW.regl NG2_ok [0,2,3,4,5,6,7,8,9,10,11,12,13,14,15,16,17,18,44,64,66,67,68,78,99,101,102,103,113] ?_
 | (refine AW.regq (id:=12) NG2_ok follows bb_overdublaw20_read_12 (by kernel_rfl) [0,2,3,4,5,6,7,8,9,10,11,12,13,14,15,16,17,18,44,64,66,67,68,78,99,101,102,103,113] ?_)
 | (refine AW.regq (id:=22) NG2_ok follows bb_overdublaw20_read_22 (by kernel_rfl) [0,2,3,4,5,6,7,8,9,10,11,12,13,14,15,16,17,18,44,64,66,67,68,78,99,101,102,103,113] ?_)
 | refine then_n ?_
 | refine then_r ?_
 | refine then_x ?_
 | refine block_x ?_
 | refine block_o (by decide) ?_
 | refine block_n ?_
 | refine block_r ?_
 | refine AW.skip ?_
 | refine AW.ret ?_
 | refine AW.exit ?_
 | refine AW.cond rfl ?_ ?_
 | refine awl_none rfl ?_
 | refine awl_nil2 ?_
 | refine awl_some rfl rfl (Nat.le_of_ble_eq_true rfl) rfl rfl ?_ ?_
 | refine awc_none rfl ?_
 | refine awc_nilq (by kernel_rfl) (by kernel_rfl) ?_
 | (refine fun (hc : _ = _)=>?_;first|cases hc|((try rw [hc]);(try simp only [stH] at hc);(try (exfalso;omega)));(try ((first|show Awl _ _ _ _ _|show Awc _ _ _ _ _ _);simp only [stU])))
 | ((first|refine fun (K : V → List _ → _) hK=>?_|refine fun (_ : V → V)=>?_);simp (disch:=omega) only [go_sem,Int.reduceEq,↓reduceIte,reduceCtorEq,Nat.reduceEqDiff,Nat.reduceLT,Nat.reduceLeDiff,Nat.reduceAdd,Nat.reduceSub,Nat.reduceMul,Int.reduceToNat,Int.reduceLE,Int.reduceLT,NG2,Sp_node_Leaf,Sp_overdubref20_Leaf,Sp_overdubkeep_Same_api_Extent,Sp_node_Kind,Sp_overdubref20_Kind,Sp_node_Node,Sp_overdubref20_Node,Sp_node_Dir,Sp_overdubref20_Dir,Sp_node_Root,Sp_overdubref20_Root,Sp_overdubkeep_Same_int,stGd,Sg3,St.updIf,ifc_nil,gt_ifc,go_ifc,ite_self,Option.none_or,Option.some_or];(try (revert hK;intro hK;(repeat' first|(refine And.intro ?_ ?_)|(intro hc;first|cases hc|((try rw [hc]);(try simp only [stH] at hc);(try (exfalso;omega)))));all_goals first|(refine hK _ _ ?_;clear hK K;simp only [stU])|exact hK|omega)))
          refine ⟨nm [],Wk.of ?_⟩
          simp (disch:=omega) only [go_sem,Int.reduceEq,↓reduceIte,reduceCtorEq,Nat.reduceEqDiff,Nat.reduceLT,Nat.reduceLeDiff,Nat.reduceAdd,Nat.reduceSub,Nat.reduceMul,Int.reduceToNat,Int.reduceLE,Int.reduceLT,NG2,Sp_node_Leaf,Sp_overdubref20_Leaf,Sp_overdubkeep_Same_api_Extent,Sp_node_Kind,Sp_overdubref20_Kind,Sp_node_Node,Sp_overdubref20_Node,Sp_node_Dir,Sp_overdubref20_Dir,Sp_node_Root,Sp_overdubref20_Root,Sp_overdubkeep_Same_int,stG]
    · have e1 : dirOut b = ⟨.tup [.nil,.d (.v (.bool false))],[]⟩:=if_neg h1
      have e2 : rdirOut b = ⟨.tup [.nil,.d (.v (.bool false))],[]⟩:=if_neg h1
      clear h1
      repeat' first
 | refine AW.seq ?_
 | refine AW.block ?_
 | refine AW.regl NG2_ok [0,2,3,4,5,6,7,8,9,10,11,12,13,14,15,16,17,18,44,64,66,67,68,78,99,101,102,103,113] ?_
 | (refine AW.regq (id:=12) NG2_ok follows bb_overdublaw20_read_12 (by kernel_rfl) [0,2,3,4,5,6,7,8,9,10,11,12,13,14,15,16,17,18,44,64,66,67,68,78,99,101,102,103,113] ?_)
 | (refine AW.regq (id:=22) NG2_ok follows bb_overdublaw20_read_22 (by kernel_rfl) [0,2,3,4,5,6,7,8,9,10,11,12,13,14,15,16,17,18,44,64,66,67,68,78,99,101,102,103,113] ?_)
 | refine then_n ?_
 | refine then_r ?_
 | refine then_x ?_
 | refine block_x ?_
 | refine block_o (by decide) ?_
 | refine block_n ?_
 | refine block_r ?_
 | refine AW.skip ?_
 | refine AW.ret ?_
 | refine AW.exit ?_
 | refine AW.cond rfl ?_ ?_
 | refine awl_none rfl ?_
 | refine awl_nil2 ?_
 | refine awl_some rfl rfl (Nat.le_of_ble_eq_true rfl) rfl rfl ?_ ?_
 | refine awc_none rfl ?_
 | refine awc_nilq (by kernel_rfl) (by kernel_rfl) ?_
 | (refine fun (hc : _ = _)=>?_;first|cases hc|((try rw [hc]);(try simp only [stH] at hc);(try (exfalso;omega)));(try ((first|show Awl _ _ _ _ _|show Awc _ _ _ _ _ _);simp only [stU])))
 | ((first|refine fun (K : V → List _ → _) hK=>?_|refine fun (_ : V → V)=>?_);simp (disch:=omega) only [go_sem,Int.reduceEq,↓reduceIte,reduceCtorEq,Nat.reduceEqDiff,Nat.reduceLT,Nat.reduceLeDiff,Nat.reduceAdd,Nat.reduceSub,Nat.reduceMul,Int.reduceToNat,Int.reduceLE,Int.reduceLT,NG2,Sp_node_Leaf,Sp_overdubref20_Leaf,Sp_overdubkeep_Same_api_Extent,Sp_node_Kind,Sp_overdubref20_Kind,Sp_node_Node,Sp_overdubref20_Node,Sp_node_Dir,Sp_overdubref20_Dir,Sp_node_Root,Sp_overdubref20_Root,Sp_overdubkeep_Same_int,stG,hbt,e1,e2,mB_inj,Sg3,St.updIf,ifc_nil,gt_ifc,go_ifc,ite_self,Option.none_or,Option.some_or];(try (revert hK;intro hK;(repeat' first|(refine And.intro ?_ ?_)|(intro hc;first|cases hc|((try rw [hc]);(try simp only [stH] at hc);(try (exfalso;omega)))));all_goals first|(refine hK _ _ ?_;clear hK K;simp only [stU])|exact hK|omega)))
      refine AW.loop_wk (fun _ : Unit=>⟨[(0,.d (.list (b.map mB))),(2,.d (.v (.bool false))),(101,.d (.v (.int .i64 0))),(102,.d (.v (.int .i64 0)))],[],147⟩) (fun _=>True) (fun _=>0) () trivial (fun w0 oa a w hs=>Wk.sr (ρ:=nm []) (Wk.of ?_) hs) ?_
      · simp (disch:=omega) only [go_sem,Int.reduceEq,↓reduceIte,reduceCtorEq,Nat.reduceEqDiff,Nat.reduceLT,Nat.reduceLeDiff,Nat.reduceAdd,Nat.reduceSub,Nat.reduceMul,Int.reduceToNat,Int.reduceLE,Int.reduceLT,NG2,Sp_node_Leaf,Sp_overdubref20_Leaf,Sp_overdubkeep_Same_api_Extent,Sp_node_Kind,Sp_overdubref20_Kind,Sp_node_Node,Sp_overdubref20_Node,Sp_node_Dir,Sp_overdubref20_Dir,Sp_node_Root,Sp_overdubref20_Root,Sp_overdubkeep_Same_int]
      · rintro _ _
        repeat' first
 | refine AW.seq ?_
 | refine AW.block ?_
 | refine AW.regl NG2_ok [0,2,3,4,5,6,7,8,9,10,11,12,13,14,15,16,17,18,44,64,66,67,68,78,99,101,102,103,113] ?_
 | (refine AW.regq (id:=12) NG2_ok follows bb_overdublaw20_read_12 (by kernel_rfl) [0,2,3,4,5,6,7,8,9,10,11,12,13,14,15,16,17,18,44,64,66,67,68,78,99,101,102,103,113] ?_)
 | (refine AW.regq (id:=22) NG2_ok follows bb_overdublaw20_read_22 (by kernel_rfl) [0,2,3,4,5,6,7,8,9,10,11,12,13,14,15,16,17,18,44,64,66,67,68,78,99,101,102,103,113] ?_)
 | refine then_n ?_
 | refine then_r ?_
 | refine then_x ?_
 | refine block_x ?_
 | refine block_o (by decide) ?_
 | refine block_n ?_
 | refine block_r ?_
 | refine AW.skip ?_
 | refine AW.ret ?_
 | refine AW.exit ?_
 | refine AW.cond rfl ?_ ?_
 | refine awl_none rfl ?_
 | refine awl_nil2 ?_
 | refine awl_some rfl rfl (Nat.le_of_ble_eq_true rfl) rfl rfl ?_ ?_
 | refine awc_none rfl ?_
 | refine awc_nilq (by kernel_rfl) (by kernel_rfl) ?_
 | (refine fun (hc : _ = _)=>?_;first|cases hc|((try rw [hc]);(try simp only [stH] at hc);(try (exfalso;omega)));(try ((first|show Awl _ _ _ _ _|show Awc _ _ _ _ _ _);simp only [stU])))
 | ((first|refine fun (K : V → List _ → _) hK=>?_|refine fun (_ : V → V)=>?_);simp (disch:=omega) only [go_sem,Int.reduceEq,↓reduceIte,reduceCtorEq,Nat.reduceEqDiff,Nat.reduceLT,Nat.reduceLeDiff,Nat.reduceAdd,Nat.reduceSub,Nat.reduceMul,Int.reduceToNat,Int.reduceLE,Int.reduceLT,NG2,Sp_node_Leaf,Sp_overdubref20_Leaf,Sp_overdubkeep_Same_api_Extent,Sp_node_Kind,Sp_overdubref20_Kind,Sp_node_Node,Sp_overdubref20_Node,Sp_node_Dir,Sp_overdubref20_Dir,Sp_node_Root,Sp_overdubref20_Root,Sp_overdubkeep_Same_int,Sg3,St.updIf,ifc_nil,gt_ifc,go_ifc,ite_self,Option.none_or,Option.some_or];(try (revert hK;intro hK;(repeat' first|(refine And.intro ?_ ?_)|(intro hc;first|cases hc|((try rw [hc]);(try simp only [stH] at hc);(try (exfalso;omega)))));all_goals first|(refine hK _ _ ?_;clear hK K;simp only [stU])|exact hK|omega)))
        refine ⟨nm [],Wk.of ?_⟩
        simp (disch:=omega) only [go_sem,Int.reduceEq,↓reduceIte,reduceCtorEq,Nat.reduceEqDiff,Nat.reduceLT,Nat.reduceLeDiff,Nat.reduceAdd,Nat.reduceSub,Nat.reduceMul,Int.reduceToNat,Int.reduceLE,Int.reduceLT,NG2,Sp_node_Leaf,Sp_overdubref20_Leaf,Sp_overdubkeep_Same_api_Extent,Sp_node_Kind,Sp_overdubref20_Kind,Sp_node_Node,Sp_overdubref20_Node,Sp_node_Dir,Sp_overdubref20_Dir,Sp_node_Root,Sp_overdubref20_Root,Sp_overdubkeep_Same_int,stG]
  by_cases h1 : rootOk b
  · have e1 : rootOut b = _:=if_pos h1
    have hU:=h1.2.2.1.2.1.2
    have hR:=h1.2.2.1.2.2.2
    have tU : ((rU b).map mI).take (rU b).length = (rU b).map mI:=List.take_of_length_le (by simp)
    have tR : ((rR b).map mI).take (rR b).length = (rR b).map mI:=List.take_of_length_le (by simp)
    have dU : decide (rU b = rU b) = true:=decide_eq_true rfl
    have dR : decide (rR b = rR b) = true:=decide_eq_true rfl
    have dN : decide (rN b = rN b) = true:=decide_eq_true rfl
    clear h1
    generalize rU b = U at *
    generalize rR b = R at *
    generalize rN b = w at *
    repeat' first
 | refine AW.seq ?_
 | refine AW.block ?_
 | refine AW.regl NG2_ok [0,2,3,4,5,6,7,8,9,10,11,12,13,14,15,16,17,18,44,64,66,67,68,78,99,101,102,103,113] ?_
 | (refine AW.regq (id:=12) NG2_ok follows bb_overdublaw20_read_12 (by kernel_rfl) [0,2,3,4,5,6,7,8,9,10,11,12,13,14,15,16,17,18,44,64,66,67,68,78,99,101,102,103,113] ?_)
 | (refine AW.regq (id:=22) NG2_ok follows bb_overdublaw20_read_22 (by kernel_rfl) [0,2,3,4,5,6,7,8,9,10,11,12,13,14,15,16,17,18,44,64,66,67,68,78,99,101,102,103,113] ?_)
 | refine then_n ?_
 | refine then_r ?_
 | refine then_x ?_
 | refine block_x ?_
 | refine block_o (by decide) ?_
 | refine block_n ?_
 | refine block_r ?_
 | refine AW.skip ?_
 | refine AW.ret ?_
 | refine AW.exit ?_
 | refine AW.cond rfl ?_ ?_
 | refine awl_none rfl ?_
 | refine awl_nil2 ?_
 | refine awl_some rfl rfl (Nat.le_of_ble_eq_true rfl) rfl rfl ?_ ?_
 | refine awc_none rfl ?_
 | refine awc_nilq (by kernel_rfl) (by kernel_rfl) ?_
 | (refine fun (hc : _ = _)=>?_;first|cases hc|((try rw [hc]);(try simp only [stH] at hc);(try (exfalso;omega)));(try ((first|show Awl _ _ _ _ _|show Awc _ _ _ _ _ _);simp only [stU])))
 | ((first|refine fun (K : V → List _ → _) hK=>?_|refine fun (_ : V → V)=>?_);simp (disch:=omega) only [go_sem,Int.reduceEq,↓reduceIte,reduceCtorEq,Nat.reduceEqDiff,Nat.reduceLT,Nat.reduceLeDiff,Nat.reduceAdd,Nat.reduceSub,Nat.reduceMul,Int.reduceToNat,Int.reduceLE,Int.reduceLT,NG2,Sp_node_Leaf,Sp_overdubref20_Leaf,Sp_overdubkeep_Same_api_Extent,Sp_node_Kind,Sp_overdubref20_Kind,Sp_node_Node,Sp_overdubref20_Node,Sp_node_Dir,Sp_overdubref20_Dir,Sp_node_Root,Sp_overdubref20_Root,Sp_overdubkeep_Same_int,stG,hbt,e1,tU,tR,dU,dR,dN,sc_I,mB_inj,mI_inj,Sg3,St.updIf,ifc_nil,gt_ifc,go_ifc,ite_self,Option.none_or,Option.some_or];(try (revert hK;intro hK;(repeat' first|(refine And.intro ?_ ?_)|(intro hc;first|cases hc|((try rw [hc]);(try simp only [stH] at hc);(try (exfalso;omega)))));all_goals first|(refine hK _ _ ?_;clear hK K;simp only [stU])|exact hK|omega)))
    (refine Ends.of (nm []) (by first|exact .inl rfl|exact .inr rfl) ?_;simp (disch:=omega) only [go_sem,Int.reduceEq,↓reduceIte,reduceCtorEq,Nat.reduceEqDiff,Nat.reduceLT,Nat.reduceLeDiff,Nat.reduceAdd,Nat.reduceSub,Nat.reduceMul,Int.reduceToNat,Int.reduceLE,Int.reduceLT,NG2,Sp_node_Leaf,Sp_overdubref20_Leaf,Sp_overdubkeep_Same_api_Extent,Sp_node_Kind,Sp_overdubref20_Kind,Sp_node_Node,Sp_overdubref20_Node,Sp_node_Dir,Sp_overdubref20_Dir,Sp_node_Root,Sp_overdubref20_Root,Sp_overdubkeep_Same_int])
  · have e1 : rootOut b = rootNo:=if_neg h1
    have d0 : decide (([] : List Int) = []) = true:=decide_eq_true rfl
    clear h1
    repeat' first
 | refine AW.seq ?_
 | refine AW.block ?_
 | refine AW.regl NG2_ok [0,2,3,4,5,6,7,8,9,10,11,12,13,14,15,16,17,18,44,64,66,67,68,78,99,101,102,103,113] ?_
 | (refine AW.regq (id:=12) NG2_ok follows bb_overdublaw20_read_12 (by kernel_rfl) [0,2,3,4,5,6,7,8,9,10,11,12,13,14,15,16,17,18,44,64,66,67,68,78,99,101,102,103,113] ?_)
 | (refine AW.regq (id:=22) NG2_ok follows bb_overdublaw20_read_22 (by kernel_rfl) [0,2,3,4,5,6,7,8,9,10,11,12,13,14,15,16,17,18,44,64,66,67,68,78,99,101,102,103,113] ?_)
 | refine then_n ?_
 | refine then_r ?_
 | refine then_x ?_
 | refine block_x ?_
 | refine block_o (by decide) ?_
 | refine block_n ?_
 | refine block_r ?_
 | refine AW.skip ?_
 | refine AW.ret ?_
 | refine AW.exit ?_
 | refine AW.cond rfl ?_ ?_
 | refine awl_none rfl ?_
 | refine awl_nil2 ?_
 | refine awl_some rfl rfl (Nat.le_of_ble_eq_true rfl) rfl rfl ?_ ?_
 | refine awc_none rfl ?_
 | refine awc_nilq (by kernel_rfl) (by kernel_rfl) ?_
 | (refine fun (hc : _ = _)=>?_;first|cases hc|((try rw [hc]);(try simp only [stH] at hc);(try (exfalso;omega)));(try ((first|show Awl _ _ _ _ _|show Awc _ _ _ _ _ _);simp only [stU])))
 | ((first|refine fun (K : V → List _ → _) hK=>?_|refine fun (_ : V → V)=>?_);simp (disch:=omega) only [go_sem,Int.reduceEq,↓reduceIte,reduceCtorEq,Nat.reduceEqDiff,Nat.reduceLT,Nat.reduceLeDiff,Nat.reduceAdd,Nat.reduceSub,Nat.reduceMul,Int.reduceToNat,Int.reduceLE,Int.reduceLT,NG2,Sp_node_Leaf,Sp_overdubref20_Leaf,Sp_overdubkeep_Same_api_Extent,Sp_node_Kind,Sp_overdubref20_Kind,Sp_node_Node,Sp_overdubref20_Node,Sp_node_Dir,Sp_overdubref20_Dir,Sp_node_Root,Sp_overdubref20_Root,Sp_overdubkeep_Same_int,stG,hbt,e1,rootNo,d0,nil_IG,mB_inj,mI_inj,Sg3,St.updIf,ifc_nil,gt_ifc,go_ifc,ite_self,Option.none_or,Option.some_or];(try (revert hK;intro hK;(repeat' first|(refine And.intro ?_ ?_)|(intro hc;first|cases hc|((try rw [hc]);(try simp only [stH] at hc);(try (exfalso;omega)))));all_goals first|(refine hK _ _ ?_;clear hK K;simp only [stU])|exact hK|omega)))
    (refine Ends.of (nm []) (by first|exact .inl rfl|exact .inr rfl) ?_;simp (disch:=omega) only [go_sem,Int.reduceEq,↓reduceIte,reduceCtorEq,Nat.reduceEqDiff,Nat.reduceLT,Nat.reduceLeDiff,Nat.reduceAdd,Nat.reduceSub,Nat.reduceMul,Int.reduceToNat,Int.reduceLE,Int.reduceLT,NG2,Sp_node_Leaf,Sp_overdubref20_Leaf,Sp_overdubkeep_Same_api_Extent,Sp_node_Kind,Sp_overdubref20_Kind,Sp_node_Node,Sp_overdubref20_Node,Sp_node_Dir,Sp_overdubref20_Dir,Sp_node_Root,Sp_overdubref20_Root,Sp_overdubkeep_Same_int])
theorem ent_overdublaw20_read : Ent Try.prog 27:=⟨_,Try.func27,rfl,by decide⟩
def rsG (b : List Int) : List Int:=b.take 124 ++ sumL (b.take 124)
theorem rsG_len {b : List Int} (h : 124 ≤ b.length) : (rsG b).length = 128:=by
  unfold rsG;rw [List.length_append,List.length_take,sumL_len];omega
theorem rsG_byt {b : List Int} (h : Byt b) : Byt (rsG b):=byt_append (byt_take h _) (sumL_byt _)
theorem sumd_rsG (b : List Int) : sumdL (b.take 124) 0 = rsG b:=by
  have e : toL (b.take 124) 0 = b.take 124:=by unfold toL;simp
  unfold sumdL rsG;rw [e]
def spoX (b : List Int) (i : Nat) (c : Int) : List Int:=b.set i (Go.bits .xor .u8 (b.getD i 0) c)
def spoN (b : List Int) (at' c : Int) (sm : Bool) : List Int:=if sm = true then rsG (spoX b (within at' 128).toNat c) else spoX b (within at' 128).toNat c
theorem spoX_byt {b : List Int} (h : Byt b) (i : Nat) (c : Int) : Byt (spoX b i c):=fun z hz=>by
  rcases List.mem_or_eq_of_mem_set hz with h2|rfl
  · exact h z h2
  · exact QC.xor8_rng _ _
theorem spoX_len (b : List Int) (i : Nat) (c : Int) : (spoX b i c).length = b.length:=by unfold spoX;rw [List.length_set]
theorem spoN_byt {b : List Int} (h : Byt b) (at' c : Int) (sm : Bool) : Byt (spoN b at' c sm):=by
  unfold spoN;split
  · exact rsG_byt (spoX_byt h _ _)
  · exact spoX_byt h _ _
theorem spoN_len {b : List Int} (h : b.length = 128) (at' c : Int) (sm : Bool) : (spoN b at' c sm).length = 128:=by
  unfold spoN;split
  · exact rsG_len (by rw [spoX_len];omega)
  · rw [spoX_len,h]
noncomputable def NG3 : Env:=⟨Try.prog,fun f ds out=>(f = 46 ∧ Sp_overdubkeep_Copy_byte ds out) ∨ (f = 20 ∧ Sp_overdubkeep_Within ds out) ∨ (f = 35 ∧ Sp_overdubref01_Summed ds out),Es,fun _=>false⟩
theorem NG3_sp : ∀ f ds out,NG3.Sp f ds out → Ent NG3.P f ∧ Good NG3.P f (fun a b=>a = ds ∧ b = out):=by
  rintro f ds out (⟨rfl,h⟩|⟨rfl,h⟩|⟨rfl,h⟩)
  · exact ⟨ent_overdubkeep_Copy_byte,good_overdubkeep_Copy_byte.one h⟩
  · exact ⟨ent_overdubkeep_Within,good_overdubkeep_Within.one h⟩
  · exact ⟨ent_overdubref01_Summed,good_overdubref01_Summed.one h⟩
theorem NG3_ok : NG3.Ok:=⟨NG3_sp,Es_ok⟩
def Sp_overdublaw20_spoilt (ds : List D) (out : Out) : Prop:=∃ (b : List Int) (at' c : Int) (sm : Bool),ds = [.list (b.map mB),.v (.int .i64 at'),.v (.int .u8 c),.v (.bool sm)] ∧ Byt b ∧ b.length = 128 ∧ out = ⟨.sl 0 1 0 128 true,[(0,.row 5 1 ((spoN b at' c sm).map mB))]⟩
theorem good_overdublaw20_spoilt : Good Try.prog 28 Sp_overdublaw20_spoilt:=by
  refine good_body (E:=NG3) (nt:=31) (rs:=#[.tmp 8]) Try.func28 rfl rfl rfl ?_
  rintro ds out ⟨b,at',c,sm,rfl,hb,hl,rfl⟩
  refine ⟨by simp,?_⟩
  have wa:=within_rngh (v:=at') (n:=128) (by omega)
  obtain ⟨i,hi⟩ : ∃ i : Nat,within at' 128 = i:=⟨(within at' 128).toNat,by omega⟩
  have hi8 : i < 128:=by omega
  have e6 : nth (b.map mB) i = .v (.int .u8 (b.getD i 0)):=nth_B b i (by omega)
  have hst : (b.map mB).set i (.v (.int .u8 (Go.bits .xor .u8 (b.getD i 0) c))) = (spoX b i c).map mB:=by unfold spoX;rw [List.map_set];rfl
  have hst' : b.set i (Go.bits .xor .u8 (b.getD i 0) c) = spoX b i c:=rfl
  have hXl : (spoX b i c).length = 128:=by rw [spoX_len,hl]
  have hXm : ((spoX b i c).map mB).take 124 = ((spoX b i c).take 124).map mB:=List.map_take.symm
  have hXk : ((spoX b i c).take 124).length = 124:=by rw [List.length_take];omega
  have hXy : Byt ((spoX b i c).take 124) = True:=eq_true (byt_take (spoX_byt hb _ _) _)
  have hsu:=sumd_rsG (spoX b i c)
  have hrl:=rsG_len (b:=spoX b i c) (by omega)
  have hbm : (b.map mB).take 128 = b.map mB:=List.take_of_length_le (by rw [List.length_map,hl];omega)
  have hz : spoN b at' c sm = if sm = true then rsG (spoX b i c) else spoX b i c:=by unfold spoN;rw [hi,Int.toNat_natCast]
  clear wa
  obtain ⟨y,hy⟩ : ∃ y,Go.bits .xor .u8 (b.getD i 0) c = y:=⟨_,rfl⟩
  rw [hy] at hst hst'
  generalize spoX b i c = X at *
  cases sm
  · simp only [Bool.false_eq_true,if_false] at hz
    repeat' first
 | refine AW.seq ?_
 | refine AW.block ?_
 | refine AW.regl NG3_ok [0,1,2,3,8,9,12,26] ?_
 | refine then_n ?_
 | refine then_r ?_
 | refine then_x ?_
 | refine block_x ?_
 | refine block_o (by decide) ?_
 | refine block_n ?_
 | refine block_r ?_
 | refine AW.skip ?_
 | refine AW.ret ?_
 | refine AW.exit ?_
 | refine AW.cond rfl ?_ ?_
 | refine awl_none rfl ?_
 | refine awl_nil2 ?_
 | (refine fun (hc : _ = _)=>?_;first|cases hc|((try rw [hc]);(try simp only [stH] at hc);(try (exfalso;omega)));(try (show Awl _ _ _ _ _;simp only [stU])))
 | ((first|refine fun (K : V → List _ → _) hK=>?_|refine fun (_ : V → V)=>?_);simp (disch:=omega) only [go_sem,Int.reduceEq,↓reduceIte,reduceCtorEq,Nat.reduceEqDiff,Nat.reduceLT,Nat.reduceLeDiff,Nat.reduceAdd,Nat.reduceSub,Nat.reduceMul,Int.reduceToNat,Int.reduceLE,Int.reduceLT,NG3,Sp_overdubkeep_Copy_byte,Sp_overdubkeep_Within,Sp_overdubref01_Summed,hl,hi,e6,hy,hst,hst',hbm,mB_inj];(try (revert hK;intro hK;(repeat' first|(refine And.intro ?_ ?_)|(intro hc;first|cases hc|((try rw [hc]);(try simp only [stH] at hc);(try (exfalso;omega)))));all_goals first|(refine hK _ _ ?_;clear hK K;simp only [stU])|exact hK|omega)))
    (refine Ends.of (nm [(0,15)]) (by first|exact .inl rfl|exact .inr rfl) ?_;simp (disch:=omega) only [go_sem,Int.reduceEq,↓reduceIte,reduceCtorEq,Nat.reduceEqDiff,Nat.reduceLT,Nat.reduceLeDiff,Nat.reduceAdd,Nat.reduceSub,Nat.reduceMul,Int.reduceToNat,Int.reduceLE,Int.reduceLT,NG3,Sp_overdubkeep_Copy_byte,Sp_overdubkeep_Within,Sp_overdubref01_Summed,hz])
  · simp only [if_true] at hz
    repeat' first
 | refine AW.seq ?_
 | refine AW.block ?_
 | refine AW.regl NG3_ok [0,1,2,3,8,9,12,26] ?_
 | refine then_n ?_
 | refine then_r ?_
 | refine then_x ?_
 | refine block_x ?_
 | refine block_o (by decide) ?_
 | refine block_n ?_
 | refine block_r ?_
 | refine AW.skip ?_
 | refine AW.ret ?_
 | refine AW.exit ?_
 | refine AW.cond rfl ?_ ?_
 | refine awl_none rfl ?_
 | refine awl_nil2 ?_
 | (refine fun (hc : _ = _)=>?_;first|cases hc|((try rw [hc]);(try simp only [stH] at hc);(try (exfalso;omega)));(try (show Awl _ _ _ _ _;simp only [stU])))
 | ((first|refine fun (K : V → List _ → _) hK=>?_|refine fun (_ : V → V)=>?_);simp (disch:=omega) only [go_sem,Int.reduceEq,↓reduceIte,reduceCtorEq,Nat.reduceEqDiff,Nat.reduceLT,Nat.reduceLeDiff,Nat.reduceAdd,Nat.reduceSub,Nat.reduceMul,Int.reduceToNat,Int.reduceLE,Int.reduceLT,NG3,Sp_overdubkeep_Copy_byte,Sp_overdubkeep_Within,Sp_overdubref01_Summed,hl,hi,e6,hy,hst,hst',hbm,hXl,hXm,hXk,hXy,hsu,hrl,mB_inj];(try (revert hK;intro hK;(repeat' first|(refine And.intro ?_ ?_)|(intro hc;first|cases hc|((try rw [hc]);(try simp only [stH] at hc);(try (exfalso;omega)))));all_goals first|(refine hK _ _ ?_;clear hK K;simp only [stU])|exact hK|omega)))
    (refine Ends.of (nm [(0,29)]) (by first|exact .inl rfl|exact .inr rfl) ?_;simp (disch:=omega) only [go_sem,Int.reduceEq,↓reduceIte,reduceCtorEq,Nat.reduceEqDiff,Nat.reduceLT,Nat.reduceLeDiff,Nat.reduceAdd,Nat.reduceSub,Nat.reduceMul,Int.reduceToNat,Int.reduceLE,Int.reduceLT,NG3,Sp_overdubkeep_Copy_byte,Sp_overdubkeep_Within,Sp_overdubref01_Summed,hz])
theorem ent_overdublaw20_spoilt : Ent Try.prog 28:=⟨_,Try.func28,rfl,by decide⟩
end Go.Proofs.Ytigkcigoiinkpaa.Am
