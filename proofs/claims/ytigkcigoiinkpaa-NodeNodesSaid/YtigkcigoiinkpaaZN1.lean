import Derived.Test.YtigkcigoiinkpaaZSA
import Derived.Test.YtigkcigoiinkpaaZRA
import Derived.Test.YtigkcigoiinkpaaZZA
set_option linter.unusedVariables false
set_option linter.unusedSimpArgs false
set_option maxRecDepth 10000
set_option maxHeartbeats 0
namespace Go.Proofs.Ytigkcigoiinkpaa.Am
open Go Go.RowKit Go.Proofs
def secN (i : Int) : Prop:=1 ≤ i ∧ i < 4096
instance (i : Int) : Decidable (secN i):=inferInstanceAs (Decidable (_ ∧ _))
def Sp_node_sector (ds : List D) (out : Out) : Prop:=∃ i : Int,ds = [.v (.int .i64 i)] ∧ out = ⟨.d (.v (.bool (decide (secN i)))),[]⟩
theorem good_node_sector : Good Try.prog 47 Sp_node_sector:=by
  refine good_body (E:=E0) (nt:=9) (rs:=#[.tmp 2]) Try.func47 rfl rfl rfl ?_
  rintro ds out ⟨i,rfl,rfl⟩
  refine ⟨by simp,?_⟩
  by_cases h1 : 1 ≤ i
  · have d1 : decide (1 ≤ i) = true:=decide_eq_true h1
    have hz : decide (secN i) = decide (i < 4096):=by unfold secN;simp [h1]
    repeat' first
 | refine AW.seq ?_
 | refine AW.block ?_
 | refine AW.regl E0_ok [0,2] ?_
 | refine then_n ?_
 | refine then_r ?_
 | refine then_x ?_
 | refine block_x ?_
 | refine block_o (by decide) ?_
 | refine block_n ?_
 | refine block_r ?_
 | refine AW.skip ?_
 | refine AW.ret ?_
 | refine AW.exit ?_
 | refine AW.cond rfl ?_ ?_
 | refine awl_none rfl ?_
 | refine awl_nil2 ?_
 | refine awl_some rfl rfl (Nat.le_of_ble_eq_true rfl) rfl rfl ?_ ?_
 | (refine fun (hc : _ = _)=>?_;first|cases hc|((try rw [hc]);(try simp only [stH] at hc);(try (exfalso;omega)));(try (show Awl _ _ _ _ _;simp only [stU])))
 | ((first|refine fun (K : V → List _ → _) hK=>?_|refine fun (_ : V → V)=>?_);simp (disch:=omega) only [go_sem,Int.reduceEq,↓reduceIte,reduceCtorEq,Nat.reduceEqDiff,Nat.reduceLT,Nat.reduceLeDiff,Nat.reduceAdd,Nat.reduceSub,Nat.reduceMul,Int.reduceToNat,Int.reduceLE,Int.reduceLT,E0,d1];(try (revert hK;intro hK;(repeat' first|(refine And.intro ?_ ?_)|(intro hc;first|cases hc|((try rw [hc]);(try simp only [stH] at hc);(try (exfalso;omega)))));all_goals first|(refine hK _ _ ?_;clear hK K;simp only [stU])|exact hK|omega)))
    (refine Ends.of (nm []) (by first|exact .inl rfl|exact .inr rfl) ?_;simp (disch:=omega) only [go_sem,Int.reduceEq,↓reduceIte,reduceCtorEq,Nat.reduceEqDiff,Nat.reduceLT,Nat.reduceLeDiff,Nat.reduceAdd,Nat.reduceSub,Nat.reduceMul,Int.reduceToNat,Int.reduceLE,Int.reduceLT,E0,hz])
  · have d1 : decide (1 ≤ i) = false:=decide_eq_false h1
    have hz : decide (secN i) = false:=decide_eq_false fun h=>h1 h.1
    repeat' first
 | refine AW.seq ?_
 | refine AW.block ?_
 | refine AW.regl E0_ok [0,2] ?_
 | refine then_n ?_
 | refine then_r ?_
 | refine then_x ?_
 | refine block_x ?_
 | refine block_o (by decide) ?_
 | refine block_n ?_
 | refine block_r ?_
 | refine AW.skip ?_
 | refine AW.ret ?_
 | refine AW.exit ?_
 | refine AW.cond rfl ?_ ?_
 | refine awl_none rfl ?_
 | refine awl_nil2 ?_
 | refine awl_some rfl rfl (Nat.le_of_ble_eq_true rfl) rfl rfl ?_ ?_
 | (refine fun (hc : _ = _)=>?_;first|cases hc|((try rw [hc]);(try simp only [stH] at hc);(try (exfalso;omega)));(try (show Awl _ _ _ _ _;simp only [stU])))
 | ((first|refine fun (K : V → List _ → _) hK=>?_|refine fun (_ : V → V)=>?_);simp (disch:=omega) only [go_sem,Int.reduceEq,↓reduceIte,reduceCtorEq,Nat.reduceEqDiff,Nat.reduceLT,Nat.reduceLeDiff,Nat.reduceAdd,Nat.reduceSub,Nat.reduceMul,Int.reduceToNat,Int.reduceLE,Int.reduceLT,E0,d1];(try (revert hK;intro hK;(repeat' first|(refine And.intro ?_ ?_)|(intro hc;first|cases hc|((try rw [hc]);(try simp only [stH] at hc);(try (exfalso;omega)))));all_goals first|(refine hK _ _ ?_;clear hK K;simp only [stU])|exact hK|omega)))
    (refine Ends.of (nm []) (by first|exact .inl rfl|exact .inr rfl) ?_;simp (disch:=omega) only [go_sem,Int.reduceEq,↓reduceIte,reduceCtorEq,Nat.reduceEqDiff,Nat.reduceLT,Nat.reduceLeDiff,Nat.reduceAdd,Nat.reduceSub,Nat.reduceMul,Int.reduceToNat,Int.reduceLE,Int.reduceLT,E0,hz])
theorem ent_node_sector : Ent Try.prog 47:=⟨_,Try.func47,rfl,by decide⟩
def nodL (k n : Int) (it : List Int) : List Int:=160 :: k :: n :: it
def nodP (k n : Int) (it : List Int) : List Int:=sealL (nodL k n it)
theorem nodL_len (k n : Int) (it : List Int) : (nodL k n it).length = 3 + it.length:=by simp [nodL];omega
theorem nodL_byt {k n : Int} {it : List Int} (hk : 0 ≤ k ∧ k < 256) (hn : 0 ≤ n ∧ n < 256) (h : Byt it) : Byt (nodL k n it):=byt_cons (by omega) (byt_cons hk (byt_cons hn h))
theorem nodP_len (k n : Int) (it : List Int) : (nodP k n it).length = 128:=sealL_len _
theorem nodP_byt {k n : Int} {it : List Int} (hk : 0 ≤ k ∧ k < 256) (hn : 0 ≤ n ∧ n < 256) (h : Byt it) : Byt (nodP k n it):=sealL_byt (nodL_byt hk hn h)
theorem YN (a b c : Int) (it : List Int) (l : List (List Int)) : ([D.list [D.v (.int .u8 a),D.v (.int .u8 b),D.v (.int .u8 c)],D.list (it.map mB)] = l.map bys) = (l = [[a,b,c],it]):=by
  rw [show [D.list [D.v (.int .u8 a),D.v (.int .u8 b),D.v (.int .u8 c)],D.list (it.map mB)] = [[a,b,c],it].map bys from rfl,Y_inj]
  exact propext eq_comm
noncomputable def N1 : Env:=⟨Try.prog,fun f ds out=>(f = 48 ∧ Sp_field_Join ds out) ∨ (f = 72 ∧ Sp_sealed_Seal ds out),Es,fun _=>false⟩
theorem N1_sp : ∀ f ds out,N1.Sp f ds out → Ent N1.P f ∧ Good N1.P f (fun a b=>a = ds ∧ b = out):=by
  rintro f ds out (⟨rfl,h⟩|⟨rfl,h⟩)
  · exact ⟨ent_field_Join,good_field_Join.one h⟩
  · exact ⟨ent_sealed_Seal,good_sealed_Seal.one h⟩
theorem N1_ok : N1.Ok:=⟨N1_sp,Es_ok⟩
def Sp_node_seal (ds : List D) (out : Out) : Prop:=∃ (k n : Int) (it : List Int),ds = [.v (.int .i64 k),.v (.int .i64 n),.list (it.map mB)] ∧ (0 ≤ k ∧ k < 256) ∧ (0 ≤ n ∧ n < 256) ∧ it.length ≤ 1000000 ∧ out = ⟨.sl 0 1 0 128 true,[(0,.row 5 1 ((nodP k n it).map mB))]⟩
theorem good_node_seal : Good Try.prog 50 Sp_node_seal:=by
  refine good_body (E:=N1) (nt:=16) (rs:=#[.tmp 6]) Try.func50 rfl rfl rfl ?_
  rintro ds out ⟨k,n,it,rfl,hk,hn,hl,rfl⟩
  refine ⟨by simp,?_⟩
  have hnl:=nodL_len k n it
  have hit : (it.map mB).take it.length = it.map mB:=List.take_of_length_le (by simp)
  have hkm : k % 256 = k:=by omega
  have hnm : n % 256 = n:=by omega
  have hfold : 160 :: k :: n :: it = nodL k n it:=rfl
  have hnt : ((nodL k n it).map mB).take (3 + it.length) = (nodL k n it).map mB:=List.take_of_length_le (by simp [hnl])
  have hnt' : ((nodL k n it).map mB).take (nodL k n it).length = (nodL k n it).map mB:=List.take_of_length_le (by simp)
  repeat' first
 | refine AW.seq ?_
 | refine AW.block ?_
 | refine AW.regl N1_ok [0,1,2,6] ?_
 | refine then_n ?_
 | refine then_r ?_
 | refine then_x ?_
 | refine block_x ?_
 | refine block_o (by decide) ?_
 | refine block_n ?_
 | refine block_r ?_
 | refine AW.skip ?_
 | refine AW.ret ?_
 | refine AW.exit ?_
 | refine AW.cond rfl ?_ ?_
 | refine awl_none rfl ?_
 | refine awl_nil2 ?_
 | (refine fun (hc : _ = _)=>?_;first|cases hc|((try rw [hc]);(try simp only [stH] at hc);(try (exfalso;omega)));(try (show Awl _ _ _ _ _;simp only [stU])))
 | ((first|refine fun (K : V → List _ → _) hK=>?_|refine fun (_ : V → V)=>?_);simp (disch:=omega) only [go_sem,Int.reduceEq,↓reduceIte,reduceCtorEq,Nat.reduceEqDiff,Nat.reduceLT,Nat.reduceLeDiff,Nat.reduceAdd,Nat.reduceSub,Nat.reduceMul,Int.reduceToNat,Int.reduceLE,Int.reduceLT,N1,Sp_field_Join,Sp_sealed_Seal,hkm,hnm,wrap_u8,YN,hit,hfold,hnl,hnt,hnt',List.flatten_cons,List.flatten_nil,mB_inj];(try (revert hK;intro hK;(repeat' first|(refine And.intro ?_ ?_)|(intro hc;first|cases hc|((try rw [hc]);(try simp only [stH] at hc);(try (exfalso;omega)))));all_goals first|(refine hK _ _ ?_;clear hK K;simp only [stU])|exact hK|omega)))
  (refine Ends.of (nm [(0,15)]) (by first|exact .inl rfl|exact .inr rfl) ?_;simp (disch:=omega) only [go_sem,Int.reduceEq,↓reduceIte,reduceCtorEq,Nat.reduceEqDiff,Nat.reduceLT,Nat.reduceLeDiff,Nat.reduceAdd,Nat.reduceSub,Nat.reduceMul,Int.reduceToNat,Int.reduceLE,Int.reduceLT,N1,Sp_field_Join,Sp_sealed_Seal,nodP])
theorem ent_node_seal : Ent Try.prog 50:=⟨_,Try.func50,rfl,by decide⟩
def oH (k : Int) (b : List Int) : Prop:=isOpen b ∧ b.getD 0 0 = 160 ∧ b.getD 1 0 = k
instance (k : Int) (b : List Int) : Decidable (oH k b):=by unfold oH;infer_instance
def nN (b : List Int) : Int:=b.getD 2 0
def nI (b : List Int) : List Int:=(b.take 124).drop 3
theorem nI_len {b : List Int} (h : b.length = 128) : (nI b).length = 121:=by unfold nI;rw [List.length_drop,List.length_take];omega
theorem nI_byt {b : List Int} (h : Byt b) : Byt (nI b):=byt_drop (byt_take h _) _
def opnOut (k : Int) (b : List Int) : Out:=if oH k b then ⟨.tup [.sl 0 1 3 121 false,.d (.v (.int .i64 (nN b))),.d (.v (.bool true))],[(0,.row 5 1 ((b.take 124).map mB))]⟩ else ⟨.tup [.nil,.d (.v (.int .i64 0)),.d (.v (.bool false))],[]⟩
noncomputable def N2 : Env:=⟨Try.prog,fun f ds out=>(f = 81 ∧ Sp_sealed_Open ds out),Es,fun _=>false⟩
theorem N2_sp : ∀ f ds out,N2.Sp f ds out → Ent N2.P f ∧ Good N2.P f (fun a b=>a = ds ∧ b = out):=by
  rintro f ds out ⟨rfl,h⟩
  exact ⟨ent_sealed_Open,good_sealed_Open.one h⟩
theorem N2_ok : N2.Ok:=⟨N2_sp,Es_ok⟩
theorem getD_take {l : List Int} {i n : Nat} (h : i < n) : (l.take n).getD i 0 = l.getD i 0:=by
  rw [List.getD_eq_getElem?_getD,List.getD_eq_getElem?_getD,List.getElem?_take,if_pos h]
def Sp_node_open (ds : List D) (out : Out) : Prop:=∃ (k : Int) (b : List Int),ds = [.v (.int .i64 k),.list (b.map mB)] ∧ Byt b ∧ b.length ≤ 9223372036854775807 ∧ out = opnOut k b
def bb_node_open_4 : List Nat:=[0,1,0,4,12,28,3,127,255]
def cc_node_open_4 : List (List (Option Bool)):=[[some false,some false,none,none,none,none,some false,some false,some false],[some true,some false,none,none,none,none,some false,some false,some false],[none,none,some false,some false,some false,some false,none,some false,some false],[none,none,some true,some false,some false,some false,none,some false,some false],[none,none,some true,some true,some false,some false,none,some false,some false],[none,none,some true,some true,some true,some false,none,some false,some false],[some true,some true,none,none,none,none,some false,some false,some false],[some true,some true,some true,some true,some true,some true,some true,some false,some false],[some true,some true,some true,some true,some true,some true,some true,some true,some false]]
theorem good_node_open : Good Try.prog 66 Sp_node_open:=by
  refine good_body (E:=N2) (nt:=36) (rs:=#[.tmp 4,.tmp 5,.tmp 6]) Try.func66 rfl rfl rfl ?_
  rintro ds out ⟨k,b,rfl,hb,hl,rfl⟩
  refine ⟨by simp,?_⟩
  have hbt : Byt b = True:=eq_true hb
  by_cases ho : isOpen b
  case neg =>
    have hop : openOut b = ⟨.tup [.nil,.d (.v (.bool false))],[]⟩:=by rw [openOut,if_neg ho]
    have hz : opnOut k b = ⟨.tup [.nil,.d (.v (.int .i64 0)),.d (.v (.bool false))],[]⟩:=if_neg fun h=>ho h.1
    repeat' first
 | refine AW.seq ?_
 | refine AW.block ?_
 | refine AW.regl N2_ok [0,1,4,5,6,7,8,29] ?_
 | (refine AW.regc (id:=4) N2_ok follows bb_node_open_4 (by kernel_rfl) [0,1,4,5,6,7,8,29] ?_)
 | refine then_n ?_
 | refine then_r ?_
 | refine then_x ?_
 | refine block_x ?_
 | refine block_o (by decide) ?_
 | refine block_n ?_
 | refine block_r ?_
 | refine AW.skip ?_
 | refine AW.ret ?_
 | refine AW.exit ?_
 | refine AW.cond rfl ?_ ?_
 | refine awl_none rfl ?_
 | refine awl_nil2 ?_
 | refine awl_some rfl rfl (Nat.le_of_ble_eq_true rfl) rfl rfl ?_ ?_
 | refine awc_none rfl ?_
 | exact each_nil
 | refine each_none rfl ?_ ?_
 | refine awc_leaf2 [some 30,some 31,some 32,some 33,some 34,some 35,some 4,some 5,some 6] cc_node_open_4 rfl (by kernel_rfl) (by kernel_rfl) ?_ ?_
 | (refine fun (hc : _ = _)=>?_;first|cases hc|((try rw [hc]);(try simp only [stH] at hc);(try (exfalso;omega)));(try ((first|show Awl _ _ _ _ _|show Awc _ _ _ _ _ _);simp only [stU])))
 | ((first|refine fun (K : V → List _ → _) hK=>?_|refine fun (_ : V → V)=>?_|refine fun (bb : Nat → Bool) K hK=>?_);simp (disch:=omega) only [go_sem,Int.reduceEq,↓reduceIte,reduceCtorEq,Nat.reduceEqDiff,Nat.reduceLT,Nat.reduceLeDiff,Nat.reduceAdd,Nat.reduceSub,Nat.reduceMul,Int.reduceToNat,Int.reduceLE,Int.reduceLT,N2,Sp_sealed_Open,hbt,hop,mB_inj,Sg3,St.updIf,ifc_nil,gt_ifc,go_ifc,ite_self,Option.none_or,Option.some_or];(try (revert hK;intro hK;(repeat' first|(refine And.intro ?_ ?_)|(intro hc;first|cases hc|((try rw [hc]);(try simp only [stH] at hc);(try (exfalso;omega)))));all_goals first|(refine hK _ _ ?_;clear hK K;simp only [stU])|exact hK|omega)))
    (refine Ends.of (nm []) (by first|exact .inl rfl|exact .inr rfl) ?_;simp (disch:=omega) only [go_sem,Int.reduceEq,↓reduceIte,reduceCtorEq,Nat.reduceEqDiff,Nat.reduceLT,Nat.reduceLeDiff,Nat.reduceAdd,Nat.reduceSub,Nat.reduceMul,Int.reduceToNat,Int.reduceLE,Int.reduceLT,N2,Sp_sealed_Open,hz])
  have hop : openOut b = ⟨.tup [.sl 0 1 0 124 true,.d (.v (.bool true))],[(0,.row 5 1 ((b.take 124).map mB))]⟩:=by rw [openOut,if_pos ho]
  have h8:=ho.1
  have hlt : (b.take 124).length = 124:=by rw [List.length_take];omega
  have g0 : nth ((b.take 124).map mB) 0 = .v (.int .u8 (b.getD 0 0)):=(nth_B _ 0 (by omega)).trans (by rw [getD_take (by omega)])
  have g1 : nth ((b.take 124).map mB) 1 = .v (.int .u8 (b.getD 1 0)):=(nth_B _ 1 (by omega)).trans (by rw [getD_take (by omega)])
  have g2 : nth ((b.take 124).map mB) 2 = .v (.int .u8 (b.getD 2 0)):=(nth_B _ 2 (by omega)).trans (by rw [getD_take (by omega)])
  have r0:=getD_byt hb 0
  have r1:=getD_byt hb 1
  have r2:=getD_byt hb 2
  have hnN : b.getD 2 0 = nN b:=rfl
  by_cases c0 : b.getD 0 0 = 160
  case neg =>
    have hz : opnOut k b = ⟨.tup [.nil,.d (.v (.int .i64 0)),.d (.v (.bool false))],[]⟩:=if_neg fun h=>c0 h.2.1
    have d0 : decide (b.getD 0 0 = 160) = false:=decide_eq_false c0
    clear ho
    generalize b.getD 0 0 = u0 at *
    generalize b.getD 1 0 = u1 at *
    repeat' first
 | refine AW.seq ?_
 | refine AW.block ?_
 | refine AW.regl N2_ok [0,1,4,5,6,7,8,29] ?_
 | (refine AW.regc (id:=4) N2_ok follows bb_node_open_4 (by kernel_rfl) [0,1,4,5,6,7,8,29] ?_)
 | refine then_n ?_
 | refine then_r ?_
 | refine then_x ?_
 | refine block_x ?_
 | refine block_o (by decide) ?_
 | refine block_n ?_
 | refine block_r ?_
 | refine AW.skip ?_
 | refine AW.ret ?_
 | refine AW.exit ?_
 | refine AW.cond rfl ?_ ?_
 | refine awl_none rfl ?_
 | refine awl_nil2 ?_
 | refine awl_some rfl rfl (Nat.le_of_ble_eq_true rfl) rfl rfl ?_ ?_
 | refine awc_none rfl ?_
 | exact each_nil
 | refine each_none rfl ?_ ?_
 | refine awc_leaf2 [some 30,some 31,some 32,some 33,some 34,some 35,some 4,some 5,some 6] cc_node_open_4 rfl (by kernel_rfl) (by kernel_rfl) ?_ ?_
 | (refine fun (hc : _ = _)=>?_;first|cases hc|((try rw [hc]);(try simp only [stH] at hc);(try (exfalso;omega)));(try ((first|show Awl _ _ _ _ _|show Awc _ _ _ _ _ _);simp only [stU])))
 | ((first|refine fun (K : V → List _ → _) hK=>?_|refine fun (_ : V → V)=>?_|refine fun (bb : Nat → Bool) K hK=>?_);simp (disch:=omega) only [go_sem,Int.reduceEq,↓reduceIte,reduceCtorEq,Nat.reduceEqDiff,Nat.reduceLT,Nat.reduceLeDiff,Nat.reduceAdd,Nat.reduceSub,Nat.reduceMul,Int.reduceToNat,Int.reduceLE,Int.reduceLT,N2,Sp_sealed_Open,hbt,hop,hlt,g0,g1,d0,mB_inj,Sg3,St.updIf,ifc_nil,gt_ifc,go_ifc,ite_self,Option.none_or,Option.some_or];(try (revert hK;intro hK;(repeat' first|(refine And.intro ?_ ?_)|(intro hc;first|cases hc|((try rw [hc]);(try simp only [stH] at hc);(try (exfalso;omega)))));all_goals first|(refine hK _ _ ?_;clear hK K;simp only [stU])|exact hK|omega)))
    (refine Ends.of (nm []) (by first|exact .inl rfl|exact .inr rfl) ?_;simp (disch:=omega) only [go_sem,Int.reduceEq,↓reduceIte,reduceCtorEq,Nat.reduceEqDiff,Nat.reduceLT,Nat.reduceLeDiff,Nat.reduceAdd,Nat.reduceSub,Nat.reduceMul,Int.reduceToNat,Int.reduceLE,Int.reduceLT,N2,Sp_sealed_Open,hz])
  by_cases c1 : b.getD 1 0 = k
  case neg =>
    have hz : opnOut k b = ⟨.tup [.nil,.d (.v (.int .i64 0)),.d (.v (.bool false))],[]⟩:=if_neg fun h=>c1 h.2.2
    have d0 : decide (b.getD 0 0 = 160) = true:=decide_eq_true c0
    have d1 : decide (b.getD 1 0 = k) = false:=decide_eq_false c1
    clear ho
    generalize b.getD 0 0 = u0 at *
    generalize b.getD 1 0 = u1 at *
    repeat' first
 | refine AW.seq ?_
 | refine AW.block ?_
 | refine AW.regl N2_ok [0,1,4,5,6,7,8,29] ?_
 | (refine AW.regc (id:=4) N2_ok follows bb_node_open_4 (by kernel_rfl) [0,1,4,5,6,7,8,29] ?_)
 | refine then_n ?_
 | refine then_r ?_
 | refine then_x ?_
 | refine block_x ?_
 | refine block_o (by decide) ?_
 | refine block_n ?_
 | refine block_r ?_
 | refine AW.skip ?_
 | refine AW.ret ?_
 | refine AW.exit ?_
 | refine AW.cond rfl ?_ ?_
 | refine awl_none rfl ?_
 | refine awl_nil2 ?_
 | refine awl_some rfl rfl (Nat.le_of_ble_eq_true rfl) rfl rfl ?_ ?_
 | refine awc_none rfl ?_
 | exact each_nil
 | refine each_none rfl ?_ ?_
 | refine awc_leaf2 [some 30,some 31,some 32,some 33,some 34,some 35,some 4,some 5,some 6] cc_node_open_4 rfl (by kernel_rfl) (by kernel_rfl) ?_ ?_
 | (refine fun (hc : _ = _)=>?_;first|cases hc|((try rw [hc]);(try simp only [stH] at hc);(try (exfalso;omega)));(try ((first|show Awl _ _ _ _ _|show Awc _ _ _ _ _ _);simp only [stU])))
 | ((first|refine fun (K : V → List _ → _) hK=>?_|refine fun (_ : V → V)=>?_|refine fun (bb : Nat → Bool) K hK=>?_);simp (disch:=omega) only [go_sem,Int.reduceEq,↓reduceIte,reduceCtorEq,Nat.reduceEqDiff,Nat.reduceLT,Nat.reduceLeDiff,Nat.reduceAdd,Nat.reduceSub,Nat.reduceMul,Int.reduceToNat,Int.reduceLE,Int.reduceLT,N2,Sp_sealed_Open,hbt,hop,hlt,g0,g1,d0,d1,mB_inj,Sg3,St.updIf,ifc_nil,gt_ifc,go_ifc,ite_self,Option.none_or,Option.some_or];(try (revert hK;intro hK;(repeat' first|(refine And.intro ?_ ?_)|(intro hc;first|cases hc|((try rw [hc]);(try simp only [stH] at hc);(try (exfalso;omega)))));all_goals first|(refine hK _ _ ?_;clear hK K;simp only [stU])|exact hK|omega)))
    (refine Ends.of (nm []) (by first|exact .inl rfl|exact .inr rfl) ?_;simp (disch:=omega) only [go_sem,Int.reduceEq,↓reduceIte,reduceCtorEq,Nat.reduceEqDiff,Nat.reduceLT,Nat.reduceLeDiff,Nat.reduceAdd,Nat.reduceSub,Nat.reduceMul,Int.reduceToNat,Int.reduceLE,Int.reduceLT,N2,Sp_sealed_Open,hz])
  have hz : opnOut k b = ⟨.tup [.sl 0 1 3 121 false,.d (.v (.int .i64 (nN b))),.d (.v (.bool true))],[(0,.row 5 1 ((b.take 124).map mB))]⟩:=if_pos ⟨ho,c0,c1⟩
  have d0 : decide (b.getD 0 0 = 160) = true:=decide_eq_true c0
  have d1 : decide (b.getD 1 0 = k) = true:=decide_eq_true c1
  clear ho
  rw [hnN] at g2 r2
  generalize b.getD 0 0 = u0 at *
  generalize b.getD 1 0 = u1 at *
  generalize nN b = u2 at *
  repeat' first
 | refine AW.seq ?_
 | refine AW.block ?_
 | refine AW.regl N2_ok [0,1,4,5,6,7,8,29] ?_
 | (refine AW.regc (id:=4) N2_ok follows bb_node_open_4 (by kernel_rfl) [0,1,4,5,6,7,8,29] ?_)
 | refine then_n ?_
 | refine then_r ?_
 | refine then_x ?_
 | refine block_x ?_
 | refine block_o (by decide) ?_
 | refine block_n ?_
 | refine block_r ?_
 | refine AW.skip ?_
 | refine AW.ret ?_
 | refine AW.exit ?_
 | refine AW.cond rfl ?_ ?_
 | refine awl_none rfl ?_
 | refine awl_nil2 ?_
 | refine awl_some rfl rfl (Nat.le_of_ble_eq_true rfl) rfl rfl ?_ ?_
 | refine awc_none rfl ?_
 | exact each_nil
 | refine each_none rfl ?_ ?_
 | refine awc_leaf2 [some 30,some 31,some 32,some 33,some 34,some 35,some 4,some 5,some 6] cc_node_open_4 rfl (by kernel_rfl) (by kernel_rfl) ?_ ?_
 | (refine fun (hc : _ = _)=>?_;first|cases hc|((try rw [hc]);(try simp only [stH] at hc);(try (exfalso;omega)));(try ((first|show Awl _ _ _ _ _|show Awc _ _ _ _ _ _);simp only [stU])))
 | ((first|refine fun (K : V → List _ → _) hK=>?_|refine fun (_ : V → V)=>?_|refine fun (bb : Nat → Bool) K hK=>?_);simp (disch:=omega) only [go_sem,Int.reduceEq,↓reduceIte,reduceCtorEq,Nat.reduceEqDiff,Nat.reduceLT,Nat.reduceLeDiff,Nat.reduceAdd,Nat.reduceSub,Nat.reduceMul,Int.reduceToNat,Int.reduceLE,Int.reduceLT,N2,Sp_sealed_Open,hbt,hop,hlt,g0,g1,g2,d0,d1,mB_inj,Sg3,St.updIf,ifc_nil,gt_ifc,go_ifc,ite_self,Option.none_or,Option.some_or];(try (revert hK;intro hK;(repeat' first|(refine And.intro ?_ ?_)|(intro hc;first|cases hc|((try rw [hc]);(try simp only [stH] at hc);(try (exfalso;omega)))));all_goals first|(refine hK _ _ ?_;clear hK K;simp only [stU])|exact hK|omega)))
  (refine Ends.of (nm [(0,11)]) (by first|exact .inl rfl|exact .inr rfl) ?_;simp (disch:=omega) only [go_sem,Int.reduceEq,↓reduceIte,reduceCtorEq,Nat.reduceEqDiff,Nat.reduceLT,Nat.reduceLeDiff,Nat.reduceAdd,Nat.reduceSub,Nat.reduceMul,Int.reduceToNat,Int.reduceLE,Int.reduceLT,N2,Sp_sealed_Open,hz])
theorem ent_node_open : Ent Try.prog 66:=⟨_,Try.func66,rfl,by decide⟩
end Go.Proofs.Ytigkcigoiinkpaa.Am
