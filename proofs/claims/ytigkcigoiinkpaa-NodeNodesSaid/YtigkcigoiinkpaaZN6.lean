import Derived.Test.YtigkcigoiinkpaaZN1
import Derived.Test.YtigkcigoiinkpaaZGA
set_option linter.unusedVariables false
set_option linter.unusedSimpArgs false
set_option maxRecDepth 10000
set_option maxHeartbeats 0
namespace Go.Proofs.Ytigkcigoiinkpaa.Am
open Go Go.RowKit Go.Proofs
def inF (e : Xt) : Prop:=0 ≤ e.f0 ∧ e.f0 < 65536 ∧ (1 ≤ e.f1 ∧ e.f1 < 4096) ∧ e.f2 ≤ 64 ∧ 0 ≤ e.f3 ∧ e.f3 < e.f2 ∧ 1 ≤ e.f4 ∧ e.f4 ≤ e.f2 - e.f3
def okF (l : List Xt) (i : Nat) : Prop:=inF (l.getD i x0) ∧ (0 < i → (l.getD i x0).f0 = (l.getD (i - 1) x0).f0 + (l.getD (i - 1) x0).f4)
def mayF (l : List Xt) : Prop:=1 ≤ l.length ∧ l.length ≤ 8 ∧ ∀ i,i < l.length → okF l i
open Classical in
noncomputable def packFOut (l : List Xt) : Out:=if mayF l then ⟨.tup [.sl 0 1 0 128 true,.d (.v (.bool true))],[(0,.row 5 1 ((nodP 1 l.length (exsB l)).map mB))]⟩ else ⟨.tup [.nil,.d (.v (.bool false))],[]⟩
theorem mayF_num {l : List Xt} (h : mayF l) : ∀ e ∈ l,numE e:=fun e he=>by
  obtain ⟨i,hi,rfl⟩:=List.mem_iff_getElem.1 he
  have:=(h.2.2 i hi).1
  rw [List.getD_eq_getElem?_getD,List.getElem?_eq_getElem hi] at this
  unfold inF at this
  unfold numE
  dsimp only [Option.getD_some] at this ⊢
  omega
noncomputable def N6 : Env:=⟨Try.prog,fun f ds out=>(f = 47 ∧ Sp_node_sector ds out) ∨ (f = 51 ∧ Sp_record_Extents ds out) ∨ (f = 50 ∧ Sp_node_seal ds out),Es,fun _=>false⟩
theorem N6_sp : ∀ f ds out,N6.Sp f ds out → Ent N6.P f ∧ Good N6.P f (fun a b=>a = ds ∧ b = out):=by
  rintro f ds out (⟨rfl,h⟩|⟨rfl,h⟩|⟨rfl,h⟩)
  · exact ⟨ent_node_sector,good_node_sector.one h⟩
  · exact ⟨ent_record_Extents,good_record_Extents.one h⟩
  · exact ⟨ent_node_seal,good_node_seal.one h⟩
theorem N6_ok : N6.Ok:=⟨N6_sp,Es_ok⟩
def Sp_node_PackLeaf (ds : List D) (out : Out) : Prop:=∃ l : List Xt,ds = [.list (l.map eD)] ∧ l.length ≤ 9223372036854775807 ∧ out = packFOut l
def bb_node_PackLeaf_8 : List Nat:=[0,1,3,7,15,7,7,71,231,487,999,7,7,4103,14343,30727,63495,131047,262143,524287]
def cc_node_PackLeaf_8 : List (List (Option Bool)):=[[some false,some false,some false,some false,some false,some false,some false,some false,some false,some false,some false,some false,some false,some false,some false,some false,some false,some false,some false,some false],[some true,some false,some false,some false,some false,some false,some false,some false,some false,some false,some false,some false,some false,some false,some false,some false,some false,some false,some false,some false],[some true,some true,some false,some false,some false,some false,some false,some false,some false,some false,some false,some false,some false,some false,some false,some false,some false,some false,some false,some false],[some true,some true,some true,some false,some false,none,none,none,none,none,none,none,none,none,none,none,none,none,some false,some false],[some true,some true,some true,some true,some false,none,none,none,none,none,none,none,none,none,none,none,none,none,some false,some false],[some true,some true,some true,none,none,some false,none,none,some false,some false,some false,none,none,none,none,none,none,some false,some false,some false],[some true,some true,some true,none,none,none,some false,some false,some false,some false,some false,none,none,none,none,none,none,some false,some false,some false],[some true,some true,some true,none,none,none,some true,some false,some false,some false,some false,none,none,none,none,none,none,some false,some false,some false],[some true,some true,some true,none,none,some true,some true,some true,some false,some false,some false,none,none,none,none,none,none,some false,some false,some false],[some true,some true,some true,none,none,some true,some true,some true,some true,some false,some false,none,none,none,none,none,none,some false,some false,some false],[some true,some true,some true,none,none,some true,some true,some true,some true,some true,some false,none,none,none,none,none,none,some false,some false,some false],[some true,some true,some true,none,none,none,none,none,none,none,none,some false,none,none,some false,some false,some false,some false,some false,some false],[some true,some true,some true,none,none,none,none,none,none,none,none,none,some false,some false,some false,some false,some false,some false,some false,some false],[some true,some true,some true,none,none,none,none,none,none,none,none,none,some true,some false,some false,some false,some false,some false,some false,some false],[some true,some true,some true,none,none,none,none,none,none,none,none,some true,some true,some true,some false,some false,some false,some false,some false,some false],[some true,some true,some true,none,none,none,none,none,none,none,none,some true,some true,some true,some true,some false,some false,some false,some false,some false],[some true,some true,some true,none,none,none,none,none,none,none,none,some true,some true,some true,some true,some true,some false,some false,some false,some false],[some true,some true,some true,none,none,some true,some true,some true,some true,some true,some true,some true,some true,some true,some true,some true,some true,some false,some false,some false],[some true,some true,some true,some true,some true,some true,some true,some true,some true,some true,some true,some true,some true,some true,some true,some true,some true,some true,some false,some false],[some true,some true,some true,some true,some true,some true,some true,some true,some true,some true,some true,some true,some true,some true,some true,some true,some true,some true,some true,some false]]
theorem good_node_PackLeaf : Good Try.prog 18 Sp_node_PackLeaf:=by
  refine good_body (E:=N6) (nt:=93) (rs:=#[.tmp 2,.tmp 3]) Try.func18 rfl rfl rfl ?_
  rintro ds out ⟨l,rfl,hl,rfl⟩
  refine ⟨by simp,?_⟩
  by_cases hlen : 1 ≤ l.length ∧ l.length ≤ 8
  case neg =>
    have hz : packFOut l = ⟨.tup [.nil,.d (.v (.bool false))],[]⟩:=if_neg fun h=>hlen ⟨h.1,h.2.1⟩
    repeat' first
 | refine AW.seq ?_
 | refine AW.block ?_
 | refine AW.regl N6_ok [0,2,3,4,5,13,14,15,16,17,66,86] ?_
 | (refine AW.regc (id:=8) N6_ok follows bb_node_PackLeaf_8 (by kernel_rfl) [0,2,3,4,5,13,14,15,16,17,66,86] ?_)
 | refine then_n ?_
 | refine then_r ?_
 | refine then_x ?_
 | refine block_x ?_
 | refine block_o (by decide) ?_
 | refine block_n ?_
 | refine block_r ?_
 | refine AW.skip ?_
 | refine AW.ret ?_
 | refine AW.exit ?_
 | refine AW.cond rfl ?_ ?_
 | refine awl_none rfl ?_
 | refine awl_nil2 ?_
 | refine awl_some rfl rfl (Nat.le_of_ble_eq_true rfl) rfl rfl ?_ ?_
 | refine awc_none rfl ?_
 | refine awc_some rfl rfl (Nat.le_of_ble_eq_true rfl) rfl rfl ?_ ?_
 | exact each_nil
 | (refine each_some rfl rfl (Nat.le_of_ble_eq_true rfl) rfl ?_ ?_;first|(rw [if_pos rfl])|(rw [if_neg (by decide)];exact ⟨rfl,rfl⟩))
 | refine each_none rfl ?_ ?_
 | refine awc_leaf2 [some 67,some 68,some 69,some 70,some 71,some 72,some 73,some 74,some 75,some 76,some 77,some 78,some 79,some 80,some 81,some 82,some 83,some 84,some 85,some 86] cc_node_PackLeaf_8 rfl (by kernel_rfl) (by kernel_rfl) ?_ ?_
 | (refine fun (hc : _ = _)=>?_;first|cases hc|((try rw [hc]);(try simp only [stH] at hc);(try (exfalso;omega)));(try ((first|show Awl _ _ _ _ _|show Awc _ _ _ _ _ _);simp only [stU])))
 | ((first|refine fun (K : V → List _ → _) hK=>?_|refine fun (_ : V → V)=>?_|refine fun (bb : Nat → Bool) K hK=>?_);simp (disch:=omega) only [go_sem,Int.reduceEq,↓reduceIte,reduceCtorEq,Nat.reduceEqDiff,Nat.reduceLT,Nat.reduceLeDiff,Nat.reduceAdd,Nat.reduceSub,Nat.reduceMul,Int.reduceToNat,Int.reduceLE,Int.reduceLT,N6,Sp_node_sector,Sp_record_Extents,Sp_node_seal,Sg3,St.updIf,ifc_nil,gt_ifc,go_ifc,ite_self,Option.none_or,Option.some_or];(try (revert hK;intro hK;(repeat' first|(refine And.intro ?_ ?_)|(intro hc;first|cases hc|((try rw [hc]);(try simp only [stH] at hc);(try (exfalso;omega)))));all_goals first|(refine hK _ _ ?_;clear hK K;simp only [stU])|exact hK|omega)))
    all_goals (refine Ends.of (nm []) (by first|exact .inl rfl|exact .inr rfl) ?_;simp (disch:=omega) only [go_sem,Int.reduceEq,↓reduceIte,reduceCtorEq,Nat.reduceEqDiff,Nat.reduceLT,Nat.reduceLeDiff,Nat.reduceAdd,Nat.reduceSub,Nat.reduceMul,Int.reduceToNat,Int.reduceLE,Int.reduceLT,N6,Sp_node_sector,Sp_record_Extents,Sp_node_seal,hz])
  repeat' first
 | refine AW.seq ?_
 | refine AW.block ?_
 | refine AW.regl N6_ok [0,2,3,4,5,13,14,15,16,17,66,86] ?_
 | (refine AW.regc (id:=8) N6_ok follows bb_node_PackLeaf_8 (by kernel_rfl) [0,2,3,4,5,13,14,15,16,17,66,86] ?_)
 | refine then_n ?_
 | refine then_r ?_
 | refine then_x ?_
 | refine block_x ?_
 | refine block_o (by decide) ?_
 | refine block_n ?_
 | refine block_r ?_
 | refine AW.skip ?_
 | refine AW.ret ?_
 | refine AW.exit ?_
 | refine AW.cond rfl ?_ ?_
 | refine awl_none rfl ?_
 | refine awl_nil2 ?_
 | refine awl_some rfl rfl (Nat.le_of_ble_eq_true rfl) rfl rfl ?_ ?_
 | refine awc_none rfl ?_
 | refine awc_some rfl rfl (Nat.le_of_ble_eq_true rfl) rfl rfl ?_ ?_
 | exact each_nil
 | (refine each_some rfl rfl (Nat.le_of_ble_eq_true rfl) rfl ?_ ?_;first|(rw [if_pos rfl])|(rw [if_neg (by decide)];exact ⟨rfl,rfl⟩))
 | refine each_none rfl ?_ ?_
 | refine awc_leaf2 [some 67,some 68,some 69,some 70,some 71,some 72,some 73,some 74,some 75,some 76,some 77,some 78,some 79,some 80,some 81,some 82,some 83,some 84,some 85,some 86] cc_node_PackLeaf_8 rfl (by kernel_rfl) (by kernel_rfl) ?_ ?_
 | (refine fun (hc : _ = _)=>?_;first|cases hc|((try rw [hc]);(try simp only [stH] at hc);(try (exfalso;omega)));(try ((first|show Awl _ _ _ _ _|show Awc _ _ _ _ _ _);simp only [stU])))
 | ((first|refine fun (K : V → List _ → _) hK=>?_|refine fun (_ : V → V)=>?_|refine fun (bb : Nat → Bool) K hK=>?_);simp (disch:=omega) only [go_sem,Int.reduceEq,↓reduceIte,reduceCtorEq,Nat.reduceEqDiff,Nat.reduceLT,Nat.reduceLeDiff,Nat.reduceAdd,Nat.reduceSub,Nat.reduceMul,Int.reduceToNat,Int.reduceLE,Int.reduceLT,N6,Sp_node_sector,Sp_record_Extents,Sp_node_seal,Sg3,St.updIf,ifc_nil,gt_ifc,go_ifc,ite_self,Option.none_or,Option.some_or];(try (revert hK;intro hK;(repeat' first|(refine And.intro ?_ ?_)|(intro hc;first|cases hc|((try rw [hc]);(try simp only [stH] at hc);(try (exfalso;omega)))));all_goals first|(refine hK _ _ ?_;clear hK K;simp only [stU])|exact hK|omega)))
  refine AW.loop_wk (fun k : Nat=>⟨[(0,.d (.list (l.map eD))),(2,.nil),(3,.d (.v (.bool false))),(14,.d (.list (l.map eD))),(15,.d (.v (.int .i64 l.length))),(16,.d (.v (.int .i64 k)))],[],93⟩)
    (fun k=>k ≤ l.length ∧ ∀ i,i < k → okF l i) (fun k=>l.length - k) 0 ⟨by omega,fun i hi=>by omega⟩ (fun w0 oa a w hs=>Wk.sr (ρ:=nm []) (Wk.of ?_) hs) ?_
  · simp (disch:=omega) only [go_sem,Int.reduceEq,↓reduceIte,reduceCtorEq,Nat.reduceEqDiff,Nat.reduceLT,Nat.reduceLeDiff,Nat.reduceAdd,Nat.reduceSub,Nat.reduceMul,Int.reduceToNat,Int.reduceLE,Int.reduceLT,N6,Sp_node_sector,Sp_record_Extents,Sp_node_seal]
  · rintro k ⟨hk,hok⟩
    by_cases hk1 : k < l.length
    · have e2:=nth_E l k hk1
      have e3 : 0 < k → nth (l.map eD) ((k : Int) - 1).toNat = eD (l.getD (k - 1) x0):=fun h=>by rw [show ((k : Int) - 1).toNat = k - 1 by omega];exact nth_E l _ (by omega)
      have hzz : ¬ okF l k → packFOut l = ⟨.tup [.nil,.d (.v (.bool false))],[]⟩:=fun h=>if_neg fun h2=>h (h2.2.2 k hk1)
      have hokk : okF l k ↔ inF (l.getD k x0) ∧ (0 < k → (l.getD k x0).f0 = (l.getD (k - 1) x0).f0 + (l.getD (k - 1) x0).f4):=Iff.rfl
      have hprv : 0 < k → inF (l.getD (k - 1) x0):=fun h=>(hok (k - 1) (by omega)).1
      generalize l.getD k x0 = P at *
      generalize l.getD (k - 1) x0 = Q at *
      obtain ⟨f0,f1,f2,f3,f4⟩:=P
      obtain ⟨q0,q1,q2,q3,q4⟩:=Q
      dsimp only at hokk
      unfold inF at hprv
      dsimp only at hprv
      replace e2 : nth (l.map eD) k = .agg [.v (.int .i64 f0),.v (.int .i64 f1),.v (.int .i64 f2),.v (.int .i64 f3),.v (.int .i64 f4)]:=e2
      replace e3 : 0 < k → nth (l.map eD) ((k : Int) - 1).toNat = .agg [.v (.int .i64 q0),.v (.int .i64 q1),.v (.int .i64 q2),.v (.int .i64 q3),.v (.int .i64 q4)]:=e3
      have hsec : decide (secN f1) = decide (1 ≤ f1 ∧ f1 < 4096):=rfl
      by_cases hin : inF ⟨f0,f1,f2,f3,f4⟩
      case neg =>
        have hz:=hzz fun h=>hin (hokk.1 h).1
        unfold inF at hin
        dsimp only at hin
        clear hokk hok e3 hprv hzz
        as_aux_lemma =>
          repeat' first
 | refine AW.seq ?_
 | refine AW.block ?_
 | refine AW.regl N6_ok [0,2,3,4,5,13,14,15,16,17,66,86] ?_
 | (refine AW.regc (id:=8) N6_ok follows bb_node_PackLeaf_8 (by kernel_rfl) [0,2,3,4,5,13,14,15,16,17,66,86] ?_)
 | refine then_n ?_
 | refine then_r ?_
 | refine then_x ?_
 | refine block_x ?_
 | refine block_o (by decide) ?_
 | refine block_n ?_
 | refine block_r ?_
 | refine AW.skip ?_
 | refine AW.ret ?_
 | refine AW.exit ?_
 | refine AW.cond rfl ?_ ?_
 | refine awl_none rfl ?_
 | refine awl_nil2 ?_
 | refine awl_some rfl rfl (Nat.le_of_ble_eq_true rfl) rfl rfl ?_ ?_
 | refine awc_none rfl ?_
 | refine awc_some rfl rfl (Nat.le_of_ble_eq_true rfl) rfl rfl ?_ ?_
 | exact each_nil
 | (refine each_some rfl rfl (Nat.le_of_ble_eq_true rfl) rfl ?_ ?_;first|(rw [if_pos rfl])|(rw [if_neg (by decide)];exact ⟨rfl,rfl⟩))
 | refine each_none rfl ?_ ?_
 | refine awc_leaf2 [some 67,some 68,some 69,some 70,some 71,some 72,some 73,some 74,some 75,some 76,some 77,some 78,some 79,some 80,some 81,some 82,some 83,some 84,some 85,some 86] cc_node_PackLeaf_8 rfl (by kernel_rfl) (by kernel_rfl) ?_ ?_
 | (refine fun (hc : _ = _)=>?_;first|cases hc|((try rw [hc]);(try simp only [stH] at hc);(try (exfalso;omega)));(try ((first|show Awl _ _ _ _ _|show Awc _ _ _ _ _ _);simp only [stU])))
 | ((first|refine fun (K : V → List _ → _) hK=>?_|refine fun (_ : V → V)=>?_|refine fun (bb : Nat → Bool) K hK=>?_);simp (disch:=omega) only [go_sem,Int.reduceEq,↓reduceIte,reduceCtorEq,Nat.reduceEqDiff,Nat.reduceLT,Nat.reduceLeDiff,Nat.reduceAdd,Nat.reduceSub,Nat.reduceMul,Int.reduceToNat,Int.reduceLE,Int.reduceLT,N6,Sp_node_sector,Sp_record_Extents,Sp_node_seal,e2,hsec,Sg3,St.updIf,ifc_nil,gt_ifc,go_ifc,ite_self,Option.none_or,Option.some_or];(try (revert hK;intro hK;(repeat' first|(refine And.intro ?_ ?_)|(intro hc;first|cases hc|((try rw [hc]);(try simp only [stH] at hc);(try (exfalso;omega)))));all_goals first|(refine hK _ _ ?_;clear hK K;simp only [stU])|exact hK|omega)))
          all_goals (refine Ends.of (nm []) (by first|exact .inl rfl|exact .inr rfl) ?_;simp (disch:=omega) only [go_sem,Int.reduceEq,↓reduceIte,reduceCtorEq,Nat.reduceEqDiff,Nat.reduceLT,Nat.reduceLeDiff,Nat.reduceAdd,Nat.reduceSub,Nat.reduceMul,Int.reduceToNat,Int.reduceLE,Int.reduceLT,N6,Sp_node_sector,Sp_record_Extents,Sp_node_seal,hz])
      have hin':=hin
      unfold inF at hin'
      dsimp only at hin'
      by_cases h0 : 0 < k
      case neg =>
        have hfin : okF l k:=hokk.2 ⟨hin,fun h=>absurd h h0⟩
        have d1 : decide (0 < (k : Int)) = false:=decide_eq_false (by omega)
        clear hokk e3 hprv hzz hin
        as_aux_lemma =>
          repeat' first
 | refine AW.seq ?_
 | refine AW.block ?_
 | refine AW.regl N6_ok [0,2,3,4,5,13,14,15,16,17,66,86] ?_
 | (refine AW.regc (id:=8) N6_ok follows bb_node_PackLeaf_8 (by kernel_rfl) [0,2,3,4,5,13,14,15,16,17,66,86] ?_)
 | refine then_n ?_
 | refine then_r ?_
 | refine then_x ?_
 | refine block_x ?_
 | refine block_o (by decide) ?_
 | refine block_n ?_
 | refine block_r ?_
 | refine AW.skip ?_
 | refine AW.ret ?_
 | refine AW.exit ?_
 | refine AW.cond rfl ?_ ?_
 | refine awl_none rfl ?_
 | refine awl_nil2 ?_
 | refine awl_some rfl rfl (Nat.le_of_ble_eq_true rfl) rfl rfl ?_ ?_
 | refine awc_none rfl ?_
 | refine awc_some rfl rfl (Nat.le_of_ble_eq_true rfl) rfl rfl ?_ ?_
 | exact each_nil
 | (refine each_some rfl rfl (Nat.le_of_ble_eq_true rfl) rfl ?_ ?_;first|(rw [if_pos rfl])|(rw [if_neg (by decide)];exact ⟨rfl,rfl⟩))
 | refine each_none rfl ?_ ?_
 | refine awc_leaf2 [some 67,some 68,some 69,some 70,some 71,some 72,some 73,some 74,some 75,some 76,some 77,some 78,some 79,some 80,some 81,some 82,some 83,some 84,some 85,some 86] cc_node_PackLeaf_8 rfl (by kernel_rfl) (by kernel_rfl) ?_ ?_
 | (refine fun (hc : _ = _)=>?_;first|cases hc|((try rw [hc]);(try simp only [stH] at hc);(try (exfalso;omega)));(try ((first|show Awl _ _ _ _ _|show Awc _ _ _ _ _ _);simp only [stU])))
 | ((first|refine fun (K : V → List _ → _) hK=>?_|refine fun (_ : V → V)=>?_|refine fun (bb : Nat → Bool) K hK=>?_);simp (disch:=omega) only [go_sem,Int.reduceEq,↓reduceIte,reduceCtorEq,Nat.reduceEqDiff,Nat.reduceLT,Nat.reduceLeDiff,Nat.reduceAdd,Nat.reduceSub,Nat.reduceMul,Int.reduceToNat,Int.reduceLE,Int.reduceLT,N6,Sp_node_sector,Sp_record_Extents,Sp_node_seal,e2,hsec,d1,Sg3,St.updIf,ifc_nil,gt_ifc,go_ifc,ite_self,Option.none_or,Option.some_or];(try (revert hK;intro hK;(repeat' first|(refine And.intro ?_ ?_)|(intro hc;first|cases hc|((try rw [hc]);(try simp only [stH] at hc);(try (exfalso;omega)))));all_goals first|(refine hK _ _ ?_;clear hK K;simp only [stU])|exact hK|omega)))
          refine ⟨k + 1,by omega,fun i hi=>?_,by omega,nm [],Wk.of ?_⟩
          · by_cases h : i = k
            · rw [h];exact hfin
            · exact hok i (by omega)
          · simp (disch:=omega) only [go_sem,Int.reduceEq,↓reduceIte,reduceCtorEq,Nat.reduceEqDiff,Nat.reduceLT,Nat.reduceLeDiff,Nat.reduceAdd,Nat.reduceSub,Nat.reduceMul,Int.reduceToNat,Int.reduceLE,Int.reduceLT,N6,Sp_node_sector,Sp_record_Extents,Sp_node_seal]
            all_goals first|done|rfl
      have e3':=e3 h0
      have hp:=hprv h0
      have d1 : decide (0 < (k : Int)) = true:=decide_eq_true (by omega)
      by_cases he : f0 = q0 + q4
      · have hfin : okF l k:=hokk.2 ⟨hin,fun _=>he⟩
        have d2 : decide (f0 = q0 + q4) = true:=decide_eq_true he
        clear hokk e3 hprv hzz hin
        as_aux_lemma =>
          repeat' first
 | refine AW.seq ?_
 | refine AW.block ?_
 | refine AW.regl N6_ok [0,2,3,4,5,13,14,15,16,17,66,86] ?_
 | (refine AW.regc (id:=8) N6_ok follows bb_node_PackLeaf_8 (by kernel_rfl) [0,2,3,4,5,13,14,15,16,17,66,86] ?_)
 | refine then_n ?_
 | refine then_r ?_
 | refine then_x ?_
 | refine block_x ?_
 | refine block_o (by decide) ?_
 | refine block_n ?_
 | refine block_r ?_
 | refine AW.skip ?_
 | refine AW.ret ?_
 | refine AW.exit ?_
 | refine AW.cond rfl ?_ ?_
 | refine awl_none rfl ?_
 | refine awl_nil2 ?_
 | refine awl_some rfl rfl (Nat.le_of_ble_eq_true rfl) rfl rfl ?_ ?_
 | refine awc_none rfl ?_
 | refine awc_some rfl rfl (Nat.le_of_ble_eq_true rfl) rfl rfl ?_ ?_
 | exact each_nil
 | (refine each_some rfl rfl (Nat.le_of_ble_eq_true rfl) rfl ?_ ?_;first|(rw [if_pos rfl])|(rw [if_neg (by decide)];exact ⟨rfl,rfl⟩))
 | refine each_none rfl ?_ ?_
 | refine awc_leaf2 [some 67,some 68,some 69,some 70,some 71,some 72,some 73,some 74,some 75,some 76,some 77,some 78,some 79,some 80,some 81,some 82,some 83,some 84,some 85,some 86] cc_node_PackLeaf_8 rfl (by kernel_rfl) (by kernel_rfl) ?_ ?_
 | (refine fun (hc : _ = _)=>?_;first|cases hc|((try rw [hc]);(try simp only [stH] at hc);(try (exfalso;omega)));(try ((first|show Awl _ _ _ _ _|show Awc _ _ _ _ _ _);simp only [stU])))
 | ((first|refine fun (K : V → List _ → _) hK=>?_|refine fun (_ : V → V)=>?_|refine fun (bb : Nat → Bool) K hK=>?_);simp (disch:=omega) only [go_sem,Int.reduceEq,↓reduceIte,reduceCtorEq,Nat.reduceEqDiff,Nat.reduceLT,Nat.reduceLeDiff,Nat.reduceAdd,Nat.reduceSub,Nat.reduceMul,Int.reduceToNat,Int.reduceLE,Int.reduceLT,N6,Sp_node_sector,Sp_record_Extents,Sp_node_seal,e2,e3',hsec,d1,d2,Sg3,St.updIf,ifc_nil,gt_ifc,go_ifc,ite_self,Option.none_or,Option.some_or];(try (revert hK;intro hK;(repeat' first|(refine And.intro ?_ ?_)|(intro hc;first|cases hc|((try rw [hc]);(try simp only [stH] at hc);(try (exfalso;omega)))));all_goals first|(refine hK _ _ ?_;clear hK K;simp only [stU])|exact hK|omega)))
          refine ⟨k + 1,by omega,fun i hi=>?_,by omega,nm [],Wk.of ?_⟩
          · by_cases h : i = k
            · rw [h];exact hfin
            · exact hok i (by omega)
          · simp (disch:=omega) only [go_sem,Int.reduceEq,↓reduceIte,reduceCtorEq,Nat.reduceEqDiff,Nat.reduceLT,Nat.reduceLeDiff,Nat.reduceAdd,Nat.reduceSub,Nat.reduceMul,Int.reduceToNat,Int.reduceLE,Int.reduceLT,N6,Sp_node_sector,Sp_record_Extents,Sp_node_seal]
            all_goals first|done|rfl
      · have hz:=hzz fun h=>he ((hokk.1 h).2 h0)
        have d2 : decide (f0 = q0 + q4) = false:=decide_eq_false he
        clear hokk hok e3 hprv hzz hin
        as_aux_lemma =>
          repeat' first
 | refine AW.seq ?_
 | refine AW.block ?_
 | refine AW.regl N6_ok [0,2,3,4,5,13,14,15,16,17,66,86] ?_
 | (refine AW.regc (id:=8) N6_ok follows bb_node_PackLeaf_8 (by kernel_rfl) [0,2,3,4,5,13,14,15,16,17,66,86] ?_)
 | refine then_n ?_
 | refine then_r ?_
 | refine then_x ?_
 | refine block_x ?_
 | refine block_o (by decide) ?_
 | refine block_n ?_
 | refine block_r ?_
 | refine AW.skip ?_
 | refine AW.ret ?_
 | refine AW.exit ?_
 | refine AW.cond rfl ?_ ?_
 | refine awl_none rfl ?_
 | refine awl_nil2 ?_
 | refine awl_some rfl rfl (Nat.le_of_ble_eq_true rfl) rfl rfl ?_ ?_
 | refine awc_none rfl ?_
 | refine awc_some rfl rfl (Nat.le_of_ble_eq_true rfl) rfl rfl ?_ ?_
 | exact each_nil
 | (refine each_some rfl rfl (Nat.le_of_ble_eq_true rfl) rfl ?_ ?_;first|(rw [if_pos rfl])|(rw [if_neg (by decide)];exact ⟨rfl,rfl⟩))
 | refine each_none rfl ?_ ?_
 | refine awc_leaf2 [some 67,some 68,some 69,some 70,some 71,some 72,some 73,some 74,some 75,some 76,some 77,some 78,some 79,some 80,some 81,some 82,some 83,some 84,some 85,some 86] cc_node_PackLeaf_8 rfl (by kernel_rfl) (by kernel_rfl) ?_ ?_
 | (refine fun (hc : _ = _)=>?_;first|cases hc|((try rw [hc]);(try simp only [stH] at hc);(try (exfalso;omega)));(try ((first|show Awl _ _ _ _ _|show Awc _ _ _ _ _ _);simp only [stU])))
 | ((first|refine fun (K : V → List _ → _) hK=>?_|refine fun (_ : V → V)=>?_|refine fun (bb : Nat → Bool) K hK=>?_);simp (disch:=omega) only [go_sem,Int.reduceEq,↓reduceIte,reduceCtorEq,Nat.reduceEqDiff,Nat.reduceLT,Nat.reduceLeDiff,Nat.reduceAdd,Nat.reduceSub,Nat.reduceMul,Int.reduceToNat,Int.reduceLE,Int.reduceLT,N6,Sp_node_sector,Sp_record_Extents,Sp_node_seal,e2,e3',hsec,d1,d2,Sg3,St.updIf,ifc_nil,gt_ifc,go_ifc,ite_self,Option.none_or,Option.some_or];(try (revert hK;intro hK;(repeat' first|(refine And.intro ?_ ?_)|(intro hc;first|cases hc|((try rw [hc]);(try simp only [stH] at hc);(try (exfalso;omega)))));all_goals first|(refine hK _ _ ?_;clear hK K;simp only [stU])|exact hK|omega)))
          all_goals (refine Ends.of (nm []) (by first|exact .inl rfl|exact .inr rfl) ?_;simp (disch:=omega) only [go_sem,Int.reduceEq,↓reduceIte,reduceCtorEq,Nat.reduceEqDiff,Nat.reduceLT,Nat.reduceLeDiff,Nat.reduceAdd,Nat.reduceSub,Nat.reduceMul,Int.reduceToNat,Int.reduceLE,Int.reduceLT,N6,Sp_node_sector,Sp_record_Extents,Sp_node_seal,hz])
    · obtain rfl : k = l.length:=by omega
      have hm : mayF l:=⟨hlen.1,hlen.2,hok⟩
      have hz : packFOut l = ⟨.tup [.sl 0 1 0 128 true,.d (.v (.bool true))],[(0,.row 5 1 ((nodP 1 l.length (exsB l)).map mB))]⟩:=if_pos hm
      have hnum : (∀ e ∈ l,numE e) = True:=eq_true (mayF_num hm)
      have hpl : (exsB l).length = 7 * l.length:=exsB_length l
      have hpt : ((exsB l).map mB).take (exsB l).length = (exsB l).map mB:=List.take_of_length_le (by simp)
      repeat' first
 | refine AW.seq ?_
 | refine AW.block ?_
 | refine AW.regl N6_ok [0,2,3,4,5,13,14,15,16,17,66,86] ?_
 | (refine AW.regc (id:=8) N6_ok follows bb_node_PackLeaf_8 (by kernel_rfl) [0,2,3,4,5,13,14,15,16,17,66,86] ?_)
 | refine then_n ?_
 | refine then_r ?_
 | refine then_x ?_
 | refine block_x ?_
 | refine block_o (by decide) ?_
 | refine block_n ?_
 | refine block_r ?_
 | refine AW.skip ?_
 | refine AW.ret ?_
 | refine AW.exit ?_
 | refine AW.cond rfl ?_ ?_
 | refine awl_none rfl ?_
 | refine awl_nil2 ?_
 | refine awl_some rfl rfl (Nat.le_of_ble_eq_true rfl) rfl rfl ?_ ?_
 | refine awc_none rfl ?_
 | refine awc_some rfl rfl (Nat.le_of_ble_eq_true rfl) rfl rfl ?_ ?_
 | exact each_nil
 | (refine each_some rfl rfl (Nat.le_of_ble_eq_true rfl) rfl ?_ ?_;first|(rw [if_pos rfl])|(rw [if_neg (by decide)];exact ⟨rfl,rfl⟩))
 | refine each_none rfl ?_ ?_
 | refine awc_leaf2 [some 67,some 68,some 69,some 70,some 71,some 72,some 73,some 74,some 75,some 76,some 77,some 78,some 79,some 80,some 81,some 82,some 83,some 84,some 85,some 86] cc_node_PackLeaf_8 rfl (by kernel_rfl) (by kernel_rfl) ?_ ?_
 | (refine fun (hc : _ = _)=>?_;first|cases hc|((try rw [hc]);(try simp only [stH] at hc);(try (exfalso;omega)));(try ((first|show Awl _ _ _ _ _|show Awc _ _ _ _ _ _);simp only [stU])))
 | ((first|refine fun (K : V → List _ → _) hK=>?_|refine fun (_ : V → V)=>?_|refine fun (bb : Nat → Bool) K hK=>?_);simp (disch:=omega) only [go_sem,Int.reduceEq,↓reduceIte,reduceCtorEq,Nat.reduceEqDiff,Nat.reduceLT,Nat.reduceLeDiff,Nat.reduceAdd,Nat.reduceSub,Nat.reduceMul,Int.reduceToNat,Int.reduceLE,Int.reduceLT,N6,Sp_node_sector,Sp_record_Extents,Sp_node_seal,hnum,hpt,mB_inj,eD_inj,Sg3,St.updIf,ifc_nil,gt_ifc,go_ifc,ite_self,Option.none_or,Option.some_or];(try (revert hK;intro hK;(repeat' first|(refine And.intro ?_ ?_)|(intro hc;first|cases hc|((try rw [hc]);(try simp only [stH] at hc);(try (exfalso;omega)))));all_goals first|(refine hK _ _ ?_;clear hK K;simp only [stU])|exact hK|omega)))
      (refine Ends.of (nm [(0,92)]) (by first|exact .inl rfl|exact .inr rfl) ?_;simp (disch:=omega) only [go_sem,Int.reduceEq,↓reduceIte,reduceCtorEq,Nat.reduceEqDiff,Nat.reduceLT,Nat.reduceLeDiff,Nat.reduceAdd,Nat.reduceSub,Nat.reduceMul,Int.reduceToNat,Int.reduceLE,Int.reduceLT,N6,Sp_node_sector,Sp_record_Extents,Sp_node_seal,hz])
theorem ent_node_PackLeaf : Ent Try.prog 18:=⟨_,Try.func18,rfl,by decide⟩
end Go.Proofs.Ytigkcigoiinkpaa.Am
