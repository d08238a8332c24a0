import Derived.Test.YtigkcigoiinkpaaZNEa
import Derived.Test.YtigkcigoiinkpaaZZA
set_option linter.unusedVariables false
set_option linter.unusedSimpArgs false
set_option maxRecDepth 10000
set_option maxHeartbeats 0
namespace Go.Proofs.Ytigkcigoiinkpaa.Am
open Go Go.RowKit Go.Proofs
def dmyNode : Nat:=0
noncomputable def NMayNode : Env:=⟨Try.prog,fun f ds out=>(f = 73 ∧ Sp_overdubref20_two ds out) ∨ (f = 74 ∧ Sp_overdubref20_place ds out),Es,fun _=>false⟩
theorem NMayNode_sp : ∀ f ds out,NMayNode.Sp f ds out → Ent NMayNode.P f ∧ Good NMayNode.P f (fun a b=>a = ds ∧ b = out):=by
  rintro f ds out (⟨rfl,h⟩|⟨rfl,h⟩)
  · exact ⟨ent_overdubref20_two,good_overdubref20_two.one h⟩
  · exact ⟨ent_overdubref20_place,good_overdubref20_place.one h⟩
theorem NMayNode_ok : NMayNode.Ok:=⟨NMayNode_sp,Es_ok⟩
def stAMayNode (l : List Pa) (k : Nat) : St:=⟨[(0,.d (.list (l.map pD))),(2,.d (.v (.bool false))),(3,.d (.v (.int .i64 k))),(5,.d (.v (.int .i64 l.length))),(6,.d (.v (.int .i64 k)))],[],52⟩
def stBMayNode (l : List Pa) (k : Nat) (v : Bool) : St:=⟨[(0,.d (.list (l.map pD))),(2,.d (.v (.bool false))),(5,.d (.v (.int .i64 l.length))),(6,.d (.v (.int .i64 k))),(42,.d (.v (.bool v)))],[],52⟩
def cMayNode (k : Nat) (q qb a b : Int) : Prop:=twN a ∧ secN b ∧ (0 < k → q < a)
open Classical in
noncomputable def bMayNode (l : List Pa) : Bool:=decide (mayN l)
open Classical in
theorem bMayNode_no {l : List Pa} {k : Nat} (h : ¬ okP l k) (hk : k < l.length) : bMayNode l = false:=decide_eq_false fun h2=>h (h2.2.2 k hk)
open Classical in
theorem bMayNode_end (l : List Pa) (h : ∀ i,i < l.length → okP l i) : bMayNode l = (decide (1 ≤ l.length) && decide (l.length ≤ 8)):=by
  unfold bMayNode
  rw [← Bool.decide_and,decide_eq_decide];exact ⟨fun h2=>⟨h2.1,h2.2.1⟩,fun h2=>⟨h2.1,h2.2,h⟩⟩
theorem bMayNode_item (l : List Pa) (k : Nat) : okP l k ↔ cMayNode k (l.getD (k - 1) p0).a (l.getD (k - 1) p0).b (l.getD k p0).a (l.getD k p0).b:=by
  unfold okP cMayNode twN
  exact ⟨fun h=>⟨⟨h.1,h.2.1⟩,h.2.2.1,h.2.2.2⟩,fun h=>⟨h.1.1,h.1.2,h.2.1,h.2.2⟩⟩
def bb_overdubref20_MayNode_4 : List Nat:=[0,0,3,7,15,31,63,127,255,255,1023,2047,4095,8191,16383,32767,65535,131071,262143,524287,1048575,1048575,4194303,8388607,16777215,1048575,1048575,68157439,235929599,504365055,1041235967,2147483647,4294967295,8589934591]
theorem rMayNode {l : List Pa} {k : Nat} {q qb a b : Int} (hl : l.length ≤ 9223372036854775807) (hk1 : k < l.length) (e2 : nth (l.map pD) k = .agg [.v (.int .i64 a),.v (.int .i64 b)])
    (e3 : 0 < k → nth (l.map pD) ((k : Int) - 1).toNat = .agg [.v (.int .i64 q),.v (.int .i64 qb)])  {Q : Exit → St → Prop} : AW Try.prog (sub [1,0,1,0,0,1,1,0,0,1,0] (bd Try.f61)) (stAMayNode l k) (thenA (midxN (stBMayNode l k) fun v=>v = true ↔ ¬ cMayNode k q qb a b) Q):=by
  by_cases h1 : twN a
  focus
    by_cases h2 : secN b
    focus
      by_cases h3 : 0 < k
      focus
        by_cases h4 : a ≤ q
        focus
          have d0 : decide (twN a) = true:=decide_eq_true h1
          have d1 : decide (secN b) = true:=decide_eq_true h2
          have d2 : decide (0 < (k : Int)) = true:=decide_eq_true (by omega)
          have d3 : decide (a ≤ q) = true:=decide_eq_true h4
          have e3':=e3 h3
          have hz : ¬ cMayNode k q qb a b:=fun h=>by unfold cMayNode at h;first|omega|(refine ⟨by assumption,by assumption,?_⟩;omega)|(obtain ⟨g1,g2,g3⟩:=h;first|exact absurd g1 (by assumption)|exact absurd g2 (by assumption)|omega)
        rotate_left 1
        focus
          have d0 : decide (twN a) = true:=decide_eq_true h1
          have d1 : decide (secN b) = true:=decide_eq_true h2
          have d2 : decide (0 < (k : Int)) = true:=decide_eq_true (by omega)
          have d3 : decide (a ≤ q) = false:=decide_eq_false h4
          have e3':=e3 h3
          have hz : cMayNode k q qb a b:=by unfold cMayNode;first|omega|(refine ⟨by assumption,by assumption,?_⟩;omega)|(obtain ⟨g1,g2,g3⟩:=h;first|exact absurd g1 (by assumption)|exact absurd g2 (by assumption)|omega)
      rotate_left 2
      focus
        have d0 : decide (twN a) = true:=decide_eq_true h1
        have d1 : decide (secN b) = true:=decide_eq_true h2
        have d2 : decide (0 < (k : Int)) = false:=decide_eq_false (by omega)
        have d3 : dmyNode = 0:=rfl
        have e3':=e2
        have hz : cMayNode k q qb a b:=by unfold cMayNode;first|omega|(refine ⟨by assumption,by assumption,?_⟩;omega)|(obtain ⟨g1,g2,g3⟩:=h;first|exact absurd g1 (by assumption)|exact absurd g2 (by assumption)|omega)
    rotate_left 3
    focus
      have d0 : decide (twN a) = true:=decide_eq_true h1
      have d1 : decide (secN b) = false:=decide_eq_false h2
      have d2 : dmyNode = 0:=rfl
      have d3 : dmyNode = 0:=rfl
      have e3':=e2
      have hz : ¬ cMayNode k q qb a b:=fun h=>by unfold cMayNode at h;first|omega|(refine ⟨by assumption,by assumption,?_⟩;omega)|(obtain ⟨g1,g2,g3⟩:=h;first|exact absurd g1 (by assumption)|exact absurd g2 (by assumption)|omega)
  rotate_left 4
  focus
    have d0 : decide (twN a) = false:=decide_eq_false h1
    have d1 : dmyNode = 0:=rfl
    have d2 : dmyNode = 0:=rfl
    have d3 : dmyNode = 0:=rfl
    have e3':=e2
    have hz : ¬ cMayNode k q qb a b:=fun h=>by unfold cMayNode at h;first|omega|(refine ⟨by assumption,by assumption,?_⟩;omega)|(obtain ⟨g1,g2,g3⟩:=h;first|exact absurd g1 (by assumption)|exact absurd g2 (by assumption)|omega)
  all_goals as_aux_lemma =>
    skip
    repeat' first
 | refine AW.seq ?_
 | refine AW.block ?_
 | refine AW.regl NMayNode_ok [0,2,3,5,6,7,42] ?_
 | (refine AW.regq (id:=4) NMayNode_ok follows bb_overdubref20_MayNode_4 (by kernel_rfl) [0,2,3,5,6,7,42] ?_)
 | refine then_n ?_
 | refine then_r ?_
 | refine then_x ?_
 | refine block_x ?_
 | refine block_o (by decide) ?_
 | refine block_n ?_
 | refine block_r ?_
 | refine AW.skip ?_
 | refine AW.ret ?_
 | refine AW.exit ?_
 | refine AW.cond rfl ?_ ?_
 | refine awl_none rfl ?_
 | refine awl_nil2 ?_
 | refine awl_some rfl rfl (Nat.le_of_ble_eq_true rfl) rfl rfl ?_ ?_
 | refine awc_none rfl ?_
 | refine awc_some rfl rfl (Nat.le_of_ble_eq_true rfl) rfl rfl ?_ ?_
 | (refine awc_skip rfl rfl (Nat.le_of_ble_eq_true rfl) rfl rfl ?_;simp only [stU])
 | refine awc_nilq (by kernel_rfl) (by kernel_rfl) ?_
 | (refine fun (hc : _ = _)=>?_;first|cases hc|((try rw [hc]);(try simp only [stH] at hc);(try (exfalso;omega)));(try ((first|show Awl _ _ _ _ _|show Awc _ _ _ _ _ _);simp only [stU])))
 | ((first|refine fun (K : V → List _ → _) hK=>?_|refine fun (_ : V → V)=>?_);simp (disch:=omega) only [go_sem,Int.reduceEq,↓reduceIte,reduceCtorEq,Nat.reduceEqDiff,Nat.reduceLT,Nat.reduceLeDiff,Nat.reduceAdd,Nat.reduceSub,Nat.reduceMul,Int.reduceToNat,Int.reduceLE,Int.reduceLT,NMayNode,Sp_overdubref20_two,Sp_overdubref20_place,stAMayNode,e2,e3',d0,d1,d2,d3,Sg3,St.updIf,ifc_nil,gt_ifc,go_ifc,ite_self,Option.none_or,Option.some_or];(try (revert hK;intro hK;(repeat' first|(refine And.intro ?_ ?_)|(intro hc;first|cases hc|((try rw [hc]);(try simp only [stH] at hc);(try (exfalso;omega)))));all_goals first|(refine hK _ _ ?_;clear hK K;simp only [stU])|exact hK|omega)))
    first|(refine ⟨true,⟨fun _=>hz,fun _=>rfl⟩,nm [],Wk.of ?_⟩)|(refine ⟨false,⟨fun h=>(by cases h),fun h=>absurd hz h⟩,nm [],Wk.of ?_⟩)
    simp (disch:=omega) only [go_sem,Int.reduceEq,↓reduceIte,reduceCtorEq,Nat.reduceEqDiff,Nat.reduceLT,Nat.reduceLeDiff,Nat.reduceAdd,Nat.reduceSub,Nat.reduceMul,Int.reduceToNat,Int.reduceLE,Int.reduceLT,NMayNode,Sp_overdubref20_two,Sp_overdubref20_place,stBMayNode]
def Sp_overdubref20_MayNode (ds : List D) (out : Out) : Prop:=∃ l : List Pa,ds = [.list (l.map pD)] ∧ l.length ≤ 9223372036854775807 ∧ out = ⟨.d (.v (.bool (bMayNode l))),[]⟩
theorem good_overdubref20_MayNode : Good Try.prog 61 Sp_overdubref20_MayNode:=by
  refine good_body (E:=NMayNode) (nt:=52) (rs:=#[.tmp 2]) Try.func61 rfl rfl rfl ?_
  rintro ds out ⟨l,rfl,hl,rfl⟩
  refine ⟨by simp,?_⟩
  repeat' first
 | refine AW.seq ?_
 | refine AW.block ?_
 | refine AW.regl NMayNode_ok [0,2,3,5,6,7,42] ?_
 | refine then_n ?_
 | refine then_r ?_
 | refine then_x ?_
 | refine block_x ?_
 | refine block_o (by decide) ?_
 | refine block_n ?_
 | refine block_r ?_
 | refine AW.skip ?_
 | refine AW.ret ?_
 | refine AW.exit ?_
 | refine AW.cond rfl ?_ ?_
 | refine awl_none rfl ?_
 | refine awl_nil2 ?_
 | refine awl_some rfl rfl (Nat.le_of_ble_eq_true rfl) rfl rfl ?_ ?_
 | refine awc_none rfl ?_
 | refine awc_some rfl rfl (Nat.le_of_ble_eq_true rfl) rfl rfl ?_ ?_
 | (refine awc_skip rfl rfl (Nat.le_of_ble_eq_true rfl) rfl rfl ?_;simp only [stU])
 | (refine fun (hc : _ = _)=>?_;first|cases hc|((try rw [hc]);(try simp only [stH] at hc);(try (exfalso;omega)));(try ((first|show Awl _ _ _ _ _|show Awc _ _ _ _ _ _);simp only [stU])))
 | ((first|refine fun (K : V → List _ → _) hK=>?_|refine fun (_ : V → V)=>?_);simp (disch:=omega) only [go_sem,Int.reduceEq,↓reduceIte,reduceCtorEq,Nat.reduceEqDiff,Nat.reduceLT,Nat.reduceLeDiff,Nat.reduceAdd,Nat.reduceSub,Nat.reduceMul,Int.reduceToNat,Int.reduceLE,Int.reduceLT,NMayNode,Sp_overdubref20_two,Sp_overdubref20_place,Sg3,St.updIf,ifc_nil,gt_ifc,go_ifc,ite_self,Option.none_or,Option.some_or];(try (revert hK;intro hK;(repeat' first|(refine And.intro ?_ ?_)|(intro hc;first|cases hc|((try rw [hc]);(try simp only [stH] at hc);(try (exfalso;omega)))));all_goals first|(refine hK _ _ ?_;clear hK K;simp only [stU])|exact hK|omega)))
  refine AW.loop_wk (fun k : Nat=>⟨[(0,.d (.list (l.map pD))),(2,.d (.v (.bool false))),(5,.d (.v (.int .i64 l.length))),(6,.d (.v (.int .i64 k)))],[],52⟩)
    (fun k=>k ≤ l.length ∧ ∀ i,i < k → okP l i) (fun k=>l.length - k) 0 ⟨by omega,fun i hi=>by omega⟩ (fun w0 oa a w hs=>Wk.sr (ρ:=nm []) (Wk.of ?_) hs) ?_
  · simp (disch:=omega) only [go_sem,Int.reduceEq,↓reduceIte,reduceCtorEq,Nat.reduceEqDiff,Nat.reduceLT,Nat.reduceLeDiff,Nat.reduceAdd,Nat.reduceSub,Nat.reduceMul,Int.reduceToNat,Int.reduceLE,Int.reduceLT,NMayNode,Sp_overdubref20_two,Sp_overdubref20_place]
    all_goals first|done|exact ⟨rfl,rfl⟩|rfl
  · rintro k ⟨hk,hok⟩
    by_cases hk1 : k < l.length
    · have e2:=nth_Ph l k hk1
      have e3 : 0 < k → nth (l.map pD) ((k : Int) - 1).toNat = pD (l.getD (k - 1) p0):=fun h=>by rw [show ((k : Int) - 1).toNat = k - 1 by omega];exact nth_P l _ (by omega)
      have hzz : ¬ okP l k → bMayNode l = false:=fun h=>bMayNode_no h hk1
      have hokk:=bMayNode_item l k
      generalize l.getD k p0 = P at *
      generalize l.getD (k - 1) p0 = Q at *
      obtain ⟨a,b⟩:=P
      obtain ⟨q,qb⟩:=Q
      dsimp only at hokk e2
      replace e2 : nth (l.map pD) k = .agg [.v (.int .i64 a),.v (.int .i64 b)]:=e2
      replace e3 : 0 < k → nth (l.map pD) ((k : Int) - 1).toNat = .agg [.v (.int .i64 q),.v (.int .i64 qb)]:=e3
      have hfin : okP l k → ∀ i,i < k + 1 → okP l i:=fun h i hi=>by
        by_cases he : i = k
        · rw [he];exact h
        · exact hok i (by omega)
      clear hok
      repeat' first
 | refine AW.seq ?_
 | refine AW.block ?_
 | refine AW.regl NMayNode_ok [0,2,3,5,6,7,42] ?_
 | refine then_n ?_
 | refine then_r ?_
 | refine then_x ?_
 | refine block_x ?_
 | refine block_o (by decide) ?_
 | refine block_n ?_
 | refine block_r ?_
 | refine AW.skip ?_
 | refine AW.ret ?_
 | refine AW.exit ?_
 | refine AW.cond rfl ?_ ?_
 | refine awl_none rfl ?_
 | refine awl_nil2 ?_
 | refine awl_some rfl rfl (Nat.le_of_ble_eq_true rfl) rfl rfl ?_ ?_
 | refine awc_none rfl ?_
 | refine awc_some rfl rfl (Nat.le_of_ble_eq_true rfl) rfl rfl ?_ ?_
 | (refine awc_skip rfl rfl (Nat.le_of_ble_eq_true rfl) rfl rfl ?_;simp only [stU])
 | (refine fun (hc : _ = _)=>?_;first|cases hc|((try rw [hc]);(try simp only [stH] at hc);(try (exfalso;omega)));(try ((first|show Awl _ _ _ _ _|show Awc _ _ _ _ _ _);simp only [stU])))
 | ((first|refine fun (K : V → List _ → _) hK=>?_|refine fun (_ : V → V)=>?_);simp (disch:=omega) only [go_sem,Int.reduceEq,↓reduceIte,reduceCtorEq,Nat.reduceEqDiff,Nat.reduceLT,Nat.reduceLeDiff,Nat.reduceAdd,Nat.reduceSub,Nat.reduceMul,Int.reduceToNat,Int.reduceLE,Int.reduceLT,NMayNode,Sp_overdubref20_two,Sp_overdubref20_place,e2,Sg3,St.updIf,ifc_nil,gt_ifc,go_ifc,ite_self,Option.none_or,Option.some_or];(try (revert hK;intro hK;(repeat' first|(refine And.intro ?_ ?_)|(intro hc;first|cases hc|((try rw [hc]);(try simp only [stH] at hc);(try (exfalso;omega)))));all_goals first|(refine hK _ _ ?_;clear hK K;simp only [stU])|exact hK|omega)))
      refine AW.part (stBMayNode l k) (fun v=>v = true ↔ ¬ cMayNode k q qb a b) (stAMayNode l k) ⟨nm [],Wk.of ?_⟩ ?_ ?_
      · simp (disch:=omega) only [go_sem,Int.reduceEq,↓reduceIte,reduceCtorEq,Nat.reduceEqDiff,Nat.reduceLT,Nat.reduceLeDiff,Nat.reduceAdd,Nat.reduceSub,Nat.reduceMul,Int.reduceToNat,Int.reduceLE,Int.reduceLT,NMayNode,Sp_overdubref20_two,Sp_overdubref20_place,stAMayNode]
      · exact rMayNode hl hk1 e2 e3
      · intro v hv s hs
        refine midN.go ?_ s hs
        cases v with
        | true =>
          have hz:=hzz fun h=>(hv.1 rfl) (hokk.1 h)
          clear hzz hv hokk e3
          repeat' first
 | refine AW.seq ?_
 | refine AW.block ?_
 | refine AW.regl NMayNode_ok [0,2,3,5,6,7,42] ?_
 | (refine AW.regq (id:=4) NMayNode_ok follows bb_overdubref20_MayNode_4 (by kernel_rfl) [0,2,3,5,6,7,42] ?_)
 | refine then_n ?_
 | refine then_r ?_
 | refine then_x ?_
 | refine block_x ?_
 | refine block_o (by decide) ?_
 | refine block_n ?_
 | refine block_r ?_
 | refine AW.skip ?_
 | refine AW.ret ?_
 | refine AW.exit ?_
 | refine AW.cond rfl ?_ ?_
 | refine awl_none rfl ?_
 | refine awl_nil2 ?_
 | refine awl_some rfl rfl (Nat.le_of_ble_eq_true rfl) rfl rfl ?_ ?_
 | refine awc_none rfl ?_
 | refine awc_some rfl rfl (Nat.le_of_ble_eq_true rfl) rfl rfl ?_ ?_
 | (refine awc_skip rfl rfl (Nat.le_of_ble_eq_true rfl) rfl rfl ?_;simp only [stU])
 | refine awc_nilq (by kernel_rfl) (by kernel_rfl) ?_
 | (refine fun (hc : _ = _)=>?_;first|cases hc|((try rw [hc]);(try simp only [stH] at hc);(try (exfalso;omega)));(try ((first|show Awl _ _ _ _ _|show Awc _ _ _ _ _ _);simp only [stU])))
 | ((first|refine fun (K : V → List _ → _) hK=>?_|refine fun (_ : V → V)=>?_);simp (disch:=omega) only [go_sem,Int.reduceEq,↓reduceIte,reduceCtorEq,Nat.reduceEqDiff,Nat.reduceLT,Nat.reduceLeDiff,Nat.reduceAdd,Nat.reduceSub,Nat.reduceMul,Int.reduceToNat,Int.reduceLE,Int.reduceLT,NMayNode,Sp_overdubref20_two,Sp_overdubref20_place,stBMayNode,e2,Sg3,St.updIf,ifc_nil,gt_ifc,go_ifc,ite_self,Option.none_or,Option.some_or];(try (revert hK;intro hK;(repeat' first|(refine And.intro ?_ ?_)|(intro hc;first|cases hc|((try rw [hc]);(try simp only [stH] at hc);(try (exfalso;omega)))));all_goals first|(refine hK _ _ ?_;clear hK K;simp only [stU])|exact hK|omega)))
          (refine Ends.of (nm []) (by first|exact .inl rfl|exact .inr rfl) ?_;simp (disch:=omega) only [go_sem,Int.reduceEq,↓reduceIte,reduceCtorEq,Nat.reduceEqDiff,Nat.reduceLT,Nat.reduceLeDiff,Nat.reduceAdd,Nat.reduceSub,Nat.reduceMul,Int.reduceToNat,Int.reduceLE,Int.reduceLT,NMayNode,Sp_overdubref20_two,Sp_overdubref20_place,hz])
        | false =>
          have hC : okP l k:=hokk.2 (Classical.byContradiction fun h=>by have:=hv.2 h;cases this)
          have hf:=hfin hC
          clear hzz hv hokk e3 hfin hC
          repeat' first
 | refine AW.seq ?_
 | refine AW.block ?_
 | refine AW.regl NMayNode_ok [0,2,3,5,6,7,42] ?_
 | (refine AW.regq (id:=4) NMayNode_ok follows bb_overdubref20_MayNode_4 (by kernel_rfl) [0,2,3,5,6,7,42] ?_)
 | refine then_n ?_
 | refine then_r ?_
 | refine then_x ?_
 | refine block_x ?_
 | refine block_o (by decide) ?_
 | refine block_n ?_
 | refine block_r ?_
 | refine AW.skip ?_
 | refine AW.ret ?_
 | refine AW.exit ?_
 | refine AW.cond rfl ?_ ?_
 | refine awl_none rfl ?_
 | refine awl_nil2 ?_
 | refine awl_some rfl rfl (Nat.le_of_ble_eq_true rfl) rfl rfl ?_ ?_
 | refine awc_none rfl ?_
 | refine awc_some rfl rfl (Nat.le_of_ble_eq_true rfl) rfl rfl ?_ ?_
 | (refine awc_skip rfl rfl (Nat.le_of_ble_eq_true rfl) rfl rfl ?_;simp only [stU])
 | refine awc_nilq (by kernel_rfl) (by kernel_rfl) ?_
 | (refine fun (hc : _ = _)=>?_;first|cases hc|((try rw [hc]);(try simp only [stH] at hc);(try (exfalso;omega)));(try ((first|show Awl _ _ _ _ _|show Awc _ _ _ _ _ _);simp only [stU])))
 | ((first|refine fun (K : V → List _ → _) hK=>?_|refine fun (_ : V → V)=>?_);simp (disch:=omega) only [go_sem,Int.reduceEq,↓reduceIte,reduceCtorEq,Nat.reduceEqDiff,Nat.reduceLT,Nat.reduceLeDiff,Nat.reduceAdd,Nat.reduceSub,Nat.reduceMul,Int.reduceToNat,Int.reduceLE,Int.reduceLT,NMayNode,Sp_overdubref20_two,Sp_overdubref20_place,stBMayNode,e2,Sg3,St.updIf,ifc_nil,gt_ifc,go_ifc,ite_self,Option.none_or,Option.some_or];(try (revert hK;intro hK;(repeat' first|(refine And.intro ?_ ?_)|(intro hc;first|cases hc|((try rw [hc]);(try simp only [stH] at hc);(try (exfalso;omega)))));all_goals first|(refine hK _ _ ?_;clear hK K;simp only [stU])|exact hK|omega)))
          refine ⟨k + 1,by omega,hf,by omega,nm [],Wk.of ?_⟩
          simp (disch:=omega) only [go_sem,Int.reduceEq,↓reduceIte,reduceCtorEq,Nat.reduceEqDiff,Nat.reduceLT,Nat.reduceLeDiff,Nat.reduceAdd,Nat.reduceSub,Nat.reduceMul,Int.reduceToNat,Int.reduceLE,Int.reduceLT,NMayNode,Sp_overdubref20_two,Sp_overdubref20_place]
          all_goals first|done|rfl|exact ⟨rfl,rfl⟩
    · obtain rfl : k = l.length:=by omega
      have hz:=bMayNode_end l hok
      by_cases h1 : 1 ≤ l.length
      · have d1 : decide (1 ≤ (l.length : Int)) = true:=decide_eq_true (by omega)
        have d2 : decide ((l.length : Int) ≤ 8) = decide (l.length ≤ 8):=by rw [decide_eq_decide];omega
        have d3 : decide (1 ≤ l.length) = true:=decide_eq_true h1
        rw [d3,Bool.true_and] at hz
        repeat' first
 | refine AW.seq ?_
 | refine AW.block ?_
 | refine AW.regl NMayNode_ok [0,2,3,5,6,7,42] ?_
 | (refine AW.regq (id:=4) NMayNode_ok follows bb_overdubref20_MayNode_4 (by kernel_rfl) [0,2,3,5,6,7,42] ?_)
 | refine then_n ?_
 | refine then_r ?_
 | refine then_x ?_
 | refine block_x ?_
 | refine block_o (by decide) ?_
 | refine block_n ?_
 | refine block_r ?_
 | refine AW.skip ?_
 | refine AW.ret ?_
 | refine AW.exit ?_
 | refine AW.cond rfl ?_ ?_
 | refine awl_none rfl ?_
 | refine awl_nil2 ?_
 | refine awl_some rfl rfl (Nat.le_of_ble_eq_true rfl) rfl rfl ?_ ?_
 | refine awc_none rfl ?_
 | refine awc_some rfl rfl (Nat.le_of_ble_eq_true rfl) rfl rfl ?_ ?_
 | (refine awc_skip rfl rfl (Nat.le_of_ble_eq_true rfl) rfl rfl ?_;simp only [stU])
 | refine awc_nilq (by kernel_rfl) (by kernel_rfl) ?_
 | (refine fun (hc : _ = _)=>?_;first|cases hc|((try rw [hc]);(try simp only [stH] at hc);(try (exfalso;omega)));(try ((first|show Awl _ _ _ _ _|show Awc _ _ _ _ _ _);simp only [stU])))
 | ((first|refine fun (K : V → List _ → _) hK=>?_|refine fun (_ : V → V)=>?_);simp (disch:=omega) only [go_sem,Int.reduceEq,↓reduceIte,reduceCtorEq,Nat.reduceEqDiff,Nat.reduceLT,Nat.reduceLeDiff,Nat.reduceAdd,Nat.reduceSub,Nat.reduceMul,Int.reduceToNat,Int.reduceLE,Int.reduceLT,NMayNode,Sp_overdubref20_two,Sp_overdubref20_place,d1,d2,Sg3,St.updIf,ifc_nil,gt_ifc,go_ifc,ite_self,Option.none_or,Option.some_or];(try (revert hK;intro hK;(repeat' first|(refine And.intro ?_ ?_)|(intro hc;first|cases hc|((try rw [hc]);(try simp only [stH] at hc);(try (exfalso;omega)))));all_goals first|(refine hK _ _ ?_;clear hK K;simp only [stU])|exact hK|omega)))
        (refine Ends.of (nm []) (by first|exact .inl rfl|exact .inr rfl) ?_;simp (disch:=omega) only [go_sem,Int.reduceEq,↓reduceIte,reduceCtorEq,Nat.reduceEqDiff,Nat.reduceLT,Nat.reduceLeDiff,Nat.reduceAdd,Nat.reduceSub,Nat.reduceMul,Int.reduceToNat,Int.reduceLE,Int.reduceLT,NMayNode,Sp_overdubref20_two,Sp_overdubref20_place,hz])
      · have d1 : decide (1 ≤ (l.length : Int)) = false:=decide_eq_false (by omega)
        have d3 : decide (1 ≤ l.length) = false:=decide_eq_false h1
        rw [d3,Bool.false_and] at hz
        repeat' first
 | refine AW.seq ?_
 | refine AW.block ?_
 | refine AW.regl NMayNode_ok [0,2,3,5,6,7,42] ?_
 | (refine AW.regq (id:=4) NMayNode_ok follows bb_overdubref20_MayNode_4 (by kernel_rfl) [0,2,3,5,6,7,42] ?_)
 | refine then_n ?_
 | refine then_r ?_
 | refine then_x ?_
 | refine block_x ?_
 | refine block_o (by decide) ?_
 | refine block_n ?_
 | refine block_r ?_
 | refine AW.skip ?_
 | refine AW.ret ?_
 | refine AW.exit ?_
 | refine AW.cond rfl ?_ ?_
 | refine awl_none rfl ?_
 | refine awl_nil2 ?_
 | refine awl_some rfl rfl (Nat.le_of_ble_eq_true rfl) rfl rfl ?_ ?_
 | refine awc_none rfl ?_
 | refine awc_some rfl rfl (Nat.le_of_ble_eq_true rfl) rfl rfl ?_ ?_
 | (refine awc_skip rfl rfl (Nat.le_of_ble_eq_true rfl) rfl rfl ?_;simp only [stU])
 | refine awc_nilq (by kernel_rfl) (by kernel_rfl) ?_
 | (refine fun (hc : _ = _)=>?_;first|cases hc|((try rw [hc]);(try simp only [stH] at hc);(try (exfalso;omega)));(try ((first|show Awl _ _ _ _ _|show Awc _ _ _ _ _ _);simp only [stU])))
 | ((first|refine fun (K : V → List _ → _) hK=>?_|refine fun (_ : V → V)=>?_);simp (disch:=omega) only [go_sem,Int.reduceEq,↓reduceIte,reduceCtorEq,Nat.reduceEqDiff,Nat.reduceLT,Nat.reduceLeDiff,Nat.reduceAdd,Nat.reduceSub,Nat.reduceMul,Int.reduceToNat,Int.reduceLE,Int.reduceLT,NMayNode,Sp_overdubref20_two,Sp_overdubref20_place,d1,Sg3,St.updIf,ifc_nil,gt_ifc,go_ifc,ite_self,Option.none_or,Option.some_or];(try (revert hK;intro hK;(repeat' first|(refine And.intro ?_ ?_)|(intro hc;first|cases hc|((try rw [hc]);(try simp only [stH] at hc);(try (exfalso;omega)))));all_goals first|(refine hK _ _ ?_;clear hK K;simp only [stU])|exact hK|omega)))
        (refine Ends.of (nm []) (by first|exact .inl rfl|exact .inr rfl) ?_;simp (disch:=omega) only [go_sem,Int.reduceEq,↓reduceIte,reduceCtorEq,Nat.reduceEqDiff,Nat.reduceLT,Nat.reduceLeDiff,Nat.reduceAdd,Nat.reduceSub,Nat.reduceMul,Int.reduceToNat,Int.reduceLE,Int.reduceLT,NMayNode,Sp_overdubref20_two,Sp_overdubref20_place,hz])
theorem ent_overdubref20_MayNode : Ent Try.prog 61:=⟨_,Try.func61,rfl,by decide⟩
end Go.Proofs.Ytigkcigoiinkpaa.Am
