import Derived.Test.YtigkcigoiinkpaaZN3
import Derived.Test.YtigkcigoiinkpaaZZA
set_option linter.unusedVariables false
set_option linter.unusedSimpArgs false
set_option maxRecDepth 10000
set_option maxHeartbeats 0
namespace Go.Proofs.Ytigkcigoiinkpaa.Am
open Go Go.RowKit Go.Proofs
noncomputable def N4 : Env:=⟨Try.prog,fun f ds out=>(f = 47 ∧ Sp_node_sector ds out) ∨ (f = 49 ∧ Sp_field_Put ds out) ∨ (f = 48 ∧ Sp_field_Join ds out) ∨ (f = 50 ∧ Sp_node_seal ds out),Es,fun _=>false⟩
theorem N4_sp : ∀ f ds out,N4.Sp f ds out → Ent N4.P f ∧ Good N4.P f (fun a b=>a = ds ∧ b = out):=by
  rintro f ds out (⟨rfl,h⟩|⟨rfl,h⟩|⟨rfl,h⟩|⟨rfl,h⟩)
  · exact ⟨ent_node_sector,good_node_sector.one h⟩
  · exact ⟨ent_field_Put,good_field_Put.one h⟩
  · exact ⟨ent_field_Join,good_field_Join.one h⟩
  · exact ⟨ent_node_seal,good_node_seal.one h⟩
theorem N4_ok : N4.Ok:=⟨N4_sp,Es_ok⟩
def Sp_node_PackDir (ds : List D) (out : Out) : Prop:=∃ l : List Ln,ds = [.list (l.map lD)] ∧ l.length ≤ 9223372036854775807 ∧ out = packDOut l
def stD7 (l : List Ln) (k : Nat) (R : List Int) (a b c : Int) : St:=⟨[(0,.d (.list (l.map lD))),(2,.nil),(3,.d (.v (.bool false))),(4,.sl 100 1 0 (5 * k) true),(5,.d (.v (.int .i64 k))),(6,.ptr 6 0),(10,.d (.list (l.map lD))),(11,.d (.v (.int .i64 l.length))),(12,.d (.v (.int .i64 k)))],[(100,.row 5 1 (R.map mB)),(6,.box [.d (.v (.int .i64 a)),.d (.v (.int .i64 b)),.d (.v (.int .i64 c))])],88⟩
def stD8 (l : List Ln) (k : Nat) (R : List Int) (a b c : Int) (v : Bool) : St:=⟨[(0,.d (.list (l.map lD))),(2,.nil),(3,.d (.v (.bool false))),(4,.sl 100 1 0 (5 * k) true),(6,.ptr 6 0),(10,.d (.list (l.map lD))),(11,.d (.v (.int .i64 l.length))),(12,.d (.v (.int .i64 k))),(69,.d (.v (.bool v)))],[(100,.row 5 1 (R.map mB)),(6,.box [.d (.v (.int .i64 a)),.d (.v (.int .i64 b)),.d (.v (.int .i64 c))])],88⟩
def cD (k : Nat) (q a b c : Int) : Prop:=0 ≤ a ∧ a ≤ 99 ∧ (0 < k → q < a) ∧ 0 ≤ b ∧ b ≤ 1000 ∧ (c ≠ 0 → secN c) ∧ (c = 0 ↔ b = 0)
def bb_node_PackDir_7 : List Nat:=[0,1,3,7,15,31,63,127,255,511,1023,2047,4095,8191,4095,4095,36863,118783,249855,511999,1048575,2097151,4194303,8388607,16777215,33554431,67108863,134217727,268435455,536870911,1073741823,2147483647,4294967295,8589934591,17179869183,34359738367,68719476735,137438953471,274877906943,549755813887,1099511627775,2199023255551,4398046511103,8796093022207,17592186044415,35184372088831,70368744177663,140737488355327,35184372088831,316659348799487,879609302220799,2251799813685247,4503599627370495]
def bb_node_PackDir_9 : List Nat:=[0,0,2,6,0,16,62,0,128,510,1022,2046,4095,8191]
def cc_node_PackDir_9 : List (List (Option Bool)):=[[some false,none,none,none,none,none,none,none,none,none,none,none,some false,some false],[none,some false,some false,some false,none,none,some false,none,none,some false,some false,some false,some false,some false],[none,some true,some false,some false,none,none,some false,none,none,some false,some false,some false,some false,some false],[none,some true,some true,some false,none,none,some false,none,none,some false,some false,some false,some false,some false],[none,none,none,none,some false,some false,some false,none,none,some false,some false,some false,some false,some false],[none,none,none,none,some true,some false,some false,none,none,some false,some false,some false,some false,some false],[none,some true,some true,some true,some true,some true,some false,none,none,some false,some false,some false,some false,some false],[none,none,none,none,none,none,none,some false,some false,some false,some false,some false,some false,some false],[none,none,none,none,none,none,none,some true,some false,some false,some false,some false,some false,some false],[none,some true,some true,some true,some true,some true,some true,some true,some true,some false,some false,some false,some false,some false],[none,some true,some true,some true,some true,some true,some true,some true,some true,some true,some false,some false,some false,some false],[none,some true,some true,some true,some true,some true,some true,some true,some true,some true,some true,some false,some false,some false],[some true,some true,some true,some true,some true,some true,some true,some true,some true,some true,some true,some true,some false,some false],[some true,some true,some true,some true,some true,some true,some true,some true,some true,some true,some true,some true,some true,some false]]
theorem pd_a {l : List Ln} {k : Nat} {R : List Int} {a b c q : Int} (hl : l.length ≤ 9223372036854775807) (hk1 : k < l.length) (e2 : nth (l.map lD) k = .agg [.v (.int .i64 a),.v (.int .i64 b),.v (.int .i64 c)])
    (e3 : 0 < k → ∃ qb qc : Int,nth (l.map lD) ((k : Int) - 1).toNat = .agg [.v (.int .i64 q),.v (.int .i64 qb),.v (.int .i64 qc)]) (h1 : a < 0) {Q : Exit → St → Prop} : AW Try.prog (sub [1,1,1,0,1,0,0,1,1,0,0,1,0,0] (bd Try.f13)) (stD7 l k R a b c) (thenA (midxN (stD8 l k R a b c) fun v=>v = true ↔ ¬ cD k q a b c) Q):=by
  have d1 : decide (a < 0) = true:=decide_eq_true h1
  have e3':=e2
  have hz : ¬ cD k q a b c:=fun h=>by unfold cD at h;omega
  repeat' first
 | refine AW.seq ?_
 | refine AW.block ?_
 | refine AW.regl N4_ok [0,2,3,4,5,6,9,10,11,12,13,69] ?_
 | (refine AW.regq (id:=7) N4_ok follows bb_node_PackDir_7 (by kernel_rfl) [0,2,3,4,5,6,9,10,11,12,13,69] ?_)
 | (refine AW.regc (id:=9) N4_ok follows bb_node_PackDir_9 (by kernel_rfl) [0,2,3,4,5,6,9,10,11,12,13,69] ?_)
 | refine then_n ?_
 | refine then_r ?_
 | refine then_x ?_
 | refine block_x ?_
 | refine block_o (by decide) ?_
 | refine block_n ?_
 | refine block_r ?_
 | refine AW.skip ?_
 | refine AW.ret ?_
 | refine AW.exit ?_
 | refine AW.cond rfl ?_ ?_
 | refine awl_none rfl ?_
 | refine awl_nil2 ?_
 | refine awc_none rfl ?_
 | refine awc_some rfl rfl (Nat.le_of_ble_eq_true rfl) rfl rfl ?_ ?_
 | (refine awc_skip rfl rfl (Nat.le_of_ble_eq_true rfl) rfl rfl ?_;simp only [stU])
 | exact each_nil
 | refine each_none rfl ?_ ?_
 | refine awc_nilq (by kernel_rfl) (by kernel_rfl) ?_
 | refine awc_leaf2 [some 70,some 71,some 72,some 73,some 74,some 75,some 76,some 77,some 78,some 79,some 80,some 81,some 82,some 4] cc_node_PackDir_9 rfl (by kernel_rfl) (by kernel_rfl) ?_ ?_
 | (refine fun (hc : _ = _)=>?_;first|cases hc|((try rw [hc]);(try simp only [stH] at hc);(try (exfalso;omega)));(try ((first|show Awl _ _ _ _ _|show Awc _ _ _ _ _ _);simp only [stU])))
 | ((first|refine fun (K : V → List _ → _) hK=>?_|refine fun (_ : V → V)=>?_|refine fun (bb : Nat → Bool) K hK=>?_);simp (disch:=omega) only [go_sem,Int.reduceEq,↓reduceIte,reduceCtorEq,Nat.reduceEqDiff,Nat.reduceLT,Nat.reduceLeDiff,Nat.reduceAdd,Nat.reduceSub,Nat.reduceMul,Int.reduceToNat,Int.reduceLE,Int.reduceLT,N4,Sp_node_sector,Sp_field_Put,Sp_field_Join,Sp_node_seal,stD7,e2,e3',d1,Sg3,St.updIf,ifc_nil,gt_ifc,go_ifc,ite_self,Option.none_or,Option.some_or];(try (revert hK;intro hK;(repeat' first|(refine And.intro ?_ ?_)|(intro hc;first|cases hc|((try rw [hc]);(try simp only [stH] at hc);(try (exfalso;omega)))));all_goals first|(refine hK _ _ ?_;clear hK K;simp only [stU])|exact hK|omega)))
  refine ⟨true,⟨fun _=>hz,fun _=>rfl⟩,nm [],Wk.of ?_⟩
  simp (disch:=omega) only [go_sem,Int.reduceEq,↓reduceIte,reduceCtorEq,Nat.reduceEqDiff,Nat.reduceLT,Nat.reduceLeDiff,Nat.reduceAdd,Nat.reduceSub,Nat.reduceMul,Int.reduceToNat,Int.reduceLE,Int.reduceLT,N4,Sp_node_sector,Sp_field_Put,Sp_field_Join,Sp_node_seal,stD8]
theorem pd_b {l : List Ln} {k : Nat} {R : List Int} {a b c q : Int} (hl : l.length ≤ 9223372036854775807) (hk1 : k < l.length) (e2 : nth (l.map lD) k = .agg [.v (.int .i64 a),.v (.int .i64 b),.v (.int .i64 c)])
    (e3 : 0 < k → ∃ qb qc : Int,nth (l.map lD) ((k : Int) - 1).toNat = .agg [.v (.int .i64 q),.v (.int .i64 qb),.v (.int .i64 qc)]) (h1 : ¬ a < 0) (h2 : 99 < a) {Q : Exit → St → Prop} : AW Try.prog (sub [1,1,1,0,1,0,0,1,1,0,0,1,0,0] (bd Try.f13)) (stD7 l k R a b c) (thenA (midxN (stD8 l k R a b c) fun v=>v = true ↔ ¬ cD k q a b c) Q):=by
  have d1 : decide (a < 0) = false:=decide_eq_false h1
  have d2 : decide (99 < a) = true:=decide_eq_true h2
  have e3':=e2
  have hz : ¬ cD k q a b c:=fun h=>by unfold cD at h;omega
  repeat' first
 | refine AW.seq ?_
 | refine AW.block ?_
 | refine AW.regl N4_ok [0,2,3,4,5,6,9,10,11,12,13,69] ?_
 | (refine AW.regq (id:=7) N4_ok follows bb_node_PackDir_7 (by kernel_rfl) [0,2,3,4,5,6,9,10,11,12,13,69] ?_)
 | (refine AW.regc (id:=9) N4_ok follows bb_node_PackDir_9 (by kernel_rfl) [0,2,3,4,5,6,9,10,11,12,13,69] ?_)
 | refine then_n ?_
 | refine then_r ?_
 | refine then_x ?_
 | refine block_x ?_
 | refine block_o (by decide) ?_
 | refine block_n ?_
 | refine block_r ?_
 | refine AW.skip ?_
 | refine AW.ret ?_
 | refine AW.exit ?_
 | refine AW.cond rfl ?_ ?_
 | refine awl_none rfl ?_
 | refine awl_nil2 ?_
 | refine awc_none rfl ?_
 | refine awc_some rfl rfl (Nat.le_of_ble_eq_true rfl) rfl rfl ?_ ?_
 | (refine awc_skip rfl rfl (Nat.le_of_ble_eq_true rfl) rfl rfl ?_;simp only [stU])
 | exact each_nil
 | refine each_none rfl ?_ ?_
 | refine awc_nilq (by kernel_rfl) (by kernel_rfl) ?_
 | refine awc_leaf2 [some 70,some 71,some 72,some 73,some 74,some 75,some 76,some 77,some 78,some 79,some 80,some 81,some 82,some 4] cc_node_PackDir_9 rfl (by kernel_rfl) (by kernel_rfl) ?_ ?_
 | (refine fun (hc : _ = _)=>?_;first|cases hc|((try rw [hc]);(try simp only [stH] at hc);(try (exfalso;omega)));(try ((first|show Awl _ _ _ _ _|show Awc _ _ _ _ _ _);simp only [stU])))
 | ((first|refine fun (K : V → List _ → _) hK=>?_|refine fun (_ : V → V)=>?_|refine fun (bb : Nat → Bool) K hK=>?_);simp (disch:=omega) only [go_sem,Int.reduceEq,↓reduceIte,reduceCtorEq,Nat.reduceEqDiff,Nat.reduceLT,Nat.reduceLeDiff,Nat.reduceAdd,Nat.reduceSub,Nat.reduceMul,Int.reduceToNat,Int.reduceLE,Int.reduceLT,N4,Sp_node_sector,Sp_field_Put,Sp_field_Join,Sp_node_seal,stD7,e2,e3',d1,d2,Sg3,St.updIf,ifc_nil,gt_ifc,go_ifc,ite_self,Option.none_or,Option.some_or];(try (revert hK;intro hK;(repeat' first|(refine And.intro ?_ ?_)|(intro hc;first|cases hc|((try rw [hc]);(try simp only [stH] at hc);(try (exfalso;omega)))));all_goals first|(refine hK _ _ ?_;clear hK K;simp only [stU])|exact hK|omega)))
  refine ⟨true,⟨fun _=>hz,fun _=>rfl⟩,nm [],Wk.of ?_⟩
  simp (disch:=omega) only [go_sem,Int.reduceEq,↓reduceIte,reduceCtorEq,Nat.reduceEqDiff,Nat.reduceLT,Nat.reduceLeDiff,Nat.reduceAdd,Nat.reduceSub,Nat.reduceMul,Int.reduceToNat,Int.reduceLE,Int.reduceLT,N4,Sp_node_sector,Sp_field_Put,Sp_field_Join,Sp_node_seal,stD8]
theorem pd_c {l : List Ln} {k : Nat} {R : List Int} {a b c q : Int} (hl : l.length ≤ 9223372036854775807) (hk1 : k < l.length) (e2 : nth (l.map lD) k = .agg [.v (.int .i64 a),.v (.int .i64 b),.v (.int .i64 c)])
    (e3 : 0 < k → ∃ qb qc : Int,nth (l.map lD) ((k : Int) - 1).toNat = .agg [.v (.int .i64 q),.v (.int .i64 qb),.v (.int .i64 qc)]) (h1 : ¬ a < 0) (h2 : ¬ 99 < a) (h3 : 0 < k) (h4 : a ≤ q) {Q : Exit → St → Prop} : AW Try.prog (sub [1,1,1,0,1,0,0,1,1,0,0,1,0,0] (bd Try.f13)) (stD7 l k R a b c) (thenA (midxN (stD8 l k R a b c) fun v=>v = true ↔ ¬ cD k q a b c) Q):=by
  obtain ⟨qb,qc,e3⟩:=e3 h3
  replace e3 : 0 < k → _:=fun _=>e3
  have d1 : decide (a < 0) = false:=decide_eq_false h1
  have d2 : decide (99 < a) = false:=decide_eq_false h2
  have d7 : decide (0 < (k : Int)) = true:=decide_eq_true (by omega)
  have d3 : decide (a ≤ q) = true:=decide_eq_true h4
  have e3':=e3 h3
  have hz : ¬ cD k q a b c:=fun h=>by unfold cD at h;omega
  repeat' first
 | refine AW.seq ?_
 | refine AW.block ?_
 | refine AW.regl N4_ok [0,2,3,4,5,6,9,10,11,12,13,69] ?_
 | (refine AW.regq (id:=7) N4_ok follows bb_node_PackDir_7 (by kernel_rfl) [0,2,3,4,5,6,9,10,11,12,13,69] ?_)
 | (refine AW.regc (id:=9) N4_ok follows bb_node_PackDir_9 (by kernel_rfl) [0,2,3,4,5,6,9,10,11,12,13,69] ?_)
 | refine then_n ?_
 | refine then_r ?_
 | refine then_x ?_
 | refine block_x ?_
 | refine block_o (by decide) ?_
 | refine block_n ?_
 | refine block_r ?_
 | refine AW.skip ?_
 | refine AW.ret ?_
 | refine AW.exit ?_
 | refine AW.cond rfl ?_ ?_
 | refine awl_none rfl ?_
 | refine awl_nil2 ?_
 | refine awc_none rfl ?_
 | refine awc_some rfl rfl (Nat.le_of_ble_eq_true rfl) rfl rfl ?_ ?_
 | (refine awc_skip rfl rfl (Nat.le_of_ble_eq_true rfl) rfl rfl ?_;simp only [stU])
 | exact each_nil
 | refine each_none rfl ?_ ?_
 | refine awc_nilq (by kernel_rfl) (by kernel_rfl) ?_
 | refine awc_leaf2 [some 70,some 71,some 72,some 73,some 74,some 75,some 76,some 77,some 78,some 79,some 80,some 81,some 82,some 4] cc_node_PackDir_9 rfl (by kernel_rfl) (by kernel_rfl) ?_ ?_
 | (refine fun (hc : _ = _)=>?_;first|cases hc|((try rw [hc]);(try simp only [stH] at hc);(try (exfalso;omega)));(try ((first|show Awl _ _ _ _ _|show Awc _ _ _ _ _ _);simp only [stU])))
 | ((first|refine fun (K : V → List _ → _) hK=>?_|refine fun (_ : V → V)=>?_|refine fun (bb : Nat → Bool) K hK=>?_);simp (disch:=omega) only [go_sem,Int.reduceEq,↓reduceIte,reduceCtorEq,Nat.reduceEqDiff,Nat.reduceLT,Nat.reduceLeDiff,Nat.reduceAdd,Nat.reduceSub,Nat.reduceMul,Int.reduceToNat,Int.reduceLE,Int.reduceLT,N4,Sp_node_sector,Sp_field_Put,Sp_field_Join,Sp_node_seal,stD7,e2,e3',d1,d2,d3,d7,Sg3,St.updIf,ifc_nil,gt_ifc,go_ifc,ite_self,Option.none_or,Option.some_or];(try (revert hK;intro hK;(repeat' first|(refine And.intro ?_ ?_)|(intro hc;first|cases hc|((try rw [hc]);(try simp only [stH] at hc);(try (exfalso;omega)))));all_goals first|(refine hK _ _ ?_;clear hK K;simp only [stU])|exact hK|omega)))
  refine ⟨true,⟨fun _=>hz,fun _=>rfl⟩,nm [],Wk.of ?_⟩
  simp (disch:=omega) only [go_sem,Int.reduceEq,↓reduceIte,reduceCtorEq,Nat.reduceEqDiff,Nat.reduceLT,Nat.reduceLeDiff,Nat.reduceAdd,Nat.reduceSub,Nat.reduceMul,Int.reduceToNat,Int.reduceLE,Int.reduceLT,N4,Sp_node_sector,Sp_field_Put,Sp_field_Join,Sp_node_seal,stD8]
theorem pd_d {l : List Ln} {k : Nat} {R : List Int} {a b c q : Int} (hl : l.length ≤ 9223372036854775807) (hk1 : k < l.length) (e2 : nth (l.map lD) k = .agg [.v (.int .i64 a),.v (.int .i64 b),.v (.int .i64 c)])
    (e3 : 0 < k → ∃ qb qc : Int,nth (l.map lD) ((k : Int) - 1).toNat = .agg [.v (.int .i64 q),.v (.int .i64 qb),.v (.int .i64 qc)]) (h1 : ¬ a < 0) (h2 : ¬ 99 < a) (h3 : 0 < k) (h4 : ¬ a ≤ q) {Q : Exit → St → Prop} : AW Try.prog (sub [1,1,1,0,1,0,0,1,1,0,0,1,0,0] (bd Try.f13)) (stD7 l k R a b c) (thenA (midxN (stD8 l k R a b c) fun v=>v = true ↔ ¬ cD k q a b c) Q):=by
  obtain ⟨qb,qc,e3⟩:=e3 h3
  replace e3 : 0 < k → _:=fun _=>e3
  by_cases h21 : b < 0
  · have d1 : decide (a < 0) = false:=decide_eq_false h1
    have d2 : decide (99 < a) = false:=decide_eq_false h2
    have d7 : decide (0 < (k : Int)) = true:=decide_eq_true (by omega)
    have d3 : decide (a ≤ q) = false:=decide_eq_false h4
    have d4 : decide (b < 0) = true:=decide_eq_true h21
    have e3':=e3 h3
    have hz : ¬ cD k q a b c:=fun h=>by unfold cD at h;omega
    repeat' first
 | refine AW.seq ?_
 | refine AW.block ?_
 | refine AW.regl N4_ok [0,2,3,4,5,6,9,10,11,12,13,69] ?_
 | (refine AW.regq (id:=7) N4_ok follows bb_node_PackDir_7 (by kernel_rfl) [0,2,3,4,5,6,9,10,11,12,13,69] ?_)
 | (refine AW.regc (id:=9) N4_ok follows bb_node_PackDir_9 (by kernel_rfl) [0,2,3,4,5,6,9,10,11,12,13,69] ?_)
 | refine then_n ?_
 | refine then_r ?_
 | refine then_x ?_
 | refine block_x ?_
 | refine block_o (by decide) ?_
 | refine block_n ?_
 | refine block_r ?_
 | refine AW.skip ?_
 | refine AW.ret ?_
 | refine AW.exit ?_
 | refine AW.cond rfl ?_ ?_
 | refine awl_none rfl ?_
 | refine awl_nil2 ?_
 | refine awc_none rfl ?_
 | refine awc_some rfl rfl (Nat.le_of_ble_eq_true rfl) rfl rfl ?_ ?_
 | (refine awc_skip rfl rfl (Nat.le_of_ble_eq_true rfl) rfl rfl ?_;simp only [stU])
 | exact each_nil
 | refine each_none rfl ?_ ?_
 | refine awc_nilq (by kernel_rfl) (by kernel_rfl) ?_
 | refine awc_leaf2 [some 70,some 71,some 72,some 73,some 74,some 75,some 76,some 77,some 78,some 79,some 80,some 81,some 82,some 4] cc_node_PackDir_9 rfl (by kernel_rfl) (by kernel_rfl) ?_ ?_
 | (refine fun (hc : _ = _)=>?_;first|cases hc|((try rw [hc]);(try simp only [stH] at hc);(try (exfalso;omega)));(try ((first|show Awl _ _ _ _ _|show Awc _ _ _ _ _ _);simp only [stU])))
 | ((first|refine fun (K : V → List _ → _) hK=>?_|refine fun (_ : V → V)=>?_|refine fun (bb : Nat → Bool) K hK=>?_);simp (disch:=omega) only [go_sem,Int.reduceEq,↓reduceIte,reduceCtorEq,Nat.reduceEqDiff,Nat.reduceLT,Nat.reduceLeDiff,Nat.reduceAdd,Nat.reduceSub,Nat.reduceMul,Int.reduceToNat,Int.reduceLE,Int.reduceLT,N4,Sp_node_sector,Sp_field_Put,Sp_field_Join,Sp_node_seal,stD7,e2,e3',d1,d2,d3,d4,d7,Sg3,St.updIf,ifc_nil,gt_ifc,go_ifc,ite_self,Option.none_or,Option.some_or];(try (revert hK;intro hK;(repeat' first|(refine And.intro ?_ ?_)|(intro hc;first|cases hc|((try rw [hc]);(try simp only [stH] at hc);(try (exfalso;omega)))));all_goals first|(refine hK _ _ ?_;clear hK K;simp only [stU])|exact hK|omega)))
    refine ⟨true,⟨fun _=>hz,fun _=>rfl⟩,nm [],Wk.of ?_⟩
    simp (disch:=omega) only [go_sem,Int.reduceEq,↓reduceIte,reduceCtorEq,Nat.reduceEqDiff,Nat.reduceLT,Nat.reduceLeDiff,Nat.reduceAdd,Nat.reduceSub,Nat.reduceMul,Int.reduceToNat,Int.reduceLE,Int.reduceLT,N4,Sp_node_sector,Sp_field_Put,Sp_field_Join,Sp_node_seal,stD8]
  · by_cases h22 : 1000 < b
    · have d1 : decide (a < 0) = false:=decide_eq_false h1
      have d2 : decide (99 < a) = false:=decide_eq_false h2
      have d7 : decide (0 < (k : Int)) = true:=decide_eq_true (by omega)
      have d3 : decide (a ≤ q) = false:=decide_eq_false h4
      have d4 : decide (b < 0) = false:=decide_eq_false h21
      have d5 : decide (1000 < b) = true:=decide_eq_true h22
      have e3':=e3 h3
      have hz : ¬ cD k q a b c:=fun h=>by unfold cD at h;omega
      repeat' first
 | refine AW.seq ?_
 | refine AW.block ?_
 | refine AW.regl N4_ok [0,2,3,4,5,6,9,10,11,12,13,69] ?_
 | (refine AW.regq (id:=7) N4_ok follows bb_node_PackDir_7 (by kernel_rfl) [0,2,3,4,5,6,9,10,11,12,13,69] ?_)
 | (refine AW.regc (id:=9) N4_ok follows bb_node_PackDir_9 (by kernel_rfl) [0,2,3,4,5,6,9,10,11,12,13,69] ?_)
 | refine then_n ?_
 | refine then_r ?_
 | refine then_x ?_
 | refine block_x ?_
 | refine block_o (by decide) ?_
 | refine block_n ?_
 | refine block_r ?_
 | refine AW.skip ?_
 | refine AW.ret ?_
 | refine AW.exit ?_
 | refine AW.cond rfl ?_ ?_
 | refine awl_none rfl ?_
 | refine awl_nil2 ?_
 | refine awc_none rfl ?_
 | refine awc_some rfl rfl (Nat.le_of_ble_eq_true rfl) rfl rfl ?_ ?_
 | (refine awc_skip rfl rfl (Nat.le_of_ble_eq_true rfl) rfl rfl ?_;simp only [stU])
 | exact each_nil
 | refine each_none rfl ?_ ?_
 | refine awc_nilq (by kernel_rfl) (by kernel_rfl) ?_
 | refine awc_leaf2 [some 70,some 71,some 72,some 73,some 74,some 75,some 76,some 77,some 78,some 79,some 80,some 81,some 82,some 4] cc_node_PackDir_9 rfl (by kernel_rfl) (by kernel_rfl) ?_ ?_
 | (refine fun (hc : _ = _)=>?_;first|cases hc|((try rw [hc]);(try simp only [stH] at hc);(try (exfalso;omega)));(try ((first|show Awl _ _ _ _ _|show Awc _ _ _ _ _ _);simp only [stU])))
 | ((first|refine fun (K : V → List _ → _) hK=>?_|refine fun (_ : V → V)=>?_|refine fun (bb : Nat → Bool) K hK=>?_);simp (disch:=omega) only [go_sem,Int.reduceEq,↓reduceIte,reduceCtorEq,Nat.reduceEqDiff,Nat.reduceLT,Nat.reduceLeDiff,Nat.reduceAdd,Nat.reduceSub,Nat.reduceMul,Int.reduceToNat,Int.reduceLE,Int.reduceLT,N4,Sp_node_sector,Sp_field_Put,Sp_field_Join,Sp_node_seal,stD7,e2,e3',d1,d2,d3,d4,d5,d7,Sg3,St.updIf,ifc_nil,gt_ifc,go_ifc,ite_self,Option.none_or,Option.some_or];(try (revert hK;intro hK;(repeat' first|(refine And.intro ?_ ?_)|(intro hc;first|cases hc|((try rw [hc]);(try simp only [stH] at hc);(try (exfalso;omega)))));all_goals first|(refine hK _ _ ?_;clear hK K;simp only [stU])|exact hK|omega)))
      refine ⟨true,⟨fun _=>hz,fun _=>rfl⟩,nm [],Wk.of ?_⟩
      simp (disch:=omega) only [go_sem,Int.reduceEq,↓reduceIte,reduceCtorEq,Nat.reduceEqDiff,Nat.reduceLT,Nat.reduceLeDiff,Nat.reduceAdd,Nat.reduceSub,Nat.reduceMul,Int.reduceToNat,Int.reduceLE,Int.reduceLT,N4,Sp_node_sector,Sp_field_Put,Sp_field_Join,Sp_node_seal,stD8]
    · by_cases h23 : c = 0
      · by_cases h24 : b = 0
        · have d1 : decide (a < 0) = false:=decide_eq_false h1
          have d2 : decide (99 < a) = false:=decide_eq_false h2
          have d7 : decide (0 < (k : Int)) = true:=decide_eq_true (by omega)
          have d3 : decide (a ≤ q) = false:=decide_eq_false h4
          have d4 : decide (b < 0) = false:=decide_eq_false h21
          have d5 : decide (1000 < b) = false:=decide_eq_false h22
          have d8 : decide (c = 0) = true:=decide_eq_true h23
          have d9 : decide (b = 0) = true:=decide_eq_true h24
          have e3':=e3 h3
          have hz : cD k q a b c:=⟨by omega,by omega,fun h=>by omega,by omega,by omega,fun h=>absurd h23 h,by omega⟩
          repeat' first
 | refine AW.seq ?_
 | refine AW.block ?_
 | refine AW.regl N4_ok [0,2,3,4,5,6,9,10,11,12,13,69] ?_
 | (refine AW.regq (id:=7) N4_ok follows bb_node_PackDir_7 (by kernel_rfl) [0,2,3,4,5,6,9,10,11,12,13,69] ?_)
 | (refine AW.regc (id:=9) N4_ok follows bb_node_PackDir_9 (by kernel_rfl) [0,2,3,4,5,6,9,10,11,12,13,69] ?_)
 | refine then_n ?_
 | refine then_r ?_
 | refine then_x ?_
 | refine block_x ?_
 | refine block_o (by decide) ?_
 | refine block_n ?_
 | refine block_r ?_
 | refine AW.skip ?_
 | refine AW.ret ?_
 | refine AW.exit ?_
 | refine AW.cond rfl ?_ ?_
 | refine awl_none rfl ?_
 | refine awl_nil2 ?_
 | refine awc_none rfl ?_
 | refine awc_some rfl rfl (Nat.le_of_ble_eq_true rfl) rfl rfl ?_ ?_
 | (refine awc_skip rfl rfl (Nat.le_of_ble_eq_true rfl) rfl rfl ?_;simp only [stU])
 | exact each_nil
 | refine each_none rfl ?_ ?_
 | refine awc_nilq (by kernel_rfl) (by kernel_rfl) ?_
 | refine awc_leaf2 [some 70,some 71,some 72,some 73,some 74,some 75,some 76,some 77,some 78,some 79,some 80,some 81,some 82,some 4] cc_node_PackDir_9 rfl (by kernel_rfl) (by kernel_rfl) ?_ ?_
 | (refine fun (hc : _ = _)=>?_;first|cases hc|((try rw [hc]);(try simp only [stH] at hc);(try (exfalso;omega)));(try ((first|show Awl _ _ _ _ _|show Awc _ _ _ _ _ _);simp only [stU])))
 | ((first|refine fun (K : V → List _ → _) hK=>?_|refine fun (_ : V → V)=>?_|refine fun (bb : Nat → Bool) K hK=>?_);simp (disch:=omega) only [go_sem,Int.reduceEq,↓reduceIte,reduceCtorEq,Nat.reduceEqDiff,Nat.reduceLT,Nat.reduceLeDiff,Nat.reduceAdd,Nat.reduceSub,Nat.reduceMul,Int.reduceToNat,Int.reduceLE,Int.reduceLT,N4,Sp_node_sector,Sp_field_Put,Sp_field_Join,Sp_node_seal,stD7,e2,e3',d1,d2,d3,d4,d5,d7,d8,d9,Sg3,St.updIf,ifc_nil,gt_ifc,go_ifc,ite_self,Option.none_or,Option.some_or];(try (revert hK;intro hK;(repeat' first|(refine And.intro ?_ ?_)|(intro hc;first|cases hc|((try rw [hc]);(try simp only [stH] at hc);(try (exfalso;omega)))));all_goals first|(refine hK _ _ ?_;clear hK K;simp only [stU])|exact hK|omega)))
          refine ⟨false,⟨fun h=>(by cases h),fun h=>absurd hz h⟩,nm [],Wk.of ?_⟩
          simp (disch:=omega) only [go_sem,Int.reduceEq,↓reduceIte,reduceCtorEq,Nat.reduceEqDiff,Nat.reduceLT,Nat.reduceLeDiff,Nat.reduceAdd,Nat.reduceSub,Nat.reduceMul,Int.reduceToNat,Int.reduceLE,Int.reduceLT,N4,Sp_node_sector,Sp_field_Put,Sp_field_Join,Sp_node_seal,stD8]
        · have d1 : decide (a < 0) = false:=decide_eq_false h1
          have d2 : decide (99 < a) = false:=decide_eq_false h2
          have d7 : decide (0 < (k : Int)) = true:=decide_eq_true (by omega)
          have d3 : decide (a ≤ q) = false:=decide_eq_false h4
          have d4 : decide (b < 0) = false:=decide_eq_false h21
          have d5 : decide (1000 < b) = false:=decide_eq_false h22
          have d8 : decide (c = 0) = true:=decide_eq_true h23
          have d9 : decide (b = 0) = false:=decide_eq_false h24
          have e3':=e3 h3
          have hz : ¬ cD k q a b c:=fun h=>by unfold cD at h;omega
          repeat' first
 | refine AW.seq ?_
 | refine AW.block ?_
 | refine AW.regl N4_ok [0,2,3,4,5,6,9,10,11,12,13,69] ?_
 | (refine AW.regq (id:=7) N4_ok follows bb_node_PackDir_7 (by kernel_rfl) [0,2,3,4,5,6,9,10,11,12,13,69] ?_)
 | (refine AW.regc (id:=9) N4_ok follows bb_node_PackDir_9 (by kernel_rfl) [0,2,3,4,5,6,9,10,11,12,13,69] ?_)
 | refine then_n ?_
 | refine then_r ?_
 | refine then_x ?_
 | refine block_x ?_
 | refine block_o (by decide) ?_
 | refine block_n ?_
 | refine block_r ?_
 | refine AW.skip ?_
 | refine AW.ret ?_
 | refine AW.exit ?_
 | refine AW.cond rfl ?_ ?_
 | refine awl_none rfl ?_
 | refine awl_nil2 ?_
 | refine awc_none rfl ?_
 | refine awc_some rfl rfl (Nat.le_of_ble_eq_true rfl) rfl rfl ?_ ?_
 | (refine awc_skip rfl rfl (Nat.le_of_ble_eq_true rfl) rfl rfl ?_;simp only [stU])
 | exact each_nil
 | refine each_none rfl ?_ ?_
 | refine awc_nilq (by kernel_rfl) (by kernel_rfl) ?_
 | refine awc_leaf2 [some 70,some 71,some 72,some 73,some 74,some 75,some 76,some 77,some 78,some 79,some 80,some 81,some 82,some 4] cc_node_PackDir_9 rfl (by kernel_rfl) (by kernel_rfl) ?_ ?_
 | (refine fun (hc : _ = _)=>?_;first|cases hc|((try rw [hc]);(try simp only [stH] at hc);(try (exfalso;omega)));(try ((first|show Awl _ _ _ _ _|show Awc _ _ _ _ _ _);simp only [stU])))
 | ((first|refine fun (K : V → List _ → _) hK=>?_|refine fun (_ : V → V)=>?_|refine fun (bb : Nat → Bool) K hK=>?_);simp (disch:=omega) only [go_sem,Int.reduceEq,↓reduceIte,reduceCtorEq,Nat.reduceEqDiff,Nat.reduceLT,Nat.reduceLeDiff,Nat.reduceAdd,Nat.reduceSub,Nat.reduceMul,Int.reduceToNat,Int.reduceLE,Int.reduceLT,N4,Sp_node_sector,Sp_field_Put,Sp_field_Join,Sp_node_seal,stD7,e2,e3',d1,d2,d3,d4,d5,d7,d8,d9,Sg3,St.updIf,ifc_nil,gt_ifc,go_ifc,ite_self,Option.none_or,Option.some_or];(try (revert hK;intro hK;(repeat' first|(refine And.intro ?_ ?_)|(intro hc;first|cases hc|((try rw [hc]);(try simp only [stH] at hc);(try (exfalso;omega)))));all_goals first|(refine hK _ _ ?_;clear hK K;simp only [stU])|exact hK|omega)))
          refine ⟨true,⟨fun _=>hz,fun _=>rfl⟩,nm [],Wk.of ?_⟩
          simp (disch:=omega) only [go_sem,Int.reduceEq,↓reduceIte,reduceCtorEq,Nat.reduceEqDiff,Nat.reduceLT,Nat.reduceLeDiff,Nat.reduceAdd,Nat.reduceSub,Nat.reduceMul,Int.reduceToNat,Int.reduceLE,Int.reduceLT,N4,Sp_node_sector,Sp_field_Put,Sp_field_Join,Sp_node_seal,stD8]
      · by_cases h25 : secN c
        · by_cases h26 : b = 0
          · have d1 : decide (a < 0) = false:=decide_eq_false h1
            have d2 : decide (99 < a) = false:=decide_eq_false h2
            have d7 : decide (0 < (k : Int)) = true:=decide_eq_true (by omega)
            have d3 : decide (a ≤ q) = false:=decide_eq_false h4
            have d4 : decide (b < 0) = false:=decide_eq_false h21
            have d5 : decide (1000 < b) = false:=decide_eq_false h22
            have d8 : decide (c = 0) = false:=decide_eq_false h23
            have d6 : decide (secN c) = true:=decide_eq_true h25
            have d9 : decide (b = 0) = true:=decide_eq_true h26
            have e3':=e3 h3
            have hz : ¬ cD k q a b c:=fun h=>by unfold cD at h;omega
            repeat' first
 | refine AW.seq ?_
 | refine AW.block ?_
 | refine AW.regl N4_ok [0,2,3,4,5,6,9,10,11,12,13,69] ?_
 | (refine AW.regq (id:=7) N4_ok follows bb_node_PackDir_7 (by kernel_rfl) [0,2,3,4,5,6,9,10,11,12,13,69] ?_)
 | (refine AW.regc (id:=9) N4_ok follows bb_node_PackDir_9 (by kernel_rfl) [0,2,3,4,5,6,9,10,11,12,13,69] ?_)
 | refine then_n ?_
 | refine then_r ?_
 | refine then_x ?_
 | refine block_x ?_
 | refine block_o (by decide) ?_
 | refine block_n ?_
 | refine block_r ?_
 | refine AW.skip ?_
 | refine AW.ret ?_
 | refine AW.exit ?_
 | refine AW.cond rfl ?_ ?_
 | refine awl_none rfl ?_
 | refine awl_nil2 ?_
 | refine awc_none rfl ?_
 | refine awc_some rfl rfl (Nat.le_of_ble_eq_true rfl) rfl rfl ?_ ?_
 | (refine awc_skip rfl rfl (Nat.le_of_ble_eq_true rfl) rfl rfl ?_;simp only [stU])
 | exact each_nil
 | refine each_none rfl ?_ ?_
 | refine awc_nilq (by kernel_rfl) (by kernel_rfl) ?_
 | refine awc_leaf2 [some 70,some 71,some 72,some 73,some 74,some 75,some 76,some 77,some 78,some 79,some 80,some 81,some 82,some 4] cc_node_PackDir_9 rfl (by kernel_rfl) (by kernel_rfl) ?_ ?_
 | (refine fun (hc : _ = _)=>?_;first|cases hc|((try rw [hc]);(try simp only [stH] at hc);(try (exfalso;omega)));(try ((first|show Awl _ _ _ _ _|show Awc _ _ _ _ _ _);simp only [stU])))
 | ((first|refine fun (K : V → List _ → _) hK=>?_|refine fun (_ : V → V)=>?_|refine fun (bb : Nat → Bool) K hK=>?_);simp (disch:=omega) only [go_sem,Int.reduceEq,↓reduceIte,reduceCtorEq,Nat.reduceEqDiff,Nat.reduceLT,Nat.reduceLeDiff,Nat.reduceAdd,Nat.reduceSub,Nat.reduceMul,Int.reduceToNat,Int.reduceLE,Int.reduceLT,N4,Sp_node_sector,Sp_field_Put,Sp_field_Join,Sp_node_seal,stD7,e2,e3',d1,d2,d3,d4,d5,d6,d7,d8,d9,Sg3,St.updIf,ifc_nil,gt_ifc,go_ifc,ite_self,Option.none_or,Option.some_or];(try (revert hK;intro hK;(repeat' first|(refine And.intro ?_ ?_)|(intro hc;first|cases hc|((try rw [hc]);(try simp only [stH] at hc);(try (exfalso;omega)))));all_goals first|(refine hK _ _ ?_;clear hK K;simp only [stU])|exact hK|omega)))
            refine ⟨true,⟨fun _=>hz,fun _=>rfl⟩,nm [],Wk.of ?_⟩
            simp (disch:=omega) only [go_sem,Int.reduceEq,↓reduceIte,reduceCtorEq,Nat.reduceEqDiff,Nat.reduceLT,Nat.reduceLeDiff,Nat.reduceAdd,Nat.reduceSub,Nat.reduceMul,Int.reduceToNat,Int.reduceLE,Int.reduceLT,N4,Sp_node_sector,Sp_field_Put,Sp_field_Join,Sp_node_seal,stD8]
          · have d1 : decide (a < 0) = false:=decide_eq_false h1
            have d2 : decide (99 < a) = false:=decide_eq_false h2
            have d7 : decide (0 < (k : Int)) = true:=decide_eq_true (by omega)
            have d3 : decide (a ≤ q) = false:=decide_eq_false h4
            have d4 : decide (b < 0) = false:=decide_eq_false h21
            have d5 : decide (1000 < b) = false:=decide_eq_false h22
            have d8 : decide (c = 0) = false:=decide_eq_false h23
            have d6 : decide (secN c) = true:=decide_eq_true h25
            have d9 : decide (b = 0) = false:=decide_eq_false h26
            have e3':=e3 h3
            have hz : cD k q a b c:=⟨by omega,by omega,fun h=>by omega,by omega,by omega,fun _=>h25,by omega⟩
            repeat' first
 | refine AW.seq ?_
 | refine AW.block ?_
 | refine AW.regl N4_ok [0,2,3,4,5,6,9,10,11,12,13,69] ?_
 | (refine AW.regq (id:=7) N4_ok follows bb_node_PackDir_7 (by kernel_rfl) [0,2,3,4,5,6,9,10,11,12,13,69] ?_)
 | (refine AW.regc (id:=9) N4_ok follows bb_node_PackDir_9 (by kernel_rfl) [0,2,3,4,5,6,9,10,11,12,13,69] ?_)
 | refine then_n ?_
 | refine then_r ?_
 | refine then_x ?_
 | refine block_x ?_
 | refine block_o (by decide) ?_
 | refine block_n ?_
 | refine block_r ?_
 | refine AW.skip ?_
 | refine AW.ret ?_
 | refine AW.exit ?_
 | refine AW.cond rfl ?_ ?_
 | refine awl_none rfl ?_
 | refine awl_nil2 ?_
 | refine awc_none rfl ?_
 | refine awc_some rfl rfl (Nat.le_of_ble_eq_true rfl) rfl rfl ?_ ?_
 | (refine awc_skip rfl rfl (Nat.le_of_ble_eq_true rfl) rfl rfl ?_;simp only [stU])
 | exact each_nil
 | refine each_none rfl ?_ ?_
 | refine awc_nilq (by kernel_rfl) (by kernel_rfl) ?_
 | refine awc_leaf2 [some 70,some 71,some 72,some 73,some 74,some 75,some 76,some 77,some 78,some 79,some 80,some 81,some 82,some 4] cc_node_PackDir_9 rfl (by kernel_rfl) (by kernel_rfl) ?_ ?_
 | (refine fun (hc : _ = _)=>?_;first|cases hc|((try rw [hc]);(try simp only [stH] at hc);(try (exfalso;omega)));(try ((first|show Awl _ _ _ _ _|show Awc _ _ _ _ _ _);simp only [stU])))
 | ((first|refine fun (K : V → List _ → _) hK=>?_|refine fun (_ : V → V)=>?_|refine fun (bb : Nat → Bool) K hK=>?_);simp (disch:=omega) only [go_sem,Int.reduceEq,↓reduceIte,reduceCtorEq,Nat.reduceEqDiff,Nat.reduceLT,Nat.reduceLeDiff,Nat.reduceAdd,Nat.reduceSub,Nat.reduceMul,Int.reduceToNat,Int.reduceLE,Int.reduceLT,N4,Sp_node_sector,Sp_field_Put,Sp_field_Join,Sp_node_seal,stD7,e2,e3',d1,d2,d3,d4,d5,d6,d7,d8,d9,Sg3,St.updIf,ifc_nil,gt_ifc,go_ifc,ite_self,Option.none_or,Option.some_or];(try (revert hK;intro hK;(repeat' first|(refine And.intro ?_ ?_)|(intro hc;first|cases hc|((try rw [hc]);(try simp only [stH] at hc);(try (exfalso;omega)))));all_goals first|(refine hK _ _ ?_;clear hK K;simp only [stU])|exact hK|omega)))
            refine ⟨false,⟨fun h=>(by cases h),fun h=>absurd hz h⟩,nm [],Wk.of ?_⟩
            simp (disch:=omega) only [go_sem,Int.reduceEq,↓reduceIte,reduceCtorEq,Nat.reduceEqDiff,Nat.reduceLT,Nat.reduceLeDiff,Nat.reduceAdd,Nat.reduceSub,Nat.reduceMul,Int.reduceToNat,Int.reduceLE,Int.reduceLT,N4,Sp_node_sector,Sp_field_Put,Sp_field_Join,Sp_node_seal,stD8]
        · have d1 : decide (a < 0) = false:=decide_eq_false h1
          have d2 : decide (99 < a) = false:=decide_eq_false h2
          have d7 : decide (0 < (k : Int)) = true:=decide_eq_true (by omega)
          have d3 : decide (a ≤ q) = false:=decide_eq_false h4
          have d4 : decide (b < 0) = false:=decide_eq_false h21
          have d5 : decide (1000 < b) = false:=decide_eq_false h22
          have d8 : decide (c = 0) = false:=decide_eq_false h23
          have d6 : decide (secN c) = false:=decide_eq_false h25
          have e3':=e3 h3
          have hz : ¬ cD k q a b c:=fun h=>h25 (h.2.2.2.2.2.1 h23)
          repeat' first
 | refine AW.seq ?_
 | refine AW.block ?_
 | refine AW.regl N4_ok [0,2,3,4,5,6,9,10,11,12,13,69] ?_
 | (refine AW.regq (id:=7) N4_ok follows bb_node_PackDir_7 (by kernel_rfl) [0,2,3,4,5,6,9,10,11,12,13,69] ?_)
 | (refine AW.regc (id:=9) N4_ok follows bb_node_PackDir_9 (by kernel_rfl) [0,2,3,4,5,6,9,10,11,12,13,69] ?_)
 | refine then_n ?_
 | refine then_r ?_
 | refine then_x ?_
 | refine block_x ?_
 | refine block_o (by decide) ?_
 | refine block_n ?_
 | refine block_r ?_
 | refine AW.skip ?_
 | refine AW.ret ?_
 | refine AW.exit ?_
 | refine AW.cond rfl ?_ ?_
 | refine awl_none rfl ?_
 | refine awl_nil2 ?_
 | refine awc_none rfl ?_
 | refine awc_some rfl rfl (Nat.le_of_ble_eq_true rfl) rfl rfl ?_ ?_
 | (refine awc_skip rfl rfl (Nat.le_of_ble_eq_true rfl) rfl rfl ?_;simp only [stU])
 | exact each_nil
 | refine each_none rfl ?_ ?_
 | refine awc_nilq (by kernel_rfl) (by kernel_rfl) ?_
 | refine awc_leaf2 [some 70,some 71,some 72,some 73,some 74,some 75,some 76,some 77,some 78,some 79,some 80,some 81,some 82,some 4] cc_node_PackDir_9 rfl (by kernel_rfl) (by kernel_rfl) ?_ ?_
 | (refine fun (hc : _ = _)=>?_;first|cases hc|((try rw [hc]);(try simp only [stH] at hc);(try (exfalso;omega)));(try ((first|show Awl _ _ _ _ _|show Awc _ _ _ _ _ _);simp only [stU])))
 | ((first|refine fun (K : V → List _ → _) hK=>?_|refine fun (_ : V → V)=>?_|refine fun (bb : Nat → Bool) K hK=>?_);simp (disch:=omega) only [go_sem,Int.reduceEq,↓reduceIte,reduceCtorEq,Nat.reduceEqDiff,Nat.reduceLT,Nat.reduceLeDiff,Nat.reduceAdd,Nat.reduceSub,Nat.reduceMul,Int.reduceToNat,Int.reduceLE,Int.reduceLT,N4,Sp_node_sector,Sp_field_Put,Sp_field_Join,Sp_node_seal,stD7,e2,e3',d1,d2,d3,d4,d5,d6,d7,d8,Sg3,St.updIf,ifc_nil,gt_ifc,go_ifc,ite_self,Option.none_or,Option.some_or];(try (revert hK;intro hK;(repeat' first|(refine And.intro ?_ ?_)|(intro hc;first|cases hc|((try rw [hc]);(try simp only [stH] at hc);(try (exfalso;omega)))));all_goals first|(refine hK _ _ ?_;clear hK K;simp only [stU])|exact hK|omega)))
          refine ⟨true,⟨fun _=>hz,fun _=>rfl⟩,nm [],Wk.of ?_⟩
          simp (disch:=omega) only [go_sem,Int.reduceEq,↓reduceIte,reduceCtorEq,Nat.reduceEqDiff,Nat.reduceLT,Nat.reduceLeDiff,Nat.reduceAdd,Nat.reduceSub,Nat.reduceMul,Int.reduceToNat,Int.reduceLE,Int.reduceLT,N4,Sp_node_sector,Sp_field_Put,Sp_field_Join,Sp_node_seal,stD8]
theorem pd_e {l : List Ln} {k : Nat} {R : List Int} {a b c q : Int} (hl : l.length ≤ 9223372036854775807) (hk1 : k < l.length) (e2 : nth (l.map lD) k = .agg [.v (.int .i64 a),.v (.int .i64 b),.v (.int .i64 c)])
    (e3 : 0 < k → ∃ qb qc : Int,nth (l.map lD) ((k : Int) - 1).toNat = .agg [.v (.int .i64 q),.v (.int .i64 qb),.v (.int .i64 qc)]) (h1 : ¬ a < 0) (h2 : ¬ 99 < a) (h3 : ¬ 0 < k) {Q : Exit → St → Prop} : AW Try.prog (sub [1,1,1,0,1,0,0,1,1,0,0,1,0,0] (bd Try.f13)) (stD7 l k R a b c) (thenA (midxN (stD8 l k R a b c) fun v=>v = true ↔ ¬ cD k q a b c) Q):=by
  by_cases h11 : b < 0
  · have d1 : decide (a < 0) = false:=decide_eq_false h1
    have d2 : decide (99 < a) = false:=decide_eq_false h2
    have d7 : decide (0 < (k : Int)) = false:=decide_eq_false (by omega)
    have d4 : decide (b < 0) = true:=decide_eq_true h11
    have e3':=e2
    have hz : ¬ cD k q a b c:=fun h=>by unfold cD at h;omega
    repeat' first
 | refine AW.seq ?_
 | refine AW.block ?_
 | refine AW.regl N4_ok [0,2,3,4,5,6,9,10,11,12,13,69] ?_
 | (refine AW.regq (id:=7) N4_ok follows bb_node_PackDir_7 (by kernel_rfl) [0,2,3,4,5,6,9,10,11,12,13,69] ?_)
 | (refine AW.regc (id:=9) N4_ok follows bb_node_PackDir_9 (by kernel_rfl) [0,2,3,4,5,6,9,10,11,12,13,69] ?_)
 | refine then_n ?_
 | refine then_r ?_
 | refine then_x ?_
 | refine block_x ?_
 | refine block_o (by decide) ?_
 | refine block_n ?_
 | refine block_r ?_
 | refine AW.skip ?_
 | refine AW.ret ?_
 | refine AW.exit ?_
 | refine AW.cond rfl ?_ ?_
 | refine awl_none rfl ?_
 | refine awl_nil2 ?_
 | refine awc_none rfl ?_
 | refine awc_some rfl rfl (Nat.le_of_ble_eq_true rfl) rfl rfl ?_ ?_
 | (refine awc_skip rfl rfl (Nat.le_of_ble_eq_true rfl) rfl rfl ?_;simp only [stU])
 | exact each_nil
 | refine each_none rfl ?_ ?_
 | refine awc_nilq (by kernel_rfl) (by kernel_rfl) ?_
 | refine awc_leaf2 [some 70,some 71,some 72,some 73,some 74,some 75,some 76,some 77,some 78,some 79,some 80,some 81,some 82,some 4] cc_node_PackDir_9 rfl (by kernel_rfl) (by kernel_rfl) ?_ ?_
 | (refine fun (hc : _ = _)=>?_;first|cases hc|((try rw [hc]);(try simp only [stH] at hc);(try (exfalso;omega)));(try ((first|show Awl _ _ _ _ _|show Awc _ _ _ _ _ _);simp only [stU])))
 | ((first|refine fun (K : V → List _ → _) hK=>?_|refine fun (_ : V → V)=>?_|refine fun (bb : Nat → Bool) K hK=>?_);simp (disch:=omega) only [go_sem,Int.reduceEq,↓reduceIte,reduceCtorEq,Nat.reduceEqDiff,Nat.reduceLT,Nat.reduceLeDiff,Nat.reduceAdd,Nat.reduceSub,Nat.reduceMul,Int.reduceToNat,Int.reduceLE,Int.reduceLT,N4,Sp_node_sector,Sp_field_Put,Sp_field_Join,Sp_node_seal,stD7,e2,e3',d1,d2,d4,d7,Sg3,St.updIf,ifc_nil,gt_ifc,go_ifc,ite_self,Option.none_or,Option.some_or];(try (revert hK;intro hK;(repeat' first|(refine And.intro ?_ ?_)|(intro hc;first|cases hc|((try rw [hc]);(try simp only [stH] at hc);(try (exfalso;omega)))));all_goals first|(refine hK _ _ ?_;clear hK K;simp only [stU])|exact hK|omega)))
    refine ⟨true,⟨fun _=>hz,fun _=>rfl⟩,nm [],Wk.of ?_⟩
    simp (disch:=omega) only [go_sem,Int.reduceEq,↓reduceIte,reduceCtorEq,Nat.reduceEqDiff,Nat.reduceLT,Nat.reduceLeDiff,Nat.reduceAdd,Nat.reduceSub,Nat.reduceMul,Int.reduceToNat,Int.reduceLE,Int.reduceLT,N4,Sp_node_sector,Sp_field_Put,Sp_field_Join,Sp_node_seal,stD8]
  · by_cases h12 : 1000 < b
    · have d1 : decide (a < 0) = false:=decide_eq_false h1
      have d2 : decide (99 < a) = false:=decide_eq_false h2
      have d7 : decide (0 < (k : Int)) = false:=decide_eq_false (by omega)
      have d4 : decide (b < 0) = false:=decide_eq_false h11
      have d5 : decide (1000 < b) = true:=decide_eq_true h12
      have e3':=e2
      have hz : ¬ cD k q a b c:=fun h=>by unfold cD at h;omega
      repeat' first
 | refine AW.seq ?_
 | refine AW.block ?_
 | refine AW.regl N4_ok [0,2,3,4,5,6,9,10,11,12,13,69] ?_
 | (refine AW.regq (id:=7) N4_ok follows bb_node_PackDir_7 (by kernel_rfl) [0,2,3,4,5,6,9,10,11,12,13,69] ?_)
 | (refine AW.regc (id:=9) N4_ok follows bb_node_PackDir_9 (by kernel_rfl) [0,2,3,4,5,6,9,10,11,12,13,69] ?_)
 | refine then_n ?_
 | refine then_r ?_
 | refine then_x ?_
 | refine block_x ?_
 | refine block_o (by decide) ?_
 | refine block_n ?_
 | refine block_r ?_
 | refine AW.skip ?_
 | refine AW.ret ?_
 | refine AW.exit ?_
 | refine AW.cond rfl ?_ ?_
 | refine awl_none rfl ?_
 | refine awl_nil2 ?_
 | refine awc_none rfl ?_
 | refine awc_some rfl rfl (Nat.le_of_ble_eq_true rfl) rfl rfl ?_ ?_
 | (refine awc_skip rfl rfl (Nat.le_of_ble_eq_true rfl) rfl rfl ?_;simp only [stU])
 | exact each_nil
 | refine each_none rfl ?_ ?_
 | refine awc_nilq (by kernel_rfl) (by kernel_rfl) ?_
 | refine awc_leaf2 [some 70,some 71,some 72,some 73,some 74,some 75,some 76,some 77,some 78,some 79,some 80,some 81,some 82,some 4] cc_node_PackDir_9 rfl (by kernel_rfl) (by kernel_rfl) ?_ ?_
 | (refine fun (hc : _ = _)=>?_;first|cases hc|((try rw [hc]);(try simp only [stH] at hc);(try (exfalso;omega)));(try ((first|show Awl _ _ _ _ _|show Awc _ _ _ _ _ _);simp only [stU])))
 | ((first|refine fun (K : V → List _ → _) hK=>?_|refine fun (_ : V → V)=>?_|refine fun (bb : Nat → Bool) K hK=>?_);simp (disch:=omega) only [go_sem,Int.reduceEq,↓reduceIte,reduceCtorEq,Nat.reduceEqDiff,Nat.reduceLT,Nat.reduceLeDiff,Nat.reduceAdd,Nat.reduceSub,Nat.reduceMul,Int.reduceToNat,Int.reduceLE,Int.reduceLT,N4,Sp_node_sector,Sp_field_Put,Sp_field_Join,Sp_node_seal,stD7,e2,e3',d1,d2,d4,d5,d7,Sg3,St.updIf,ifc_nil,gt_ifc,go_ifc,ite_self,Option.none_or,Option.some_or];(try (revert hK;intro hK;(repeat' first|(refine And.intro ?_ ?_)|(intro hc;first|cases hc|((try rw [hc]);(try simp only [stH] at hc);(try (exfalso;omega)))));all_goals first|(refine hK _ _ ?_;clear hK K;simp only [stU])|exact hK|omega)))
      refine ⟨true,⟨fun _=>hz,fun _=>rfl⟩,nm [],Wk.of ?_⟩
      simp (disch:=omega) only [go_sem,Int.reduceEq,↓reduceIte,reduceCtorEq,Nat.reduceEqDiff,Nat.reduceLT,Nat.reduceLeDiff,Nat.reduceAdd,Nat.reduceSub,Nat.reduceMul,Int.reduceToNat,Int.reduceLE,Int.reduceLT,N4,Sp_node_sector,Sp_field_Put,Sp_field_Join,Sp_node_seal,stD8]
    · by_cases h13 : c = 0
      · by_cases h14 : b = 0
        · have d1 : decide (a < 0) = false:=decide_eq_false h1
          have d2 : decide (99 < a) = false:=decide_eq_false h2
          have d7 : decide (0 < (k : Int)) = false:=decide_eq_false (by omega)
          have d4 : decide (b < 0) = false:=decide_eq_false h11
          have d5 : decide (1000 < b) = false:=decide_eq_false h12
          have d8 : decide (c = 0) = true:=decide_eq_true h13
          have d9 : decide (b = 0) = true:=decide_eq_true h14
          have e3':=e2
          have hz : cD k q a b c:=⟨by omega,by omega,fun h=>by omega,by omega,by omega,fun h=>absurd h13 h,by omega⟩
          repeat' first
 | refine AW.seq ?_
 | refine AW.block ?_
 | refine AW.regl N4_ok [0,2,3,4,5,6,9,10,11,12,13,69] ?_
 | (refine AW.regq (id:=7) N4_ok follows bb_node_PackDir_7 (by kernel_rfl) [0,2,3,4,5,6,9,10,11,12,13,69] ?_)
 | (refine AW.regc (id:=9) N4_ok follows bb_node_PackDir_9 (by kernel_rfl) [0,2,3,4,5,6,9,10,11,12,13,69] ?_)
 | refine then_n ?_
 | refine then_r ?_
 | refine then_x ?_
 | refine block_x ?_
 | refine block_o (by decide) ?_
 | refine block_n ?_
 | refine block_r ?_
 | refine AW.skip ?_
 | refine AW.ret ?_
 | refine AW.exit ?_
 | refine AW.cond rfl ?_ ?_
 | refine awl_none rfl ?_
 | refine awl_nil2 ?_
 | refine awc_none rfl ?_
 | refine awc_some rfl rfl (Nat.le_of_ble_eq_true rfl) rfl rfl ?_ ?_
 | (refine awc_skip rfl rfl (Nat.le_of_ble_eq_true rfl) rfl rfl ?_;simp only [stU])
 | exact each_nil
 | refine each_none rfl ?_ ?_
 | refine awc_nilq (by kernel_rfl) (by kernel_rfl) ?_
 | refine awc_leaf2 [some 70,some 71,some 72,some 73,some 74,some 75,some 76,some 77,some 78,some 79,some 80,some 81,some 82,some 4] cc_node_PackDir_9 rfl (by kernel_rfl) (by kernel_rfl) ?_ ?_
 | (refine fun (hc : _ = _)=>?_;first|cases hc|((try rw [hc]);(try simp only [stH] at hc);(try (exfalso;omega)));(try ((first|show Awl _ _ _ _ _|show Awc _ _ _ _ _ _);simp only [stU])))
 | ((first|refine fun (K : V → List _ → _) hK=>?_|refine fun (_ : V → V)=>?_|refine fun (bb : Nat → Bool) K hK=>?_);simp (disch:=omega) only [go_sem,Int.reduceEq,↓reduceIte,reduceCtorEq,Nat.reduceEqDiff,Nat.reduceLT,Nat.reduceLeDiff,Nat.reduceAdd,Nat.reduceSub,Nat.reduceMul,Int.reduceToNat,Int.reduceLE,Int.reduceLT,N4,Sp_node_sector,Sp_field_Put,Sp_field_Join,Sp_node_seal,stD7,e2,e3',d1,d2,d4,d5,d7,d8,d9,Sg3,St.updIf,ifc_nil,gt_ifc,go_ifc,ite_self,Option.none_or,Option.some_or];(try (revert hK;intro hK;(repeat' first|(refine And.intro ?_ ?_)|(intro hc;first|cases hc|((try rw [hc]);(try simp only [stH] at hc);(try (exfalso;omega)))));all_goals first|(refine hK _ _ ?_;clear hK K;simp only [stU])|exact hK|omega)))
          refine ⟨false,⟨fun h=>(by cases h),fun h=>absurd hz h⟩,nm [],Wk.of ?_⟩
          simp (disch:=omega) only [go_sem,Int.reduceEq,↓reduceIte,reduceCtorEq,Nat.reduceEqDiff,Nat.reduceLT,Nat.reduceLeDiff,Nat.reduceAdd,Nat.reduceSub,Nat.reduceMul,Int.reduceToNat,Int.reduceLE,Int.reduceLT,N4,Sp_node_sector,Sp_field_Put,Sp_field_Join,Sp_node_seal,stD8]
        · have d1 : decide (a < 0) = false:=decide_eq_false h1
          have d2 : decide (99 < a) = false:=decide_eq_false h2
          have d7 : decide (0 < (k : Int)) = false:=decide_eq_false (by omega)
          have d4 : decide (b < 0) = false:=decide_eq_false h11
          have d5 : decide (1000 < b) = false:=decide_eq_false h12
          have d8 : decide (c = 0) = true:=decide_eq_true h13
          have d9 : decide (b = 0) = false:=decide_eq_false h14
          have e3':=e2
          have hz : ¬ cD k q a b c:=fun h=>by unfold cD at h;omega
          repeat' first
 | refine AW.seq ?_
 | refine AW.block ?_
 | refine AW.regl N4_ok [0,2,3,4,5,6,9,10,11,12,13,69] ?_
 | (refine AW.regq (id:=7) N4_ok follows bb_node_PackDir_7 (by kernel_rfl) [0,2,3,4,5,6,9,10,11,12,13,69] ?_)
 | (refine AW.regc (id:=9) N4_ok follows bb_node_PackDir_9 (by kernel_rfl) [0,2,3,4,5,6,9,10,11,12,13,69] ?_)
 | refine then_n ?_
 | refine then_r ?_
 | refine then_x ?_
 | refine block_x ?_
 | refine block_o (by decide) ?_
 | refine block_n ?_
 | refine block_r ?_
 | refine AW.skip ?_
 | refine AW.ret ?_
 | refine AW.exit ?_
 | refine AW.cond rfl ?_ ?_
 | refine awl_none rfl ?_
 | refine awl_nil2 ?_
 | refine awc_none rfl ?_
 | refine awc_some rfl rfl (Nat.le_of_ble_eq_true rfl) rfl rfl ?_ ?_
 | (refine awc_skip rfl rfl (Nat.le_of_ble_eq_true rfl) rfl rfl ?_;simp only [stU])
 | exact each_nil
 | refine each_none rfl ?_ ?_
 | refine awc_nilq (by kernel_rfl) (by kernel_rfl) ?_
 | refine awc_leaf2 [some 70,some 71,some 72,some 73,some 74,some 75,some 76,some 77,some 78,some 79,some 80,some 81,some 82,some 4] cc_node_PackDir_9 rfl (by kernel_rfl) (by kernel_rfl) ?_ ?_
 | (refine fun (hc : _ = _)=>?_;first|cases hc|((try rw [hc]);(try simp only [stH] at hc);(try (exfalso;omega)));(try ((first|show Awl _ _ _ _ _|show Awc _ _ _ _ _ _);simp only [stU])))
 | ((first|refine fun (K : V → List _ → _) hK=>?_|refine fun (_ : V → V)=>?_|refine fun (bb : Nat → Bool) K hK=>?_);simp (disch:=omega) only [go_sem,Int.reduceEq,↓reduceIte,reduceCtorEq,Nat.reduceEqDiff,Nat.reduceLT,Nat.reduceLeDiff,Nat.reduceAdd,Nat.reduceSub,Nat.reduceMul,Int.reduceToNat,Int.reduceLE,Int.reduceLT,N4,Sp_node_sector,Sp_field_Put,Sp_field_Join,Sp_node_seal,stD7,e2,e3',d1,d2,d4,d5,d7,d8,d9,Sg3,St.updIf,ifc_nil,gt_ifc,go_ifc,ite_self,Option.none_or,Option.some_or];(try (revert hK;intro hK;(repeat' first|(refine And.intro ?_ ?_)|(intro hc;first|cases hc|((try rw [hc]);(try simp only [stH] at hc);(try (exfalso;omega)))));all_goals first|(refine hK _ _ ?_;clear hK K;simp only [stU])|exact hK|omega)))
          refine ⟨true,⟨fun _=>hz,fun _=>rfl⟩,nm [],Wk.of ?_⟩
          simp (disch:=omega) only [go_sem,Int.reduceEq,↓reduceIte,reduceCtorEq,Nat.reduceEqDiff,Nat.reduceLT,Nat.reduceLeDiff,Nat.reduceAdd,Nat.reduceSub,Nat.reduceMul,Int.reduceToNat,Int.reduceLE,Int.reduceLT,N4,Sp_node_sector,Sp_field_Put,Sp_field_Join,Sp_node_seal,stD8]
      · by_cases h15 : secN c
        · by_cases h16 : b = 0
          · have d1 : decide (a < 0) = false:=decide_eq_false h1
            have d2 : decide (99 < a) = false:=decide_eq_false h2
            have d7 : decide (0 < (k : Int)) = false:=decide_eq_false (by omega)
            have d4 : decide (b < 0) = false:=decide_eq_false h11
            have d5 : decide (1000 < b) = false:=decide_eq_false h12
            have d8 : decide (c = 0) = false:=decide_eq_false h13
            have d6 : decide (secN c) = true:=decide_eq_true h15
            have d9 : decide (b = 0) = true:=decide_eq_true h16
            have e3':=e2
            have hz : ¬ cD k q a b c:=fun h=>by unfold cD at h;omega
            repeat' first
 | refine AW.seq ?_
 | refine AW.block ?_
 | refine AW.regl N4_ok [0,2,3,4,5,6,9,10,11,12,13,69] ?_
 | (refine AW.regq (id:=7) N4_ok follows bb_node_PackDir_7 (by kernel_rfl) [0,2,3,4,5,6,9,10,11,12,13,69] ?_)
 | (refine AW.regc (id:=9) N4_ok follows bb_node_PackDir_9 (by kernel_rfl) [0,2,3,4,5,6,9,10,11,12,13,69] ?_)
 | refine then_n ?_
 | refine then_r ?_
 | refine then_x ?_
 | refine block_x ?_
 | refine block_o (by decide) ?_
 | refine block_n ?_
 | refine block_r ?_
 | refine AW.skip ?_
 | refine AW.ret ?_
 | refine AW.exit ?_
 | refine AW.cond rfl ?_ ?_
 | refine awl_none rfl ?_
 | refine awl_nil2 ?_
 | refine awc_none rfl ?_
 | refine awc_some rfl rfl (Nat.le_of_ble_eq_true rfl) rfl rfl ?_ ?_
 | (refine awc_skip rfl rfl (Nat.le_of_ble_eq_true rfl) rfl rfl ?_;simp only [stU])
 | exact each_nil
 | refine each_none rfl ?_ ?_
 | refine awc_nilq (by kernel_rfl) (by kernel_rfl) ?_
 | refine awc_leaf2 [some 70,some 71,some 72,some 73,some 74,some 75,some 76,some 77,some 78,some 79,some 80,some 81,some 82,some 4] cc_node_PackDir_9 rfl (by kernel_rfl) (by kernel_rfl) ?_ ?_
 | (refine fun (hc : _ = _)=>?_;first|cases hc|((try rw [hc]);(try simp only [stH] at hc);(try (exfalso;omega)));(try ((first|show Awl _ _ _ _ _|show Awc _ _ _ _ _ _);simp only [stU])))
 | ((first|refine fun (K : V → List _ → _) hK=>?_|refine fun (_ : V → V)=>?_|refine fun (bb : Nat → Bool) K hK=>?_);simp (disch:=omega) only [go_sem,Int.reduceEq,↓reduceIte,reduceCtorEq,Nat.reduceEqDiff,Nat.reduceLT,Nat.reduceLeDiff,Nat.reduceAdd,Nat.reduceSub,Nat.reduceMul,Int.reduceToNat,Int.reduceLE,Int.reduceLT,N4,Sp_node_sector,Sp_field_Put,Sp_field_Join,Sp_node_seal,stD7,e2,e3',d1,d2,d4,d5,d6,d7,d8,d9,Sg3,St.updIf,ifc_nil,gt_ifc,go_ifc,ite_self,Option.none_or,Option.some_or];(try (revert hK;intro hK;(repeat' first|(refine And.intro ?_ ?_)|(intro hc;first|cases hc|((try rw [hc]);(try simp only [stH] at hc);(try (exfalso;omega)))));all_goals first|(refine hK _ _ ?_;clear hK K;simp only [stU])|exact hK|omega)))
            refine ⟨true,⟨fun _=>hz,fun _=>rfl⟩,nm [],Wk.of ?_⟩
            simp (disch:=omega) only [go_sem,Int.reduceEq,↓reduceIte,reduceCtorEq,Nat.reduceEqDiff,Nat.reduceLT,Nat.reduceLeDiff,Nat.reduceAdd,Nat.reduceSub,Nat.reduceMul,Int.reduceToNat,Int.reduceLE,Int.reduceLT,N4,Sp_node_sector,Sp_field_Put,Sp_field_Join,Sp_node_seal,stD8]
          · have d1 : decide (a < 0) = false:=decide_eq_false h1
            have d2 : decide (99 < a) = false:=decide_eq_false h2
            have d7 : decide (0 < (k : Int)) = false:=decide_eq_false (by omega)
            have d4 : decide (b < 0) = false:=decide_eq_false h11
            have d5 : decide (1000 < b) = false:=decide_eq_false h12
            have d8 : decide (c = 0) = false:=decide_eq_false h13
            have d6 : decide (secN c) = true:=decide_eq_true h15
            have d9 : decide (b = 0) = false:=decide_eq_false h16
            have e3':=e2
            have hz : cD k q a b c:=⟨by omega,by omega,fun h=>by omega,by omega,by omega,fun _=>h15,by omega⟩
            repeat' first
 | refine AW.seq ?_
 | refine AW.block ?_
 | refine AW.regl N4_ok [0,2,3,4,5,6,9,10,11,12,13,69] ?_
 | (refine AW.regq (id:=7) N4_ok follows bb_node_PackDir_7 (by kernel_rfl) [0,2,3,4,5,6,9,10,11,12,13,69] ?_)
 | (refine AW.regc (id:=9) N4_ok follows bb_node_PackDir_9 (by kernel_rfl) [0,2,3,4,5,6,9,10,11,12,13,69] ?_)
 | refine then_n ?_
 | refine then_r ?_
 | refine then_x ?_
 | refine block_x ?_
 | refine block_o (by decide) ?_
 | refine block_n ?_
 | refine block_r ?_
 | refine AW.skip ?_
 | refine AW.ret ?_
 | refine AW.exit ?_
 | refine AW.cond rfl ?_ ?_
 | refine awl_none rfl ?_
 | refine awl_nil2 ?_
 | refine awc_none rfl ?_
 | refine awc_some rfl rfl (Nat.le_of_ble_eq_true rfl) rfl rfl ?_ ?_
 | (refine awc_skip rfl rfl (Nat.le_of_ble_eq_true rfl) rfl rfl ?_;simp only [stU])
 | exact each_nil
 | refine each_none rfl ?_ ?_
 | refine awc_nilq (by kernel_rfl) (by kernel_rfl) ?_
 | refine awc_leaf2 [some 70,some 71,some 72,some 73,some 74,some 75,some 76,some 77,some 78,some 79,some 80,some 81,some 82,some 4] cc_node_PackDir_9 rfl (by kernel_rfl) (by kernel_rfl) ?_ ?_
 | (refine fun (hc : _ = _)=>?_;first|cases hc|((try rw [hc]);(try simp only [stH] at hc);(try (exfalso;omega)));(try ((first|show Awl _ _ _ _ _|show Awc _ _ _ _ _ _);simp only [stU])))
 | ((first|refine fun (K : V → List _ → _) hK=>?_|refine fun (_ : V → V)=>?_|refine fun (bb : Nat → Bool) K hK=>?_);simp (disch:=omega) only [go_sem,Int.reduceEq,↓reduceIte,reduceCtorEq,Nat.reduceEqDiff,Nat.reduceLT,Nat.reduceLeDiff,Nat.reduceAdd,Nat.reduceSub,Nat.reduceMul,Int.reduceToNat,Int.reduceLE,Int.reduceLT,N4,Sp_node_sector,Sp_field_Put,Sp_field_Join,Sp_node_seal,stD7,e2,e3',d1,d2,d4,d5,d6,d7,d8,d9,Sg3,St.updIf,ifc_nil,gt_ifc,go_ifc,ite_self,Option.none_or,Option.some_or];(try (revert hK;intro hK;(repeat' first|(refine And.intro ?_ ?_)|(intro hc;first|cases hc|((try rw [hc]);(try simp only [stH] at hc);(try (exfalso;omega)))));all_goals first|(refine hK _ _ ?_;clear hK K;simp only [stU])|exact hK|omega)))
            refine ⟨false,⟨fun h=>(by cases h),fun h=>absurd hz h⟩,nm [],Wk.of ?_⟩
            simp (disch:=omega) only [go_sem,Int.reduceEq,↓reduceIte,reduceCtorEq,Nat.reduceEqDiff,Nat.reduceLT,Nat.reduceLeDiff,Nat.reduceAdd,Nat.reduceSub,Nat.reduceMul,Int.reduceToNat,Int.reduceLE,Int.reduceLT,N4,Sp_node_sector,Sp_field_Put,Sp_field_Join,Sp_node_seal,stD8]
        · have d1 : decide (a < 0) = false:=decide_eq_false h1
          have d2 : decide (99 < a) = false:=decide_eq_false h2
          have d7 : decide (0 < (k : Int)) = false:=decide_eq_false (by omega)
          have d4 : decide (b < 0) = false:=decide_eq_false h11
          have d5 : decide (1000 < b) = false:=decide_eq_false h12
          have d8 : decide (c = 0) = false:=decide_eq_false h13
          have d6 : decide (secN c) = false:=decide_eq_false h15
          have e3':=e2
          have hz : ¬ cD k q a b c:=fun h=>h15 (h.2.2.2.2.2.1 h13)
          repeat' first
 | refine AW.seq ?_
 | refine AW.block ?_
 | refine AW.regl N4_ok [0,2,3,4,5,6,9,10,11,12,13,69] ?_
 | (refine AW.regq (id:=7) N4_ok follows bb_node_PackDir_7 (by kernel_rfl) [0,2,3,4,5,6,9,10,11,12,13,69] ?_)
 | (refine AW.regc (id:=9) N4_ok follows bb_node_PackDir_9 (by kernel_rfl) [0,2,3,4,5,6,9,10,11,12,13,69] ?_)
 | refine then_n ?_
 | refine then_r ?_
 | refine then_x ?_
 | refine block_x ?_
 | refine block_o (by decide) ?_
 | refine block_n ?_
 | refine block_r ?_
 | refine AW.skip ?_
 | refine AW.ret ?_
 | refine AW.exit ?_
 | refine AW.cond rfl ?_ ?_
 | refine awl_none rfl ?_
 | refine awl_nil2 ?_
 | refine awc_none rfl ?_
 | refine awc_some rfl rfl (Nat.le_of_ble_eq_true rfl) rfl rfl ?_ ?_
 | (refine awc_skip rfl rfl (Nat.le_of_ble_eq_true rfl) rfl rfl ?_;simp only [stU])
 | exact each_nil
 | refine each_none rfl ?_ ?_
 | refine awc_nilq (by kernel_rfl) (by kernel_rfl) ?_
 | refine awc_leaf2 [some 70,some 71,some 72,some 73,some 74,some 75,some 76,some 77,some 78,some 79,some 80,some 81,some 82,some 4] cc_node_PackDir_9 rfl (by kernel_rfl) (by kernel_rfl) ?_ ?_
 | (refine fun (hc : _ = _)=>?_;first|cases hc|((try rw [hc]);(try simp only [stH] at hc);(try (exfalso;omega)));(try ((first|show Awl _ _ _ _ _|show Awc _ _ _ _ _ _);simp only [stU])))
 | ((first|refine fun (K : V → List _ → _) hK=>?_|refine fun (_ : V → V)=>?_|refine fun (bb : Nat → Bool) K hK=>?_);simp (disch:=omega) only [go_sem,Int.reduceEq,↓reduceIte,reduceCtorEq,Nat.reduceEqDiff,Nat.reduceLT,Nat.reduceLeDiff,Nat.reduceAdd,Nat.reduceSub,Nat.reduceMul,Int.reduceToNat,Int.reduceLE,Int.reduceLT,N4,Sp_node_sector,Sp_field_Put,Sp_field_Join,Sp_node_seal,stD7,e2,e3',d1,d2,d4,d5,d6,d7,d8,Sg3,St.updIf,ifc_nil,gt_ifc,go_ifc,ite_self,Option.none_or,Option.some_or];(try (revert hK;intro hK;(repeat' first|(refine And.intro ?_ ?_)|(intro hc;first|cases hc|((try rw [hc]);(try simp only [stH] at hc);(try (exfalso;omega)))));all_goals first|(refine hK _ _ ?_;clear hK K;simp only [stU])|exact hK|omega)))
          refine ⟨true,⟨fun _=>hz,fun _=>rfl⟩,nm [],Wk.of ?_⟩
          simp (disch:=omega) only [go_sem,Int.reduceEq,↓reduceIte,reduceCtorEq,Nat.reduceEqDiff,Nat.reduceLT,Nat.reduceLeDiff,Nat.reduceAdd,Nat.reduceSub,Nat.reduceMul,Int.reduceToNat,Int.reduceLE,Int.reduceLT,N4,Sp_node_sector,Sp_field_Put,Sp_field_Join,Sp_node_seal,stD8]
theorem good_node_PackDir : Good Try.prog 13 Sp_node_PackDir:=by
  refine good_body (E:=N4) (nt:=88) (rs:=#[.tmp 2,.tmp 3]) Try.func13 rfl rfl rfl ?_
  rintro ds out ⟨l,rfl,hl,rfl⟩
  refine ⟨by simp,?_⟩
  by_cases hlen : l.length ≤ 6
  case neg =>
    have hz : packDOut l = ⟨.tup [.nil,.d (.v (.bool false))],[]⟩:=if_neg fun h=>hlen h.1
    repeat' first
 | refine AW.seq ?_
 | refine AW.block ?_
 | refine AW.regl N4_ok [0,2,3,4,5,6,9,10,11,12,13,69] ?_
 | (refine AW.regq (id:=7) N4_ok follows bb_node_PackDir_7 (by kernel_rfl) [0,2,3,4,5,6,9,10,11,12,13,69] ?_)
 | (refine AW.regc (id:=9) N4_ok follows bb_node_PackDir_9 (by kernel_rfl) [0,2,3,4,5,6,9,10,11,12,13,69] ?_)
 | refine then_n ?_
 | refine then_r ?_
 | refine then_x ?_
 | refine block_x ?_
 | refine block_o (by decide) ?_
 | refine block_n ?_
 | refine block_r ?_
 | refine AW.skip ?_
 | refine AW.ret ?_
 | refine AW.exit ?_
 | refine AW.cond rfl ?_ ?_
 | refine awl_none rfl ?_
 | refine awl_nil2 ?_
 | refine awc_none rfl ?_
 | refine awc_some rfl rfl (Nat.le_of_ble_eq_true rfl) rfl rfl ?_ ?_
 | (refine awc_skip rfl rfl (Nat.le_of_ble_eq_true rfl) rfl rfl ?_;simp only [stU])
 | exact each_nil
 | refine each_none rfl ?_ ?_
 | refine awc_nilq (by kernel_rfl) (by kernel_rfl) ?_
 | refine awc_leaf2 [some 70,some 71,some 72,some 73,some 74,some 75,some 76,some 77,some 78,some 79,some 80,some 81,some 82,some 4] cc_node_PackDir_9 rfl (by kernel_rfl) (by kernel_rfl) ?_ ?_
 | (refine fun (hc : _ = _)=>?_;first|cases hc|((try rw [hc]);(try simp only [stH] at hc);(try (exfalso;omega)));(try ((first|show Awl _ _ _ _ _|show Awc _ _ _ _ _ _);simp only [stU])))
 | ((first|refine fun (K : V → List _ → _) hK=>?_|refine fun (_ : V → V)=>?_|refine fun (bb : Nat → Bool) K hK=>?_);simp (disch:=omega) only [go_sem,Int.reduceEq,↓reduceIte,reduceCtorEq,Nat.reduceEqDiff,Nat.reduceLT,Nat.reduceLeDiff,Nat.reduceAdd,Nat.reduceSub,Nat.reduceMul,Int.reduceToNat,Int.reduceLE,Int.reduceLT,N4,Sp_node_sector,Sp_field_Put,Sp_field_Join,Sp_node_seal,Sg3,St.updIf,ifc_nil,gt_ifc,go_ifc,ite_self,Option.none_or,Option.some_or];(try (revert hK;intro hK;(repeat' first|(refine And.intro ?_ ?_)|(intro hc;first|cases hc|((try rw [hc]);(try simp only [stH] at hc);(try (exfalso;omega)))));all_goals first|(refine hK _ _ ?_;clear hK K;simp only [stU])|exact hK|omega)))
    all_goals (refine Ends.of (nm []) (by first|exact .inl rfl|exact .inr rfl) ?_;simp (disch:=omega) only [go_sem,Int.reduceEq,↓reduceIte,reduceCtorEq,Nat.reduceEqDiff,Nat.reduceLT,Nat.reduceLeDiff,Nat.reduceAdd,Nat.reduceSub,Nat.reduceMul,Int.reduceToNat,Int.reduceLE,Int.reduceLT,N4,Sp_node_sector,Sp_field_Put,Sp_field_Join,Sp_node_seal,hz])
  repeat' first
 | refine AW.seq ?_
 | refine AW.block ?_
 | refine AW.regl N4_ok [0,2,3,4,5,6,9,10,11,12,13,69] ?_
 | (refine AW.regq (id:=7) N4_ok follows bb_node_PackDir_7 (by kernel_rfl) [0,2,3,4,5,6,9,10,11,12,13,69] ?_)
 | (refine AW.regc (id:=9) N4_ok follows bb_node_PackDir_9 (by kernel_rfl) [0,2,3,4,5,6,9,10,11,12,13,69] ?_)
 | refine then_n ?_
 | refine then_r ?_
 | refine then_x ?_
 | refine block_x ?_
 | refine block_o (by decide) ?_
 | refine block_n ?_
 | refine block_r ?_
 | refine AW.skip ?_
 | refine AW.ret ?_
 | refine AW.exit ?_
 | refine AW.cond rfl ?_ ?_
 | refine awl_none rfl ?_
 | refine awl_nil2 ?_
 | refine awc_none rfl ?_
 | refine awc_some rfl rfl (Nat.le_of_ble_eq_true rfl) rfl rfl ?_ ?_
 | (refine awc_skip rfl rfl (Nat.le_of_ble_eq_true rfl) rfl rfl ?_;simp only [stU])
 | exact each_nil
 | refine each_none rfl ?_ ?_
 | refine awc_nilq (by kernel_rfl) (by kernel_rfl) ?_
 | refine awc_leaf2 [some 70,some 71,some 72,some 73,some 74,some 75,some 76,some 77,some 78,some 79,some 80,some 81,some 82,some 4] cc_node_PackDir_9 rfl (by kernel_rfl) (by kernel_rfl) ?_ ?_
 | (refine fun (hc : _ = _)=>?_;first|cases hc|((try rw [hc]);(try simp only [stH] at hc);(try (exfalso;omega)));(try ((first|show Awl _ _ _ _ _|show Awc _ _ _ _ _ _);simp only [stU])))
 | ((first|refine fun (K : V → List _ → _) hK=>?_|refine fun (_ : V → V)=>?_|refine fun (bb : Nat → Bool) K hK=>?_);simp (disch:=omega) only [go_sem,Int.reduceEq,↓reduceIte,reduceCtorEq,Nat.reduceEqDiff,Nat.reduceLT,Nat.reduceLeDiff,Nat.reduceAdd,Nat.reduceSub,Nat.reduceMul,Int.reduceToNat,Int.reduceLE,Int.reduceLT,N4,Sp_node_sector,Sp_field_Put,Sp_field_Join,Sp_node_seal,Sg3,St.updIf,ifc_nil,gt_ifc,go_ifc,ite_self,Option.none_or,Option.some_or];(try (revert hK;intro hK;(repeat' first|(refine And.intro ?_ ?_)|(intro hc;first|cases hc|((try rw [hc]);(try simp only [stH] at hc);(try (exfalso;omega)))));all_goals first|(refine hK _ _ ?_;clear hK K;simp only [stU])|exact hK|omega)))
  refine AW.loop_wk (fun k : Nat=>⟨[(0,.d (.list (l.map lD))),(2,.nil),(3,.d (.v (.bool false))),(4,.sl 100 1 0 (5 * k) true),(10,.d (.list (l.map lD))),(11,.d (.v (.int .i64 l.length))),(12,.d (.v (.int .i64 k)))],[(100,.row 5 1 ((lsB (l.take k)).map mB))],88⟩)
    (fun k=>k ≤ l.length ∧ ∀ i,i < k → okL l i) (fun k=>l.length - k) 0 ⟨by omega,fun i hi=>by omega⟩ (fun w0 oa a w hs=>Wk.sr (ρ:=nm []) (Wk.of ?_) (nil_sr 4 100 5 1 rfl (by simp) rfl (by decide) hs)) ?_
  · simp (disch:=omega) only [go_sem,Int.reduceEq,↓reduceIte,reduceCtorEq,Nat.reduceEqDiff,Nat.reduceLT,Nat.reduceLeDiff,Nat.reduceAdd,Nat.reduceSub,Nat.reduceMul,Int.reduceToNat,Int.reduceLE,Int.reduceLT,N4,Sp_node_sector,Sp_field_Put,Sp_field_Join,Sp_node_seal]
    first|done|exact ⟨rfl,rfl⟩|rfl
  · rintro k ⟨hk,hok⟩
    by_cases hk1 : k < l.length
    · have e2:=nth_L l k hk1
      have hpl : (lsB (l.take k)).length = 5 * k:=by rw [lsB_len,List.length_take];omega
      have e4 : lsB (l.take (k + 1)) = lsB (l.take k) ++ itL (l.getD k l0):=by rw [take_snocG l k l0 hk1,lsB_snoc]
      have e3 : 0 < k → nth (l.map lD) ((k : Int) - 1).toNat = lD (l.getD (k - 1) l0):=fun h=>by rw [show ((k : Int) - 1).toNat = k - 1 by omega];exact nth_L l _ (by omega)
      have hokk : okL l k ↔ cD k (l.getD (k - 1) l0).a (l.getD k l0).a (l.getD k l0).b (l.getD k l0).c:=Iff.rfl
      have hitp : putB (max 0 (l.getD k l0).a) 1 ++ (putB (max 0 (l.getD k l0).b) 2 ++ putB (max 0 (l.getD k l0).c) 2) = itL (l.getD k l0):=rfl
      have hil:=itL_len (l.getD k l0)
      have hit : ((itL (l.getD k l0)).map mB).take 5 = (itL (l.getD k l0)).map mB:=List.take_of_length_le (by rw [List.length_map,hil];omega)
      have hzz : ¬ okL l k → packDOut l = ⟨.tup [.nil,.d (.v (.bool false))],[]⟩:=fun h=>if_neg fun h2=>h (h2.2 k hk1)
      obtain ⟨I,hI⟩ : ∃ I,itL (l.getD k l0) = I:=⟨_,rfl⟩
      rw [hI] at hitp hil hit e4
      clear hI
      generalize l.getD k l0 = P at *
      generalize l.getD (k - 1) l0 = Q at *
      obtain ⟨R,hR⟩ : ∃ R,lsB (l.take k) = R:=⟨_,rfl⟩
      rw [hR] at hpl e4 ⊢
      obtain ⟨a,b,c⟩:=P
      obtain ⟨q,qb,qc⟩:=Q
      dsimp only at hokk hitp
      replace e2 : nth (l.map lD) k = .agg [.v (.int .i64 a),.v (.int .i64 b),.v (.int .i64 c)]:=e2
      replace e3 : 0 < k → ∃ qb qc : Int,nth (l.map lD) ((k : Int) - 1).toNat = .agg [.v (.int .i64 q),.v (.int .i64 qb),.v (.int .i64 qc)]:=fun h=>⟨qb,qc,e3 h⟩
      have hfin : okL l k → ∀ i,i < k + 1 → okL l i:=fun h i hi=>by
        by_cases he : i = k
        · rw [he];exact h
        · exact hok i (by omega)
      have hcc : okL l k → c < 4096:=fun h=>by
        have:=(hokk.1 h).2.2.2.2.2.1
        unfold secN at this
        omega
      have hdd : okL l k → (0 ≤ a ∧ a ≤ 99) ∧ 0 ≤ b ∧ b ≤ 1000:=fun h=>by
        have:=hokk.1 h
        unfold cD at this
        omega
      clear hok
      repeat' first
 | refine AW.seq ?_
 | refine AW.block ?_
 | refine AW.regl N4_ok [0,2,3,4,5,6,9,10,11,12,13,69] ?_
 | (refine AW.regc (id:=9) N4_ok follows bb_node_PackDir_9 (by kernel_rfl) [0,2,3,4,5,6,9,10,11,12,13,69] ?_)
 | refine then_n ?_
 | refine then_r ?_
 | refine then_x ?_
 | refine block_x ?_
 | refine block_o (by decide) ?_
 | refine block_n ?_
 | refine block_r ?_
 | refine AW.skip ?_
 | refine AW.ret ?_
 | refine AW.exit ?_
 | refine AW.cond rfl ?_ ?_
 | refine awl_none rfl ?_
 | refine awl_nil2 ?_
 | refine awc_none rfl ?_
 | refine awc_some rfl rfl (Nat.le_of_ble_eq_true rfl) rfl rfl ?_ ?_
 | (refine awc_skip rfl rfl (Nat.le_of_ble_eq_true rfl) rfl rfl ?_;simp only [stU])
 | exact each_nil
 | refine each_none rfl ?_ ?_
 | refine awc_leaf2 [some 70,some 71,some 72,some 73,some 74,some 75,some 76,some 77,some 78,some 79,some 80,some 81,some 82,some 4] cc_node_PackDir_9 rfl (by kernel_rfl) (by kernel_rfl) ?_ ?_
 | (refine fun (hc : _ = _)=>?_;first|cases hc|((try rw [hc]);(try simp only [stH] at hc);(try (exfalso;omega)));(try ((first|show Awl _ _ _ _ _|show Awc _ _ _ _ _ _);simp only [stU])))
 | ((first|refine fun (K : V → List _ → _) hK=>?_|refine fun (_ : V → V)=>?_|refine fun (bb : Nat → Bool) K hK=>?_);simp (disch:=omega) only [go_sem,Int.reduceEq,↓reduceIte,reduceCtorEq,Nat.reduceEqDiff,Nat.reduceLT,Nat.reduceLeDiff,Nat.reduceAdd,Nat.reduceSub,Nat.reduceMul,Int.reduceToNat,Int.reduceLE,Int.reduceLT,N4,Sp_node_sector,Sp_field_Put,Sp_field_Join,Sp_node_seal,e2,Sg3,St.updIf,ifc_nil,gt_ifc,go_ifc,ite_self,Option.none_or,Option.some_or];(try (revert hK;intro hK;(repeat' first|(refine And.intro ?_ ?_)|(intro hc;first|cases hc|((try rw [hc]);(try simp only [stH] at hc);(try (exfalso;omega)))));all_goals first|(refine hK _ _ ?_;clear hK K;simp only [stU])|exact hK|omega)))
      refine AW.part (stD8 l k R a b c) (fun v=>v = true ↔ ¬ cD k q a b c) (stD7 l k R a b c) ⟨nm [],Wk.of ?_⟩ ?_ ?_
      · simp (disch:=omega) only [go_sem,Int.reduceEq,↓reduceIte,reduceCtorEq,Nat.reduceEqDiff,Nat.reduceLT,Nat.reduceLeDiff,Nat.reduceAdd,Nat.reduceSub,Nat.reduceMul,Int.reduceToNat,Int.reduceLE,Int.reduceLT,N4,Sp_node_sector,Sp_field_Put,Sp_field_Join,Sp_node_seal,stD7]
      · by_cases h1 : a < 0
        · exact pd_a hl hk1 e2 e3 h1
        · by_cases h2 : 99 < a
          · exact pd_b hl hk1 e2 e3 h1 h2
          · by_cases h3 : 0 < k
            · by_cases h4 : a ≤ q
              · exact pd_c hl hk1 e2 e3 h1 h2 h3 h4
              · exact pd_d hl hk1 e2 e3 h1 h2 h3 h4
            · exact pd_e hl hk1 e2 e3 h1 h2 h3
      · intro v hv s hs
        refine midN.go ?_ s hs
        cases v with
        | true =>
          have hz:=hzz fun h=>(hv.1 rfl) (hokk.1 h)
          clear hzz hv hokk e3
          repeat' first
 | refine AW.seq ?_
 | refine AW.block ?_
 | refine AW.regl N4_ok [0,2,3,4,5,6,9,10,11,12,13,69] ?_
 | (refine AW.regq (id:=7) N4_ok follows bb_node_PackDir_7 (by kernel_rfl) [0,2,3,4,5,6,9,10,11,12,13,69] ?_)
 | (refine AW.regc (id:=9) N4_ok follows bb_node_PackDir_9 (by kernel_rfl) [0,2,3,4,5,6,9,10,11,12,13,69] ?_)
 | refine then_n ?_
 | refine then_r ?_
 | refine then_x ?_
 | refine block_x ?_
 | refine block_o (by decide) ?_
 | refine block_n ?_
 | refine block_r ?_
 | refine AW.skip ?_
 | refine AW.ret ?_
 | refine AW.exit ?_
 | refine AW.cond rfl ?_ ?_
 | refine awl_none rfl ?_
 | refine awl_nil2 ?_
 | refine awc_none rfl ?_
 | refine awc_some rfl rfl (Nat.le_of_ble_eq_true rfl) rfl rfl ?_ ?_
 | (refine awc_skip rfl rfl (Nat.le_of_ble_eq_true rfl) rfl rfl ?_;simp only [stU])
 | exact each_nil
 | refine each_none rfl ?_ ?_
 | refine awc_nilq (by kernel_rfl) (by kernel_rfl) ?_
 | refine awc_leaf2 [some 70,some 71,some 72,some 73,some 74,some 75,some 76,some 77,some 78,some 79,some 80,some 81,some 82,some 4] cc_node_PackDir_9 rfl (by kernel_rfl) (by kernel_rfl) ?_ ?_
 | (refine fun (hc : _ = _)=>?_;first|cases hc|((try rw [hc]);(try simp only [stH] at hc);(try (exfalso;omega)));(try ((first|show Awl _ _ _ _ _|show Awc _ _ _ _ _ _);simp only [stU])))
 | ((first|refine fun (K : V → List _ → _) hK=>?_|refine fun (_ : V → V)=>?_|refine fun (bb : Nat → Bool) K hK=>?_);simp (disch:=omega) only [go_sem,Int.reduceEq,↓reduceIte,reduceCtorEq,Nat.reduceEqDiff,Nat.reduceLT,Nat.reduceLeDiff,Nat.reduceAdd,Nat.reduceSub,Nat.reduceMul,Int.reduceToNat,Int.reduceLE,Int.reduceLT,N4,Sp_node_sector,Sp_field_Put,Sp_field_Join,Sp_node_seal,stD8,e2,Sg3,St.updIf,ifc_nil,gt_ifc,go_ifc,ite_self,Option.none_or,Option.some_or];(try (revert hK;intro hK;(repeat' first|(refine And.intro ?_ ?_)|(intro hc;first|cases hc|((try rw [hc]);(try simp only [stH] at hc);(try (exfalso;omega)))));all_goals first|(refine hK _ _ ?_;clear hK K;simp only [stU])|exact hK|omega)))
          (refine Ends.of (nm []) (by first|exact .inl rfl|exact .inr rfl) ?_;simp (disch:=omega) only [go_sem,Int.reduceEq,↓reduceIte,reduceCtorEq,Nat.reduceEqDiff,Nat.reduceLT,Nat.reduceLeDiff,Nat.reduceAdd,Nat.reduceSub,Nat.reduceMul,Int.reduceToNat,Int.reduceLE,Int.reduceLT,N4,Sp_node_sector,Sp_field_Put,Sp_field_Join,Sp_node_seal,hz])
        | false =>
          have hC : okL l k:=hokk.2 (Classical.byContradiction fun h=>by have:=hv.2 h;cases this)
          have hf:=hfin hC
          have hc4:=hcc hC
          have hab:=hdd hC
          clear hzz hv hokk e3 hfin hcc hdd hC
          repeat' first
 | refine AW.seq ?_
 | refine AW.block ?_
 | refine AW.regl N4_ok [0,2,3,4,5,6,9,10,11,12,13,69] ?_
 | (refine AW.regq (id:=7) N4_ok follows bb_node_PackDir_7 (by kernel_rfl) [0,2,3,4,5,6,9,10,11,12,13,69] ?_)
 | (refine AW.regc (id:=9) N4_ok follows bb_node_PackDir_9 (by kernel_rfl) [0,2,3,4,5,6,9,10,11,12,13,69] ?_)
 | refine then_n ?_
 | refine then_r ?_
 | refine then_x ?_
 | refine block_x ?_
 | refine block_o (by decide) ?_
 | refine block_n ?_
 | refine block_r ?_
 | refine AW.skip ?_
 | refine AW.ret ?_
 | refine AW.exit ?_
 | refine AW.cond rfl ?_ ?_
 | refine awl_none rfl ?_
 | refine awl_nil2 ?_
 | refine awc_none rfl ?_
 | refine awc_some rfl rfl (Nat.le_of_ble_eq_true rfl) rfl rfl ?_ ?_
 | (refine awc_skip rfl rfl (Nat.le_of_ble_eq_true rfl) rfl rfl ?_;simp only [stU])
 | exact each_nil
 | refine each_none rfl ?_ ?_
 | refine awc_nilq (by kernel_rfl) (by kernel_rfl) ?_
 | refine awc_leaf2 [some 70,some 71,some 72,some 73,some 74,some 75,some 76,some 77,some 78,some 79,some 80,some 81,some 82,some 4] cc_node_PackDir_9 rfl (by kernel_rfl) (by kernel_rfl) ?_ ?_
 | (refine fun (hc : _ = _)=>?_;first|cases hc|((try rw [hc]);(try simp only [stH] at hc);(try (exfalso;omega)));(try ((first|show Awl _ _ _ _ _|show Awc _ _ _ _ _ _);simp only [stU])))
 | ((first|refine fun (K : V → List _ → _) hK=>?_|refine fun (_ : V → V)=>?_|refine fun (bb : Nat → Bool) K hK=>?_);simp (disch:=omega) only [go_sem,Int.reduceEq,↓reduceIte,reduceCtorEq,Nat.reduceEqDiff,Nat.reduceLT,Nat.reduceLeDiff,Nat.reduceAdd,Nat.reduceSub,Nat.reduceMul,Int.reduceToNat,Int.reduceLE,Int.reduceLT,N4,Sp_node_sector,Sp_field_Put,Sp_field_Join,Sp_node_seal,stD8,e2,wd_1n,wd_2n,putB_taken,putB_len,Y3n,hitp,hil,hit,List.flatten_cons,List.flatten_nil,Sg3,St.updIf,ifc_nil,gt_ifc,go_ifc,ite_self,Option.none_or,Option.some_or];(try (revert hK;intro hK;(repeat' first|(refine And.intro ?_ ?_)|(intro hc;first|cases hc|((try rw [hc]);(try simp only [stH] at hc);(try (exfalso;omega)))));all_goals first|(refine hK _ _ ?_;clear hK K;simp only [stU])|exact hK|omega)))
          refine ⟨k + 1,by omega,hf,by omega,nm [(100,82)],Wk.of ?_⟩
          simp (disch:=omega) only [go_sem,Int.reduceEq,↓reduceIte,reduceCtorEq,Nat.reduceEqDiff,Nat.reduceLT,Nat.reduceLeDiff,Nat.reduceAdd,Nat.reduceSub,Nat.reduceMul,Int.reduceToNat,Int.reduceLE,Int.reduceLT,N4,Sp_node_sector,Sp_field_Put,Sp_field_Join,Sp_node_seal,e4,List.map_append]
          all_goals first|done|rfl|exact ⟨by rw [hpl];rfl,rfl⟩|exact ⟨rfl,rfl⟩
    · obtain rfl : k = l.length:=by omega
      have hm : mayD l:=⟨hlen,hok⟩
      have hz : packDOut l = ⟨.tup [.sl 0 1 0 128 true,.d (.v (.bool true))],[(0,.row 5 1 ((nodP 3 l.length (lsB l)).map mB))]⟩:=if_pos hm
      have hpl:=lsB_len l
      have hpt : ((lsB l).map mB).take (5 * l.length) = (lsB l).map mB:=List.take_of_length_le (by simp [hpl])
      rw [List.take_length]
      repeat' first
 | refine AW.seq ?_
 | refine AW.block ?_
 | refine AW.regl N4_ok [0,2,3,4,5,6,9,10,11,12,13,69] ?_
 | (refine AW.regq (id:=7) N4_ok follows bb_node_PackDir_7 (by kernel_rfl) [0,2,3,4,5,6,9,10,11,12,13,69] ?_)
 | (refine AW.regc (id:=9) N4_ok follows bb_node_PackDir_9 (by kernel_rfl) [0,2,3,4,5,6,9,10,11,12,13,69] ?_)
 | refine then_n ?_
 | refine then_r ?_
 | refine then_x ?_
 | refine block_x ?_
 | refine block_o (by decide) ?_
 | refine block_n ?_
 | refine block_r ?_
 | refine AW.skip ?_
 | refine AW.ret ?_
 | refine AW.exit ?_
 | refine AW.cond rfl ?_ ?_
 | refine awl_none rfl ?_
 | refine awl_nil2 ?_
 | refine awc_none rfl ?_
 | refine awc_some rfl rfl (Nat.le_of_ble_eq_true rfl) rfl rfl ?_ ?_
 | (refine awc_skip rfl rfl (Nat.le_of_ble_eq_true rfl) rfl rfl ?_;simp only [stU])
 | exact each_nil
 | refine each_none rfl ?_ ?_
 | refine awc_nilq (by kernel_rfl) (by kernel_rfl) ?_
 | refine awc_leaf2 [some 70,some 71,some 72,some 73,some 74,some 75,some 76,some 77,some 78,some 79,some 80,some 81,some 82,some 4] cc_node_PackDir_9 rfl (by kernel_rfl) (by kernel_rfl) ?_ ?_
 | (refine fun (hc : _ = _)=>?_;first|cases hc|((try rw [hc]);(try simp only [stH] at hc);(try (exfalso;omega)));(try ((first|show Awl _ _ _ _ _|show Awc _ _ _ _ _ _);simp only [stU])))
 | ((first|refine fun (K : V → List _ → _) hK=>?_|refine fun (_ : V → V)=>?_|refine fun (bb : Nat → Bool) K hK=>?_);simp (disch:=omega) only [go_sem,Int.reduceEq,↓reduceIte,reduceCtorEq,Nat.reduceEqDiff,Nat.reduceLT,Nat.reduceLeDiff,Nat.reduceAdd,Nat.reduceSub,Nat.reduceMul,Int.reduceToNat,Int.reduceLE,Int.reduceLT,N4,Sp_node_sector,Sp_field_Put,Sp_field_Join,Sp_node_seal,hpt,hpl,mB_inj,Sg3,St.updIf,ifc_nil,gt_ifc,go_ifc,ite_self,Option.none_or,Option.some_or];(try (revert hK;intro hK;(repeat' first|(refine And.intro ?_ ?_)|(intro hc;first|cases hc|((try rw [hc]);(try simp only [stH] at hc);(try (exfalso;omega)))));all_goals first|(refine hK _ _ ?_;clear hK K;simp only [stU])|exact hK|omega)))
      (refine Ends.of (nm [(0,87)]) (by first|exact .inl rfl|exact .inr rfl) ?_;simp (disch:=omega) only [go_sem,Int.reduceEq,↓reduceIte,reduceCtorEq,Nat.reduceEqDiff,Nat.reduceLT,Nat.reduceLeDiff,Nat.reduceAdd,Nat.reduceSub,Nat.reduceMul,Int.reduceToNat,Int.reduceLE,Int.reduceLT,N4,Sp_node_sector,Sp_field_Put,Sp_field_Join,Sp_node_seal,hz])
theorem ent_node_PackDir : Ent Try.prog 13:=⟨_,Try.func13,rfl,by decide⟩
end Go.Proofs.Ytigkcigoiinkpaa.Am
