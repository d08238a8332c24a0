import Derived.Test.YtigkcigoiinkpaaZNEa
import Derived.Test.YtigkcigoiinkpaaZZA
import Derived.Test.YtigkcigoiinkpaaZN6
set_option linter.unusedVariables false
set_option linter.unusedSimpArgs false
set_option maxRecDepth 10000
set_option maxHeartbeats 0
namespace Go.Proofs.Ytigkcigoiinkpaa.Am
open Go Go.RowKit Go.Proofs
def dmyLeaf : Nat:=0
noncomputable def NMayLeaf : Env:=⟨Try.prog,fun f ds out=>(f = 73 ∧ Sp_overdubref20_two ds out) ∨ (f = 74 ∧ Sp_overdubref20_place ds out),Es,fun _=>false⟩
theorem NMayLeaf_sp : ∀ f ds out,NMayLeaf.Sp f ds out → Ent NMayLeaf.P f ∧ Good NMayLeaf.P f (fun a b=>a = ds ∧ b = out):=by
  rintro f ds out (⟨rfl,h⟩|⟨rfl,h⟩)
  · exact ⟨ent_overdubref20_two,good_overdubref20_two.one h⟩
  · exact ⟨ent_overdubref20_place,good_overdubref20_place.one h⟩
theorem NMayLeaf_ok : NMayLeaf.Ok:=⟨NMayLeaf_sp,Es_ok⟩
def stAMayLeaf (l : List Xt) (k : Nat) (f0 f1 f2 f3 f4 : Int) : St:=⟨[(0,.d (.list (l.map eD))),(2,.d (.v (.bool false))),(3,.d (.v (.int .i64 k))),(4,.ptr 4 0),(6,.d (.v (.int .i64 l.length))),(7,.d (.v (.int .i64 k)))],[(4,.box [.d (.v (.int .i64 f0)),.d (.v (.int .i64 f1)),.d (.v (.int .i64 f2)),.d (.v (.int .i64 f3)),.d (.v (.int .i64 f4))])],92⟩
def stBMayLeaf (l : List Xt) (k : Nat) (f0 f1 f2 f3 f4 : Int) (v : Bool) : St:=⟨[(0,.d (.list (l.map eD))),(2,.d (.v (.bool false))),(4,.ptr 4 0),(6,.d (.v (.int .i64 l.length))),(7,.d (.v (.int .i64 k))),(82,.d (.v (.bool v)))],[(4,.box [.d (.v (.int .i64 f0)),.d (.v (.int .i64 f1)),.d (.v (.int .i64 f2)),.d (.v (.int .i64 f3)),.d (.v (.int .i64 f4))])],92⟩
def cMayLeaf (k : Nat) (q0 q1 q2 q3 q4 f0 f1 f2 f3 f4 : Int) : Prop:=twN f0 ∧ secN f1 ∧ 0 ≤ f2 ∧ f2 ≤ 64 ∧ 0 ≤ f3 ∧ f3 ≤ f2 ∧ 1 ≤ f4 ∧ f4 ≤ f2 - f3 ∧ (0 < k → f0 = q0 + q4)
open Classical in
noncomputable def bMayLeaf (l : List Xt) : Bool:=decide (mayF l)
open Classical in
theorem bMayLeaf_no {l : List Xt} {k : Nat} (h : ¬ okF l k) (hk : k < l.length) : bMayLeaf l = false:=decide_eq_false fun h2=>h (h2.2.2 k hk)
open Classical in
theorem bMayLeaf_end (l : List Xt) (h : ∀ i,i < l.length → okF l i) : bMayLeaf l = (decide (1 ≤ l.length) && decide (l.length ≤ 8)):=by
  unfold bMayLeaf
  rw [← Bool.decide_and,decide_eq_decide];exact ⟨fun h2=>⟨h2.1,h2.2.1⟩,fun h2=>⟨h2.1,h2.2,h⟩⟩
theorem bMayLeaf_item (l : List Xt) (k : Nat) : okF l k ↔ cMayLeaf k (l.getD (k - 1) x0).f0 (l.getD (k - 1) x0).f1 (l.getD (k - 1) x0).f2 (l.getD (k - 1) x0).f3 (l.getD (k - 1) x0).f4 (l.getD k x0).f0 (l.getD k x0).f1 (l.getD k x0).f2 (l.getD k x0).f3 (l.getD k x0).f4:=by
  unfold okF inF cMayLeaf twN secN
  constructor <;> (rintro h;omega)
def bb_overdubref20_MayLeaf_5 : List Nat:=[0,1,3,7,15,31,63,127,255,511,1023,2047,4095,8191,16383,32767,65535,131071,262143,524287,1048575,2097151,4194303,8388607,16777215,33554431,67108863,134217727,67108863,335544319,1073741823,2147483647,4294967295,8589934591,17179869183,34359738367,68719476735,137438953471,274877906943,549755813887,274877906943,1374389534719,274877906943,4672924418047,16767552323583,35184372088831,70368744177663,140737488355327,281474976710655,562949953421311,1125899906842623,2251799813685247,4503599627370495,2251799813685247,2251799813685247,20266198323167231,65302194596872191,137359788634800127,281474976710655999,2251799813685247,2251799813685247,1155173304420532223,4037477065937649663,8649163084365037567,17872535121219813375,36886732747978047487,73786976294838206463,147573952589676412927,295147905179352825855]
theorem rMayLeaf {l : List Xt} {k : Nat} {q0 q1 q2 q3 q4 f0 f1 f2 f3 f4 : Int} (hl : l.length ≤ 9223372036854775807) (hk1 : k < l.length) (e2 : nth (l.map eD) k = .agg [.v (.int .i64 f0),.v (.int .i64 f1),.v (.int .i64 f2),.v (.int .i64 f3),.v (.int .i64 f4)])
    (e3 : 0 < k → nth (l.map eD) ((k : Int) - 1).toNat = .agg [.v (.int .i64 q0),.v (.int .i64 q1),.v (.int .i64 q2),.v (.int .i64 q3),.v (.int .i64 q4)]) (hprv : 0 < k → (0 ≤ q0 ∧ q0 < 65536) ∧ (1 ≤ q4 ∧ q4 ≤ 64)) {Q : Exit → St → Prop} : AW Try.prog (sub [1,0,1,0,0,1,1,0,0,1,1,0] (bd Try.f53)) (stAMayLeaf l k f0 f1 f2 f3 f4) (thenA (midxN (stBMayLeaf l k f0 f1 f2 f3 f4) fun v=>v = true ↔ ¬ cMayLeaf k q0 q1 q2 q3 q4 f0 f1 f2 f3 f4) Q):=by
  by_cases h1 : twN f0
  focus
    by_cases h2 : secN f1
    focus
      by_cases h3 : f2 < 0
      focus
        have d0 : decide (twN f0) = true:=decide_eq_true h1
        have d1 : decide (secN f1) = true:=decide_eq_true h2
        have d2 : decide (f2 < 0) = true:=decide_eq_true h3
        have d3 : dmyLeaf = 0:=rfl
        have d4 : dmyLeaf = 0:=rfl
        have d5 : dmyLeaf = 0:=rfl
        have d6 : dmyLeaf = 0:=rfl
        have d7 : dmyLeaf = 0:=rfl
        have d8 : dmyLeaf = 0:=rfl
        have d9 : dmyLeaf = 0:=rfl
        have e3':=e2
        have hz : ¬ cMayLeaf k q0 q1 q2 q3 q4 f0 f1 f2 f3 f4:=fun h=>by unfold cMayLeaf at h;first|(refine ⟨by assumption,by assumption,?_⟩;omega)|(obtain ⟨g1,g2,g3⟩:=h;first|exact absurd g1 (by assumption)|exact absurd g2 (by assumption)|omega)
      rotate_left 1
      focus
        by_cases h4 : 64 < f2
        focus
          have d0 : decide (twN f0) = true:=decide_eq_true h1
          have d1 : decide (secN f1) = true:=decide_eq_true h2
          have d2 : decide (f2 < 0) = false:=decide_eq_false h3
          have d3 : decide (64 < f2) = true:=decide_eq_true h4
          have d4 : dmyLeaf = 0:=rfl
          have d5 : dmyLeaf = 0:=rfl
          have d6 : dmyLeaf = 0:=rfl
          have d7 : dmyLeaf = 0:=rfl
          have d8 : dmyLeaf = 0:=rfl
          have d9 : dmyLeaf = 0:=rfl
          have e3':=e2
          have hz : ¬ cMayLeaf k q0 q1 q2 q3 q4 f0 f1 f2 f3 f4:=fun h=>by unfold cMayLeaf at h;first|(refine ⟨by assumption,by assumption,?_⟩;omega)|(obtain ⟨g1,g2,g3⟩:=h;first|exact absurd g1 (by assumption)|exact absurd g2 (by assumption)|omega)
        rotate_left 1
        focus
          by_cases h5 : f3 < 0
          focus
            have d0 : decide (twN f0) = true:=decide_eq_true h1
            have d1 : decide (secN f1) = true:=decide_eq_true h2
            have d2 : decide (f2 < 0) = false:=decide_eq_false h3
            have d3 : decide (64 < f2) = false:=decide_eq_false h4
            have d4 : decide (f3 < 0) = true:=decide_eq_true h5
            have d5 : dmyLeaf = 0:=rfl
            have d6 : dmyLeaf = 0:=rfl
            have d7 : dmyLeaf = 0:=rfl
            have d8 : dmyLeaf = 0:=rfl
            have d9 : dmyLeaf = 0:=rfl
            have e3':=e2
            have hz : ¬ cMayLeaf k q0 q1 q2 q3 q4 f0 f1 f2 f3 f4:=fun h=>by unfold cMayLeaf at h;first|(refine ⟨by assumption,by assumption,?_⟩;omega)|(obtain ⟨g1,g2,g3⟩:=h;first|exact absurd g1 (by assumption)|exact absurd g2 (by assumption)|omega)
          rotate_left 1
          focus
            by_cases h6 : f2 < f3
            focus
              have d0 : decide (twN f0) = true:=decide_eq_true h1
              have d1 : decide (secN f1) = true:=decide_eq_true h2
              have d2 : decide (f2 < 0) = false:=decide_eq_false h3
              have d3 : decide (64 < f2) = false:=decide_eq_false h4
              have d4 : decide (f3 < 0) = false:=decide_eq_false h5
              have d5 : decide (f2 < f3) = true:=decide_eq_true h6
              have d6 : dmyLeaf = 0:=rfl
              have d7 : dmyLeaf = 0:=rfl
              have d8 : dmyLeaf = 0:=rfl
              have d9 : dmyLeaf = 0:=rfl
              have e3':=e2
              have hz : ¬ cMayLeaf k q0 q1 q2 q3 q4 f0 f1 f2 f3 f4:=fun h=>by unfold cMayLeaf at h;first|(refine ⟨by assumption,by assumption,?_⟩;omega)|(obtain ⟨g1,g2,g3⟩:=h;first|exact absurd g1 (by assumption)|exact absurd g2 (by assumption)|omega)
            rotate_left 1
            focus
              by_cases h7 : f4 < 1
              focus
                have d0 : decide (twN f0) = true:=decide_eq_true h1
                have d1 : decide (secN f1) = true:=decide_eq_true h2
                have d2 : decide (f2 < 0) = false:=decide_eq_false h3
                have d3 : decide (64 < f2) = false:=decide_eq_false h4
                have d4 : decide (f3 < 0) = false:=decide_eq_false h5
                have d5 : decide (f2 < f3) = false:=decide_eq_false h6
                have d6 : decide (f4 < 1) = true:=decide_eq_true h7
                have d7 : dmyLeaf = 0:=rfl
                have d8 : dmyLeaf = 0:=rfl
                have d9 : dmyLeaf = 0:=rfl
                have e3':=e2
                have hz : ¬ cMayLeaf k q0 q1 q2 q3 q4 f0 f1 f2 f3 f4:=fun h=>by unfold cMayLeaf at h;first|(refine ⟨by assumption,by assumption,?_⟩;omega)|(obtain ⟨g1,g2,g3⟩:=h;first|exact absurd g1 (by assumption)|exact absurd g2 (by assumption)|omega)
              rotate_left 1
              focus
                by_cases h8 : f2 - f3 < f4
                focus
                  have d0 : decide (twN f0) = true:=decide_eq_true h1
                  have d1 : decide (secN f1) = true:=decide_eq_true h2
                  have d2 : decide (f2 < 0) = false:=decide_eq_false h3
                  have d3 : decide (64 < f2) = false:=decide_eq_false h4
                  have d4 : decide (f3 < 0) = false:=decide_eq_false h5
                  have d5 : decide (f2 < f3) = false:=decide_eq_false h6
                  have d6 : decide (f4 < 1) = false:=decide_eq_false h7
                  have d7 : decide (f2 - f3 < f4) = true:=decide_eq_true h8
                  have d8 : dmyLeaf = 0:=rfl
                  have d9 : dmyLeaf = 0:=rfl
                  have e3':=e2
                  have hz : ¬ cMayLeaf k q0 q1 q2 q3 q4 f0 f1 f2 f3 f4:=fun h=>by unfold cMayLeaf at h;first|(refine ⟨by assumption,by assumption,?_⟩;omega)|(obtain ⟨g1,g2,g3⟩:=h;first|exact absurd g1 (by assumption)|exact absurd g2 (by assumption)|omega)
                rotate_left 1
                focus
                  by_cases h9 : 0 < k
                  focus
                    by_cases h10 : f0 = q0 + q4
                    focus
                      have d0 : decide (twN f0) = true:=decide_eq_true h1
                      have d1 : decide (secN f1) = true:=decide_eq_true h2
                      have d2 : decide (f2 < 0) = false:=decide_eq_false h3
                      have d3 : decide (64 < f2) = false:=decide_eq_false h4
                      have d4 : decide (f3 < 0) = false:=decide_eq_false h5
                      have d5 : decide (f2 < f3) = false:=decide_eq_false h6
                      have d6 : decide (f4 < 1) = false:=decide_eq_false h7
                      have d7 : decide (f2 - f3 < f4) = false:=decide_eq_false h8
                      have d8 : decide (0 < (k : Int)) = true:=decide_eq_true (by omega)
                      have d9 : decide (f0 = q0 + q4) = true:=decide_eq_true h10
                      have e3':=e3 h9
                      have hz : cMayLeaf k q0 q1 q2 q3 q4 f0 f1 f2 f3 f4:=by unfold cMayLeaf;first|(refine ⟨by assumption,by assumption,?_⟩;omega)|(obtain ⟨g1,g2,g3⟩:=h;first|exact absurd g1 (by assumption)|exact absurd g2 (by assumption)|omega)
                    rotate_left 1
                    focus
                      have d0 : decide (twN f0) = true:=decide_eq_true h1
                      have d1 : decide (secN f1) = true:=decide_eq_true h2
                      have d2 : decide (f2 < 0) = false:=decide_eq_false h3
                      have d3 : decide (64 < f2) = false:=decide_eq_false h4
                      have d4 : decide (f3 < 0) = false:=decide_eq_false h5
                      have d5 : decide (f2 < f3) = false:=decide_eq_false h6
                      have d6 : decide (f4 < 1) = false:=decide_eq_false h7
                      have d7 : decide (f2 - f3 < f4) = false:=decide_eq_false h8
                      have d8 : decide (0 < (k : Int)) = true:=decide_eq_true (by omega)
                      have d9 : decide (f0 = q0 + q4) = false:=decide_eq_false h10
                      have e3':=e3 h9
                      have hz : ¬ cMayLeaf k q0 q1 q2 q3 q4 f0 f1 f2 f3 f4:=fun h=>by unfold cMayLeaf at h;first|(refine ⟨by assumption,by assumption,?_⟩;omega)|(obtain ⟨g1,g2,g3⟩:=h;first|exact absurd g1 (by assumption)|exact absurd g2 (by assumption)|omega)
                  rotate_left 2
                  focus
                    have d0 : decide (twN f0) = true:=decide_eq_true h1
                    have d1 : decide (secN f1) = true:=decide_eq_true h2
                    have d2 : decide (f2 < 0) = false:=decide_eq_false h3
                    have d3 : decide (64 < f2) = false:=decide_eq_false h4
                    have d4 : decide (f3 < 0) = false:=decide_eq_false h5
                    have d5 : decide (f2 < f3) = false:=decide_eq_false h6
                    have d6 : decide (f4 < 1) = false:=decide_eq_false h7
                    have d7 : decide (f2 - f3 < f4) = false:=decide_eq_false h8
                    have d8 : decide (0 < (k : Int)) = false:=decide_eq_false (by omega)
                    have d9 : dmyLeaf = 0:=rfl
                    have e3':=e2
                    have hz : cMayLeaf k q0 q1 q2 q3 q4 f0 f1 f2 f3 f4:=by unfold cMayLeaf;first|(refine ⟨by assumption,by assumption,?_⟩;omega)|(obtain ⟨g1,g2,g3⟩:=h;first|exact absurd g1 (by assumption)|exact absurd g2 (by assumption)|omega)
    rotate_left 9
    focus
      have d0 : decide (twN f0) = true:=decide_eq_true h1
      have d1 : decide (secN f1) = false:=decide_eq_false h2
      have d2 : dmyLeaf = 0:=rfl
      have d3 : dmyLeaf = 0:=rfl
      have d4 : dmyLeaf = 0:=rfl
      have d5 : dmyLeaf = 0:=rfl
      have d6 : dmyLeaf = 0:=rfl
      have d7 : dmyLeaf = 0:=rfl
      have d8 : dmyLeaf = 0:=rfl
      have d9 : dmyLeaf = 0:=rfl
      have e3':=e2
      have hz : ¬ cMayLeaf k q0 q1 q2 q3 q4 f0 f1 f2 f3 f4:=fun h=>by unfold cMayLeaf at h;first|(refine ⟨by assumption,by assumption,?_⟩;omega)|(obtain ⟨g1,g2,g3⟩:=h;first|exact absurd g1 (by assumption)|exact absurd g2 (by assumption)|omega)
  rotate_left 10
  focus
    have d0 : decide (twN f0) = false:=decide_eq_false h1
    have d1 : dmyLeaf = 0:=rfl
    have d2 : dmyLeaf = 0:=rfl
    have d3 : dmyLeaf = 0:=rfl
    have d4 : dmyLeaf = 0:=rfl
    have d5 : dmyLeaf = 0:=rfl
    have d6 : dmyLeaf = 0:=rfl
    have d7 : dmyLeaf = 0:=rfl
    have d8 : dmyLeaf = 0:=rfl
    have d9 : dmyLeaf = 0:=rfl
    have e3':=e2
    have hz : ¬ cMayLeaf k q0 q1 q2 q3 q4 f0 f1 f2 f3 f4:=fun h=>by unfold cMayLeaf at h;first|(refine ⟨by assumption,by assumption,?_⟩;omega)|(obtain ⟨g1,g2,g3⟩:=h;first|exact absurd g1 (by assumption)|exact absurd g2 (by assumption)|omega)
  all_goals as_aux_lemma =>
    skip
    repeat' first
 | refine AW.seq ?_
 | refine AW.block ?_
 | refine AW.regl NMayLeaf_ok [0,2,3,4,6,7,8,82] ?_
 | (refine AW.regq (id:=5) NMayLeaf_ok follows bb_overdubref20_MayLeaf_5 (by kernel_rfl) [0,2,3,4,6,7,8,82] ?_)
 | refine then_n ?_
 | refine then_r ?_
 | refine then_x ?_
 | refine block_x ?_
 | refine block_o (by decide) ?_
 | refine block_n ?_
 | refine block_r ?_
 | refine AW.skip ?_
 | refine AW.ret ?_
 | refine AW.exit ?_
 | refine AW.cond rfl ?_ ?_
 | refine awl_none rfl ?_
 | refine awl_nil2 ?_
 | refine awl_some rfl rfl (Nat.le_of_ble_eq_true rfl) rfl rfl ?_ ?_
 | refine awc_none rfl ?_
 | refine awc_some rfl rfl (Nat.le_of_ble_eq_true rfl) rfl rfl ?_ ?_
 | (refine awc_skip rfl rfl (Nat.le_of_ble_eq_true rfl) rfl rfl ?_;simp only [stU])
 | refine awc_nilq (by kernel_rfl) (by kernel_rfl) ?_
 | (refine fun (hc : _ = _)=>?_;first|cases hc|((try rw [hc]);(try simp only [stH] at hc);(try (exfalso;omega)));(try ((first|show Awl _ _ _ _ _|show Awc _ _ _ _ _ _);simp only [stU])))
 | ((first|refine fun (K : V → List _ → _) hK=>?_|refine fun (_ : V → V)=>?_);simp (disch:=omega) only [go_sem,Int.reduceEq,↓reduceIte,reduceCtorEq,Nat.reduceEqDiff,Nat.reduceLT,Nat.reduceLeDiff,Nat.reduceAdd,Nat.reduceSub,Nat.reduceMul,Int.reduceToNat,Int.reduceLE,Int.reduceLT,NMayLeaf,Sp_overdubref20_two,Sp_overdubref20_place,stAMayLeaf,e2,e3',d0,d1,d2,d3,d4,d5,d6,d7,d8,d9,decide_not,Sg3,St.updIf,ifc_nil,gt_ifc,go_ifc,ite_self,Option.none_or,Option.some_or];(try (revert hK;intro hK;(repeat' first|(refine And.intro ?_ ?_)|(intro hc;first|cases hc|((try rw [hc]);(try simp only [stH] at hc);(try (exfalso;omega)))));all_goals first|(refine hK _ _ ?_;clear hK K;simp only [stU])|exact hK|omega)))
    first|(refine ⟨true,⟨fun _=>hz,fun _=>rfl⟩,nm [],Wk.of ?_⟩)|(refine ⟨false,⟨fun h=>(by cases h),fun h=>absurd hz h⟩,nm [],Wk.of ?_⟩)
    simp (disch:=omega) only [go_sem,Int.reduceEq,↓reduceIte,reduceCtorEq,Nat.reduceEqDiff,Nat.reduceLT,Nat.reduceLeDiff,Nat.reduceAdd,Nat.reduceSub,Nat.reduceMul,Int.reduceToNat,Int.reduceLE,Int.reduceLT,NMayLeaf,Sp_overdubref20_two,Sp_overdubref20_place,stBMayLeaf]
def Sp_overdubref20_MayLeaf (ds : List D) (out : Out) : Prop:=∃ l : List Xt,ds = [.list (l.map eD)] ∧ l.length ≤ 9223372036854775807 ∧ out = ⟨.d (.v (.bool (bMayLeaf l))),[]⟩
theorem good_overdubref20_MayLeaf : Good Try.prog 53 Sp_overdubref20_MayLeaf:=by
  refine good_body (E:=NMayLeaf) (nt:=92) (rs:=#[.tmp 2]) Try.func53 rfl rfl rfl ?_
  rintro ds out ⟨l,rfl,hl,rfl⟩
  refine ⟨by simp,?_⟩
  repeat' first
 | refine AW.seq ?_
 | refine AW.block ?_
 | refine AW.regl NMayLeaf_ok [0,2,3,4,6,7,8,82] ?_
 | refine then_n ?_
 | refine then_r ?_
 | refine then_x ?_
 | refine block_x ?_
 | refine block_o (by decide) ?_
 | refine block_n ?_
 | refine block_r ?_
 | refine AW.skip ?_
 | refine AW.ret ?_
 | refine AW.exit ?_
 | refine AW.cond rfl ?_ ?_
 | refine awl_none rfl ?_
 | refine awl_nil2 ?_
 | refine awl_some rfl rfl (Nat.le_of_ble_eq_true rfl) rfl rfl ?_ ?_
 | refine awc_none rfl ?_
 | refine awc_some rfl rfl (Nat.le_of_ble_eq_true rfl) rfl rfl ?_ ?_
 | (refine awc_skip rfl rfl (Nat.le_of_ble_eq_true rfl) rfl rfl ?_;simp only [stU])
 | (refine fun (hc : _ = _)=>?_;first|cases hc|((try rw [hc]);(try simp only [stH] at hc);(try (exfalso;omega)));(try ((first|show Awl _ _ _ _ _|show Awc _ _ _ _ _ _);simp only [stU])))
 | ((first|refine fun (K : V → List _ → _) hK=>?_|refine fun (_ : V → V)=>?_);simp (disch:=omega) only [go_sem,Int.reduceEq,↓reduceIte,reduceCtorEq,Nat.reduceEqDiff,Nat.reduceLT,Nat.reduceLeDiff,Nat.reduceAdd,Nat.reduceSub,Nat.reduceMul,Int.reduceToNat,Int.reduceLE,Int.reduceLT,NMayLeaf,Sp_overdubref20_two,Sp_overdubref20_place,Sg3,St.updIf,ifc_nil,gt_ifc,go_ifc,ite_self,Option.none_or,Option.some_or];(try (revert hK;intro hK;(repeat' first|(refine And.intro ?_ ?_)|(intro hc;first|cases hc|((try rw [hc]);(try simp only [stH] at hc);(try (exfalso;omega)))));all_goals first|(refine hK _ _ ?_;clear hK K;simp only [stU])|exact hK|omega)))
  refine AW.loop_wk (fun k : Nat=>⟨[(0,.d (.list (l.map eD))),(2,.d (.v (.bool false))),(6,.d (.v (.int .i64 l.length))),(7,.d (.v (.int .i64 k)))],[],92⟩)
    (fun k=>k ≤ l.length ∧ ∀ i,i < k → okF l i) (fun k=>l.length - k) 0 ⟨by omega,fun i hi=>by omega⟩ (fun w0 oa a w hs=>Wk.sr (ρ:=nm []) (Wk.of ?_) hs) ?_
  · simp (disch:=omega) only [go_sem,Int.reduceEq,↓reduceIte,reduceCtorEq,Nat.reduceEqDiff,Nat.reduceLT,Nat.reduceLeDiff,Nat.reduceAdd,Nat.reduceSub,Nat.reduceMul,Int.reduceToNat,Int.reduceLE,Int.reduceLT,NMayLeaf,Sp_overdubref20_two,Sp_overdubref20_place]
    all_goals first|done|exact ⟨rfl,rfl⟩|rfl
  · rintro k ⟨hk,hok⟩
    by_cases hk1 : k < l.length
    · have e2:=nth_E l k hk1
      have e3 : 0 < k → nth (l.map eD) ((k : Int) - 1).toNat = eD (l.getD (k - 1) x0):=fun h=>by rw [show ((k : Int) - 1).toNat = k - 1 by omega];exact nth_E l _ (by omega)
      have hzz : ¬ okF l k → bMayLeaf l = false:=fun h=>bMayLeaf_no h hk1
      have hokk:=bMayLeaf_item l k
      have hprv : 0 < k → (0 ≤ (l.getD (k - 1) x0).f0 ∧ (l.getD (k - 1) x0).f0 < 65536) ∧ (1 ≤ (l.getD (k - 1) x0).f4 ∧ (l.getD (k - 1) x0).f4 ≤ 64):=fun h=>by
        have:=(hok (k - 1) (by omega)).1
        unfold inF at this
        omega
      generalize l.getD k x0 = P at *
      generalize l.getD (k - 1) x0 = Q at *
      obtain ⟨f0,f1,f2,f3,f4⟩:=P
      obtain ⟨q0,q1,q2,q3,q4⟩:=Q
      dsimp only at hokk e2 hprv
      replace e2 : nth (l.map eD) k = .agg [.v (.int .i64 f0),.v (.int .i64 f1),.v (.int .i64 f2),.v (.int .i64 f3),.v (.int .i64 f4)]:=e2
      replace e3 : 0 < k → nth (l.map eD) ((k : Int) - 1).toNat = .agg [.v (.int .i64 q0),.v (.int .i64 q1),.v (.int .i64 q2),.v (.int .i64 q3),.v (.int .i64 q4)]:=e3
      have hfin : okF l k → ∀ i,i < k + 1 → okF l i:=fun h i hi=>by
        by_cases he : i = k
        · rw [he];exact h
        · exact hok i (by omega)
      clear hok
      repeat' first
 | refine AW.seq ?_
 | refine AW.block ?_
 | refine AW.regl NMayLeaf_ok [0,2,3,4,6,7,8,82] ?_
 | refine then_n ?_
 | refine then_r ?_
 | refine then_x ?_
 | refine block_x ?_
 | refine block_o (by decide) ?_
 | refine block_n ?_
 | refine block_r ?_
 | refine AW.skip ?_
 | refine AW.ret ?_
 | refine AW.exit ?_
 | refine AW.cond rfl ?_ ?_
 | refine awl_none rfl ?_
 | refine awl_nil2 ?_
 | refine awl_some rfl rfl (Nat.le_of_ble_eq_true rfl) rfl rfl ?_ ?_
 | refine awc_none rfl ?_
 | refine awc_some rfl rfl (Nat.le_of_ble_eq_true rfl) rfl rfl ?_ ?_
 | (refine awc_skip rfl rfl (Nat.le_of_ble_eq_true rfl) rfl rfl ?_;simp only [stU])
 | (refine fun (hc : _ = _)=>?_;first|cases hc|((try rw [hc]);(try simp only [stH] at hc);(try (exfalso;omega)));(try ((first|show Awl _ _ _ _ _|show Awc _ _ _ _ _ _);simp only [stU])))
 | ((first|refine fun (K : V → List _ → _) hK=>?_|refine fun (_ : V → V)=>?_);simp (disch:=omega) only [go_sem,Int.reduceEq,↓reduceIte,reduceCtorEq,Nat.reduceEqDiff,Nat.reduceLT,Nat.reduceLeDiff,Nat.reduceAdd,Nat.reduceSub,Nat.reduceMul,Int.reduceToNat,Int.reduceLE,Int.reduceLT,NMayLeaf,Sp_overdubref20_two,Sp_overdubref20_place,e2,Sg3,St.updIf,ifc_nil,gt_ifc,go_ifc,ite_self,Option.none_or,Option.some_or];(try (revert hK;intro hK;(repeat' first|(refine And.intro ?_ ?_)|(intro hc;first|cases hc|((try rw [hc]);(try simp only [stH] at hc);(try (exfalso;omega)))));all_goals first|(refine hK _ _ ?_;clear hK K;simp only [stU])|exact hK|omega)))
      refine AW.part (stBMayLeaf l k f0 f1 f2 f3 f4) (fun v=>v = true ↔ ¬ cMayLeaf k q0 q1 q2 q3 q4 f0 f1 f2 f3 f4) (stAMayLeaf l k f0 f1 f2 f3 f4) ⟨nm [],Wk.of ?_⟩ ?_ ?_
      · simp (disch:=omega) only [go_sem,Int.reduceEq,↓reduceIte,reduceCtorEq,Nat.reduceEqDiff,Nat.reduceLT,Nat.reduceLeDiff,Nat.reduceAdd,Nat.reduceSub,Nat.reduceMul,Int.reduceToNat,Int.reduceLE,Int.reduceLT,NMayLeaf,Sp_overdubref20_two,Sp_overdubref20_place,stAMayLeaf]
      · exact rMayLeaf hl hk1 e2 e3 hprv
      · intro v hv s hs
        refine midN.go ?_ s hs
        cases v with
        | true =>
          have hz:=hzz fun h=>(hv.1 rfl) (hokk.1 h)
          clear hzz hv hokk e3
          repeat' first
 | refine AW.seq ?_
 | refine AW.block ?_
 | refine AW.regl NMayLeaf_ok [0,2,3,4,6,7,8,82] ?_
 | (refine AW.regq (id:=5) NMayLeaf_ok follows bb_overdubref20_MayLeaf_5 (by kernel_rfl) [0,2,3,4,6,7,8,82] ?_)
 | refine then_n ?_
 | refine then_r ?_
 | refine then_x ?_
 | refine block_x ?_
 | refine block_o (by decide) ?_
 | refine block_n ?_
 | refine block_r ?_
 | refine AW.skip ?_
 | refine AW.ret ?_
 | refine AW.exit ?_
 | refine AW.cond rfl ?_ ?_
 | refine awl_none rfl ?_
 | refine awl_nil2 ?_
 | refine awl_some rfl rfl (Nat.le_of_ble_eq_true rfl) rfl rfl ?_ ?_
 | refine awc_none rfl ?_
 | refine awc_some rfl rfl (Nat.le_of_ble_eq_true rfl) rfl rfl ?_ ?_
 | (refine awc_skip rfl rfl (Nat.le_of_ble_eq_true rfl) rfl rfl ?_;simp only [stU])
 | refine awc_nilq (by kernel_rfl) (by kernel_rfl) ?_
 | (refine fun (hc : _ = _)=>?_;first|cases hc|((try rw [hc]);(try simp only [stH] at hc);(try (exfalso;omega)));(try ((first|show Awl _ _ _ _ _|show Awc _ _ _ _ _ _);simp only [stU])))
 | ((first|refine fun (K : V → List _ → _) hK=>?_|refine fun (_ : V → V)=>?_);simp (disch:=omega) only [go_sem,Int.reduceEq,↓reduceIte,reduceCtorEq,Nat.reduceEqDiff,Nat.reduceLT,Nat.reduceLeDiff,Nat.reduceAdd,Nat.reduceSub,Nat.reduceMul,Int.reduceToNat,Int.reduceLE,Int.reduceLT,NMayLeaf,Sp_overdubref20_two,Sp_overdubref20_place,stBMayLeaf,e2,Sg3,St.updIf,ifc_nil,gt_ifc,go_ifc,ite_self,Option.none_or,Option.some_or];(try (revert hK;intro hK;(repeat' first|(refine And.intro ?_ ?_)|(intro hc;first|cases hc|((try rw [hc]);(try simp only [stH] at hc);(try (exfalso;omega)))));all_goals first|(refine hK _ _ ?_;clear hK K;simp only [stU])|exact hK|omega)))
          (refine Ends.of (nm []) (by first|exact .inl rfl|exact .inr rfl) ?_;simp (disch:=omega) only [go_sem,Int.reduceEq,↓reduceIte,reduceCtorEq,Nat.reduceEqDiff,Nat.reduceLT,Nat.reduceLeDiff,Nat.reduceAdd,Nat.reduceSub,Nat.reduceMul,Int.reduceToNat,Int.reduceLE,Int.reduceLT,NMayLeaf,Sp_overdubref20_two,Sp_overdubref20_place,hz])
        | false =>
          have hC : okF l k:=hokk.2 (Classical.byContradiction fun h=>by have:=hv.2 h;cases this)
          have hf:=hfin hC
          clear hzz hv hokk e3 hfin hC
          repeat' first
 | refine AW.seq ?_
 | refine AW.block ?_
 | refine AW.regl NMayLeaf_ok [0,2,3,4,6,7,8,82] ?_
 | (refine AW.regq (id:=5) NMayLeaf_ok follows bb_overdubref20_MayLeaf_5 (by kernel_rfl) [0,2,3,4,6,7,8,82] ?_)
 | refine then_n ?_
 | refine then_r ?_
 | refine then_x ?_
 | refine block_x ?_
 | refine block_o (by decide) ?_
 | refine block_n ?_
 | refine block_r ?_
 | refine AW.skip ?_
 | refine AW.ret ?_
 | refine AW.exit ?_
 | refine AW.cond rfl ?_ ?_
 | refine awl_none rfl ?_
 | refine awl_nil2 ?_
 | refine awl_some rfl rfl (Nat.le_of_ble_eq_true rfl) rfl rfl ?_ ?_
 | refine awc_none rfl ?_
 | refine awc_some rfl rfl (Nat.le_of_ble_eq_true rfl) rfl rfl ?_ ?_
 | (refine awc_skip rfl rfl (Nat.le_of_ble_eq_true rfl) rfl rfl ?_;simp only [stU])
 | refine awc_nilq (by kernel_rfl) (by kernel_rfl) ?_
 | (refine fun (hc : _ = _)=>?_;first|cases hc|((try rw [hc]);(try simp only [stH] at hc);(try (exfalso;omega)));(try ((first|show Awl _ _ _ _ _|show Awc _ _ _ _ _ _);simp only [stU])))
 | ((first|refine fun (K : V → List _ → _) hK=>?_|refine fun (_ : V → V)=>?_);simp (disch:=omega) only [go_sem,Int.reduceEq,↓reduceIte,reduceCtorEq,Nat.reduceEqDiff,Nat.reduceLT,Nat.reduceLeDiff,Nat.reduceAdd,Nat.reduceSub,Nat.reduceMul,Int.reduceToNat,Int.reduceLE,Int.reduceLT,NMayLeaf,Sp_overdubref20_two,Sp_overdubref20_place,stBMayLeaf,e2,Sg3,St.updIf,ifc_nil,gt_ifc,go_ifc,ite_self,Option.none_or,Option.some_or];(try (revert hK;intro hK;(repeat' first|(refine And.intro ?_ ?_)|(intro hc;first|cases hc|((try rw [hc]);(try simp only [stH] at hc);(try (exfalso;omega)))));all_goals first|(refine hK _ _ ?_;clear hK K;simp only [stU])|exact hK|omega)))
          refine ⟨k + 1,by omega,hf,by omega,nm [],Wk.of ?_⟩
          simp (disch:=omega) only [go_sem,Int.reduceEq,↓reduceIte,reduceCtorEq,Nat.reduceEqDiff,Nat.reduceLT,Nat.reduceLeDiff,Nat.reduceAdd,Nat.reduceSub,Nat.reduceMul,Int.reduceToNat,Int.reduceLE,Int.reduceLT,NMayLeaf,Sp_overdubref20_two,Sp_overdubref20_place]
          all_goals first|done|rfl|exact ⟨rfl,rfl⟩
    · obtain rfl : k = l.length:=by omega
      have hz:=bMayLeaf_end l hok
      by_cases h1 : 1 ≤ l.length
      · have d1 : decide (1 ≤ (l.length : Int)) = true:=decide_eq_true (by omega)
        have d2 : decide ((l.length : Int) ≤ 8) = decide (l.length ≤ 8):=by rw [decide_eq_decide];omega
        have d3 : decide (1 ≤ l.length) = true:=decide_eq_true h1
        rw [d3,Bool.true_and] at hz
        repeat' first
 | refine AW.seq ?_
 | refine AW.block ?_
 | refine AW.regl NMayLeaf_ok [0,2,3,4,6,7,8,82] ?_
 | (refine AW.regq (id:=5) NMayLeaf_ok follows bb_overdubref20_MayLeaf_5 (by kernel_rfl) [0,2,3,4,6,7,8,82] ?_)
 | refine then_n ?_
 | refine then_r ?_
 | refine then_x ?_
 | refine block_x ?_
 | refine block_o (by decide) ?_
 | refine block_n ?_
 | refine block_r ?_
 | refine AW.skip ?_
 | refine AW.ret ?_
 | refine AW.exit ?_
 | refine AW.cond rfl ?_ ?_
 | refine awl_none rfl ?_
 | refine awl_nil2 ?_
 | refine awl_some rfl rfl (Nat.le_of_ble_eq_true rfl) rfl rfl ?_ ?_
 | refine awc_none rfl ?_
 | refine awc_some rfl rfl (Nat.le_of_ble_eq_true rfl) rfl rfl ?_ ?_
 | (refine awc_skip rfl rfl (Nat.le_of_ble_eq_true rfl) rfl rfl ?_;simp only [stU])
 | refine awc_nilq (by kernel_rfl) (by kernel_rfl) ?_
 | (refine fun (hc : _ = _)=>?_;first|cases hc|((try rw [hc]);(try simp only [stH] at hc);(try (exfalso;omega)));(try ((first|show Awl _ _ _ _ _|show Awc _ _ _ _ _ _);simp only [stU])))
 | ((first|refine fun (K : V → List _ → _) hK=>?_|refine fun (_ : V → V)=>?_);simp (disch:=omega) only [go_sem,Int.reduceEq,↓reduceIte,reduceCtorEq,Nat.reduceEqDiff,Nat.reduceLT,Nat.reduceLeDiff,Nat.reduceAdd,Nat.reduceSub,Nat.reduceMul,Int.reduceToNat,Int.reduceLE,Int.reduceLT,NMayLeaf,Sp_overdubref20_two,Sp_overdubref20_place,d1,d2,Sg3,St.updIf,ifc_nil,gt_ifc,go_ifc,ite_self,Option.none_or,Option.some_or];(try (revert hK;intro hK;(repeat' first|(refine And.intro ?_ ?_)|(intro hc;first|cases hc|((try rw [hc]);(try simp only [stH] at hc);(try (exfalso;omega)))));all_goals first|(refine hK _ _ ?_;clear hK K;simp only [stU])|exact hK|omega)))
        (refine Ends.of (nm []) (by first|exact .inl rfl|exact .inr rfl) ?_;simp (disch:=omega) only [go_sem,Int.reduceEq,↓reduceIte,reduceCtorEq,Nat.reduceEqDiff,Nat.reduceLT,Nat.reduceLeDiff,Nat.reduceAdd,Nat.reduceSub,Nat.reduceMul,Int.reduceToNat,Int.reduceLE,Int.reduceLT,NMayLeaf,Sp_overdubref20_two,Sp_overdubref20_place,hz])
      · have d1 : decide (1 ≤ (l.length : Int)) = false:=decide_eq_false (by omega)
        have d3 : decide (1 ≤ l.length) = false:=decide_eq_false h1
        rw [d3,Bool.false_and] at hz
        repeat' first
 | refine AW.seq ?_
 | refine AW.block ?_
 | refine AW.regl NMayLeaf_ok [0,2,3,4,6,7,8,82] ?_
 | (refine AW.regq (id:=5) NMayLeaf_ok follows bb_overdubref20_MayLeaf_5 (by kernel_rfl) [0,2,3,4,6,7,8,82] ?_)
 | refine then_n ?_
 | refine then_r ?_
 | refine then_x ?_
 | refine block_x ?_
 | refine block_o (by decide) ?_
 | refine block_n ?_
 | refine block_r ?_
 | refine AW.skip ?_
 | refine AW.ret ?_
 | refine AW.exit ?_
 | refine AW.cond rfl ?_ ?_
 | refine awl_none rfl ?_
 | refine awl_nil2 ?_
 | refine awl_some rfl rfl (Nat.le_of_ble_eq_true rfl) rfl rfl ?_ ?_
 | refine awc_none rfl ?_
 | refine awc_some rfl rfl (Nat.le_of_ble_eq_true rfl) rfl rfl ?_ ?_
 | (refine awc_skip rfl rfl (Nat.le_of_ble_eq_true rfl) rfl rfl ?_;simp only [stU])
 | refine awc_nilq (by kernel_rfl) (by kernel_rfl) ?_
 | (refine fun (hc : _ = _)=>?_;first|cases hc|((try rw [hc]);(try simp only [stH] at hc);(try (exfalso;omega)));(try ((first|show Awl _ _ _ _ _|show Awc _ _ _ _ _ _);simp only [stU])))
 | ((first|refine fun (K : V → List _ → _) hK=>?_|refine fun (_ : V → V)=>?_);simp (disch:=omega) only [go_sem,Int.reduceEq,↓reduceIte,reduceCtorEq,Nat.reduceEqDiff,Nat.reduceLT,Nat.reduceLeDiff,Nat.reduceAdd,Nat.reduceSub,Nat.reduceMul,Int.reduceToNat,Int.reduceLE,Int.reduceLT,NMayLeaf,Sp_overdubref20_two,Sp_overdubref20_place,d1,Sg3,St.updIf,ifc_nil,gt_ifc,go_ifc,ite_self,Option.none_or,Option.some_or];(try (revert hK;intro hK;(repeat' first|(refine And.intro ?_ ?_)|(intro hc;first|cases hc|((try rw [hc]);(try simp only [stH] at hc);(try (exfalso;omega)))));all_goals first|(refine hK _ _ ?_;clear hK K;simp only [stU])|exact hK|omega)))
        (refine Ends.of (nm []) (by first|exact .inl rfl|exact .inr rfl) ?_;simp (disch:=omega) only [go_sem,Int.reduceEq,↓reduceIte,reduceCtorEq,Nat.reduceEqDiff,Nat.reduceLT,Nat.reduceLeDiff,Nat.reduceAdd,Nat.reduceSub,Nat.reduceMul,Int.reduceToNat,Int.reduceLE,Int.reduceLT,NMayLeaf,Sp_overdubref20_two,Sp_overdubref20_place,hz])
theorem ent_overdubref20_MayLeaf : Ent Try.prog 53:=⟨_,Try.func53,rfl,by decide⟩
end Go.Proofs.Ytigkcigoiinkpaa.Am
