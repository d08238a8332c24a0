import Derived.Test.YtigkcigoiinkpaaZNEa
import Derived.Test.YtigkcigoiinkpaaZZA
set_option linter.unusedVariables false
set_option linter.unusedSimpArgs false
set_option maxRecDepth 10000
set_option maxHeartbeats 0
namespace Go.Proofs.Ytigkcigoiinkpaa.Am
open Go Go.RowKit Go.Proofs
def dmyyDir : Nat:=0
noncomputable def NMayDir : Env:=⟨Try.prog,fun f ds out=>(f = 74 ∧ Sp_overdubref20_place ds out),Es,fun _=>false⟩
theorem NMayDir_sp : ∀ f ds out,NMayDir.Sp f ds out → Ent NMayDir.P f ∧ Good NMayDir.P f (fun a b=>a = ds ∧ b = out):=by
  rintro f ds out ⟨rfl,h⟩
  exact ⟨ent_overdubref20_place,good_overdubref20_place.one h⟩
theorem NMayDir_ok : NMayDir.Ok:=⟨NMayDir_sp,Es_ok⟩
def stAMayDir (l : List Ln) (k : Nat) (a b c : Int) : St:=⟨[(0,.d (.list (l.map lD))),(2,.d (.v (.bool false))),(3,.d (.v (.int .i64 k))),(4,.ptr 4 0),(6,.d (.v (.int .i64 l.length))),(7,.d (.v (.int .i64 k)))],[(4,.box [.d (.v (.int .i64 a)),.d (.v (.int .i64 b)),.d (.v (.int .i64 c))])],71⟩
def stBMayDir (l : List Ln) (k : Nat) (a b c : Int) (v : Bool) : St:=⟨[(0,.d (.list (l.map lD))),(2,.d (.v (.bool false))),(4,.ptr 4 0),(6,.d (.v (.int .i64 l.length))),(7,.d (.v (.int .i64 k))),(66,.d (.v (.bool v)))],[(4,.box [.d (.v (.int .i64 a)),.d (.v (.int .i64 b)),.d (.v (.int .i64 c))])],71⟩
def cMayDir (k : Nat) (q qb qc a b c : Int) : Prop:=0 ≤ a ∧ a ≤ 99 ∧ (0 < k → q < a) ∧ 0 ≤ b ∧ b ≤ 1000 ∧ (c ≠ 0 → secN c) ∧ (c = 0 ↔ b = 0)
open Classical in
noncomputable def bMayDir (l : List Ln) : Bool:=decide (mayD l)
open Classical in
theorem bMayDir_no {l : List Ln} {k : Nat} (h : ¬ okL l k) (hk : k < l.length) : bMayDir l = false:=decide_eq_false fun h2=>h (h2.2 k hk)
open Classical in
theorem bMayDir_end (l : List Ln) (h : ∀ i,i < l.length → okL l i) : bMayDir l = decide (l.length ≤ 6):=by
  unfold bMayDir
  rw [decide_eq_decide];exact ⟨fun h2=>h2.1,fun h2=>⟨h2,h⟩⟩
theorem bMayDir_item (l : List Ln) (k : Nat) : okL l k ↔ cMayDir k (l.getD (k - 1) l0).a (l.getD (k - 1) l0).b (l.getD (k - 1) l0).c (l.getD k l0).a (l.getD k l0).b (l.getD k l0).c:=Iff.rfl
def bb_overdubref20_MayDir_5 : List Nat:=[0,1,3,7,15,31,63,127,255,511,1023,2047,4095,8191,4095,4095,36863,118783,249855,511999,1048575,2097151,4194303,8388607,16777215,33554431,67108863,134217727,268435455,536870911,1073741823,2147483647,4294967295,8589934591,17179869183,34359738367,68719476735,17179869183,154618822655,429496729599,1099511627775,2199023255551,4398046511103,8796093022207,17592186044415,35184372088831,70368744177663,140737488355327,281474976710655,562949953421311,1125899906842623,2251799813685247,4503599627370495]
theorem rMayDir {l : List Ln} {k : Nat} {q qb qc a b c : Int} (hl : l.length ≤ 9223372036854775807) (hk1 : k < l.length) (e2 : nth (l.map lD) k = .agg [.v (.int .i64 a),.v (.int .i64 b),.v (.int .i64 c)])
    (e3 : 0 < k → nth (l.map lD) ((k : Int) - 1).toNat = .agg [.v (.int .i64 q),.v (.int .i64 qb),.v (.int .i64 qc)])  {Q : Exit → St → Prop} : AW Try.prog (sub [1,0,1,0,0,1,1,0,0,1,1,0] (bd Try.f63)) (stAMayDir l k a b c) (thenA (midxN (stBMayDir l k a b c) fun v=>v = true ↔ ¬ cMayDir k q qb qc a b c) Q):=by
  by_cases h1 : a < 0
  focus
    have d0 : decide (a < 0) = true:=decide_eq_true h1
    have d1 : dmyyDir = 0:=rfl
    have d2 : dmyyDir = 0:=rfl
    have d3 : dmyyDir = 0:=rfl
    have d4 : dmyyDir = 0:=rfl
    have d5 : dmyyDir = 0:=rfl
    have d6 : dmyyDir = 0:=rfl
    have d7 : dmyyDir = 0:=rfl
    have d8 : dmyyDir = 0:=rfl
    have e3':=e2
    have hz : ¬ cMayDir k q qb qc a b c:=fun h=>by unfold cMayDir at h;first|omega|(refine ⟨by omega,by omega,by omega,by omega,by omega,fun _=>by assumption,by omega⟩)|(exact absurd (h.2.2.2.2.2.1 (by assumption)) (by assumption))
  rotate_left 1
  focus
    by_cases h2 : 99 < a
    focus
      have d0 : decide (a < 0) = false:=decide_eq_false h1
      have d1 : decide (99 < a) = true:=decide_eq_true h2
      have d2 : dmyyDir = 0:=rfl
      have d3 : dmyyDir = 0:=rfl
      have d4 : dmyyDir = 0:=rfl
      have d5 : dmyyDir = 0:=rfl
      have d6 : dmyyDir = 0:=rfl
      have d7 : dmyyDir = 0:=rfl
      have d8 : dmyyDir = 0:=rfl
      have e3':=e2
      have hz : ¬ cMayDir k q qb qc a b c:=fun h=>by unfold cMayDir at h;first|omega|(refine ⟨by omega,by omega,by omega,by omega,by omega,fun _=>by assumption,by omega⟩)|(exact absurd (h.2.2.2.2.2.1 (by assumption)) (by assumption))
    rotate_left 1
    focus
      by_cases h3 : 0 < k
      focus
        by_cases h4 : a ≤ q
        focus
          have d0 : decide (a < 0) = false:=decide_eq_false h1
          have d1 : decide (99 < a) = false:=decide_eq_false h2
          have d2 : decide (0 < (k : Int)) = true:=decide_eq_true (by omega)
          have d3 : decide (a ≤ q) = true:=decide_eq_true h4
          have d4 : dmyyDir = 0:=rfl
          have d5 : dmyyDir = 0:=rfl
          have d6 : dmyyDir = 0:=rfl
          have d7 : dmyyDir = 0:=rfl
          have d8 : dmyyDir = 0:=rfl
          have e3':=e3 h3
          have hz : ¬ cMayDir k q qb qc a b c:=fun h=>by unfold cMayDir at h;first|omega|(refine ⟨by omega,by omega,by omega,by omega,by omega,fun _=>by assumption,by omega⟩)|(exact absurd (h.2.2.2.2.2.1 (by assumption)) (by assumption))
        rotate_left 1
        focus
          by_cases h5 : b < 0
          focus
            have d0 : decide (a < 0) = false:=decide_eq_false h1
            have d1 : decide (99 < a) = false:=decide_eq_false h2
            have d2 : decide (0 < (k : Int)) = true:=decide_eq_true (by omega)
            have d3 : decide (a ≤ q) = false:=decide_eq_false h4
            have d4 : decide (b < 0) = true:=decide_eq_true h5
            have d5 : dmyyDir = 0:=rfl
            have d6 : dmyyDir = 0:=rfl
            have d7 : dmyyDir = 0:=rfl
            have d8 : dmyyDir = 0:=rfl
            have e3':=e3 h3
            have hz : ¬ cMayDir k q qb qc a b c:=fun h=>by unfold cMayDir at h;first|omega|(refine ⟨by omega,by omega,by omega,by omega,by omega,fun _=>by assumption,by omega⟩)|(exact absurd (h.2.2.2.2.2.1 (by assumption)) (by assumption))
          rotate_left 1
          focus
            by_cases h6 : 1000 < b
            focus
              have d0 : decide (a < 0) = false:=decide_eq_false h1
              have d1 : decide (99 < a) = false:=decide_eq_false h2
              have d2 : decide (0 < (k : Int)) = true:=decide_eq_true (by omega)
              have d3 : decide (a ≤ q) = false:=decide_eq_false h4
              have d4 : decide (b < 0) = false:=decide_eq_false h5
              have d5 : decide (1000 < b) = true:=decide_eq_true h6
              have d6 : dmyyDir = 0:=rfl
              have d7 : dmyyDir = 0:=rfl
              have d8 : dmyyDir = 0:=rfl
              have e3':=e3 h3
              have hz : ¬ cMayDir k q qb qc a b c:=fun h=>by unfold cMayDir at h;first|omega|(refine ⟨by omega,by omega,by omega,by omega,by omega,fun _=>by assumption,by omega⟩)|(exact absurd (h.2.2.2.2.2.1 (by assumption)) (by assumption))
            rotate_left 1
            focus
              by_cases h7 : b = 0
              focus
                by_cases h8 : c = 0
                focus
                  have d0 : decide (a < 0) = false:=decide_eq_false h1
                  have d1 : decide (99 < a) = false:=decide_eq_false h2
                  have d2 : decide (0 < (k : Int)) = true:=decide_eq_true (by omega)
                  have d3 : decide (a ≤ q) = false:=decide_eq_false h4
                  have d4 : decide (b < 0) = false:=decide_eq_false h5
                  have d5 : decide (1000 < b) = false:=decide_eq_false h6
                  have d6 : decide (b = 0) = true:=decide_eq_true h7
                  have d7 : decide (c = 0) = true:=decide_eq_true h8
                  have d8 : dmyyDir = 0:=rfl
                  have e3':=e3 h3
                  have hz : cMayDir k q qb qc a b c:=by unfold cMayDir;first|omega|(refine ⟨by omega,by omega,by omega,by omega,by omega,fun _=>by assumption,by omega⟩)|(exact absurd (h.2.2.2.2.2.1 (by assumption)) (by assumption))
                rotate_left 1
                focus
                  have d0 : decide (a < 0) = false:=decide_eq_false h1
                  have d1 : decide (99 < a) = false:=decide_eq_false h2
                  have d2 : decide (0 < (k : Int)) = true:=decide_eq_true (by omega)
                  have d3 : decide (a ≤ q) = false:=decide_eq_false h4
                  have d4 : decide (b < 0) = false:=decide_eq_false h5
                  have d5 : decide (1000 < b) = false:=decide_eq_false h6
                  have d6 : decide (b = 0) = true:=decide_eq_true h7
                  have d7 : decide (c = 0) = false:=decide_eq_false h8
                  have d8 : dmyyDir = 0:=rfl
                  have e3':=e3 h3
                  have hz : ¬ cMayDir k q qb qc a b c:=fun h=>by unfold cMayDir at h;first|omega|(refine ⟨by omega,by omega,by omega,by omega,by omega,fun _=>by assumption,by omega⟩)|(exact absurd (h.2.2.2.2.2.1 (by assumption)) (by assumption))
              rotate_left 2
              focus
                by_cases h9 : c = 0
                focus
                  have d0 : decide (a < 0) = false:=decide_eq_false h1
                  have d1 : decide (99 < a) = false:=decide_eq_false h2
                  have d2 : decide (0 < (k : Int)) = true:=decide_eq_true (by omega)
                  have d3 : decide (a ≤ q) = false:=decide_eq_false h4
                  have d4 : decide (b < 0) = false:=decide_eq_false h5
                  have d5 : decide (1000 < b) = false:=decide_eq_false h6
                  have d6 : decide (b = 0) = false:=decide_eq_false h7
                  have d7 : decide (c = 0) = true:=decide_eq_true h9
                  have d8 : dmyyDir = 0:=rfl
                  have e3':=e3 h3
                  have hz : ¬ cMayDir k q qb qc a b c:=fun h=>by unfold cMayDir at h;first|omega|(refine ⟨by omega,by omega,by omega,by omega,by omega,fun _=>by assumption,by omega⟩)|(exact absurd (h.2.2.2.2.2.1 (by assumption)) (by assumption))
                rotate_left 1
                focus
                  by_cases h10 : secN c
                  focus
                    have d0 : decide (a < 0) = false:=decide_eq_false h1
                    have d1 : decide (99 < a) = false:=decide_eq_false h2
                    have d2 : decide (0 < (k : Int)) = true:=decide_eq_true (by omega)
                    have d3 : decide (a ≤ q) = false:=decide_eq_false h4
                    have d4 : decide (b < 0) = false:=decide_eq_false h5
                    have d5 : decide (1000 < b) = false:=decide_eq_false h6
                    have d6 : decide (b = 0) = false:=decide_eq_false h7
                    have d7 : decide (c = 0) = false:=decide_eq_false h9
                    have d8 : decide (secN c) = true:=decide_eq_true h10
                    have e3':=e3 h3
                    have hz : cMayDir k q qb qc a b c:=by unfold cMayDir;first|omega|(refine ⟨by omega,by omega,by omega,by omega,by omega,fun _=>by assumption,by omega⟩)|(exact absurd (h.2.2.2.2.2.1 (by assumption)) (by assumption))
                  rotate_left 1
                  focus
                    have d0 : decide (a < 0) = false:=decide_eq_false h1
                    have d1 : decide (99 < a) = false:=decide_eq_false h2
                    have d2 : decide (0 < (k : Int)) = true:=decide_eq_true (by omega)
                    have d3 : decide (a ≤ q) = false:=decide_eq_false h4
                    have d4 : decide (b < 0) = false:=decide_eq_false h5
                    have d5 : decide (1000 < b) = false:=decide_eq_false h6
                    have d6 : decide (b = 0) = false:=decide_eq_false h7
                    have d7 : decide (c = 0) = false:=decide_eq_false h9
                    have d8 : decide (secN c) = false:=decide_eq_false h10
                    have e3':=e3 h3
                    have hz : ¬ cMayDir k q qb qc a b c:=fun h=>by unfold cMayDir at h;first|omega|(refine ⟨by omega,by omega,by omega,by omega,by omega,fun _=>by assumption,by omega⟩)|(exact absurd (h.2.2.2.2.2.1 (by assumption)) (by assumption))
      rotate_left 8
      focus
        by_cases h11 : b < 0
        focus
          have d0 : decide (a < 0) = false:=decide_eq_false h1
          have d1 : decide (99 < a) = false:=decide_eq_false h2
          have d2 : decide (0 < (k : Int)) = false:=decide_eq_false (by omega)
          have d3 : dmyyDir = 0:=rfl
          have d4 : decide (b < 0) = true:=decide_eq_true h11
          have d5 : dmyyDir = 0:=rfl
          have d6 : dmyyDir = 0:=rfl
          have d7 : dmyyDir = 0:=rfl
          have d8 : dmyyDir = 0:=rfl
          have e3':=e2
          have hz : ¬ cMayDir k q qb qc a b c:=fun h=>by unfold cMayDir at h;first|omega|(refine ⟨by omega,by omega,by omega,by omega,by omega,fun _=>by assumption,by omega⟩)|(exact absurd (h.2.2.2.2.2.1 (by assumption)) (by assumption))
        rotate_left 1
        focus
          by_cases h12 : 1000 < b
          focus
            have d0 : decide (a < 0) = false:=decide_eq_false h1
            have d1 : decide (99 < a) = false:=decide_eq_false h2
            have d2 : decide (0 < (k : Int)) = false:=decide_eq_false (by omega)
            have d3 : dmyyDir = 0:=rfl
            have d4 : decide (b < 0) = false:=decide_eq_false h11
            have d5 : decide (1000 < b) = true:=decide_eq_true h12
            have d6 : dmyyDir = 0:=rfl
            have d7 : dmyyDir = 0:=rfl
            have d8 : dmyyDir = 0:=rfl
            have e3':=e2
            have hz : ¬ cMayDir k q qb qc a b c:=fun h=>by unfold cMayDir at h;first|omega|(refine ⟨by omega,by omega,by omega,by omega,by omega,fun _=>by assumption,by omega⟩)|(exact absurd (h.2.2.2.2.2.1 (by assumption)) (by assumption))
          rotate_left 1
          focus
            by_cases h13 : b = 0
            focus
              by_cases h14 : c = 0
              focus
                have d0 : decide (a < 0) = false:=decide_eq_false h1
                have d1 : decide (99 < a) = false:=decide_eq_false h2
                have d2 : decide (0 < (k : Int)) = false:=decide_eq_false (by omega)
                have d3 : dmyyDir = 0:=rfl
                have d4 : decide (b < 0) = false:=decide_eq_false h11
                have d5 : decide (1000 < b) = false:=decide_eq_false h12
                have d6 : decide (b = 0) = true:=decide_eq_true h13
                have d7 : decide (c = 0) = true:=decide_eq_true h14
                have d8 : dmyyDir = 0:=rfl
                have e3':=e2
                have hz : cMayDir k q qb qc a b c:=by unfold cMayDir;first|omega|(refine ⟨by omega,by omega,by omega,by omega,by omega,fun _=>by assumption,by omega⟩)|(exact absurd (h.2.2.2.2.2.1 (by assumption)) (by assumption))
              rotate_left 1
              focus
                have d0 : decide (a < 0) = false:=decide_eq_false h1
                have d1 : decide (99 < a) = false:=decide_eq_false h2
                have d2 : decide (0 < (k : Int)) = false:=decide_eq_false (by omega)
                have d3 : dmyyDir = 0:=rfl
                have d4 : decide (b < 0) = false:=decide_eq_false h11
                have d5 : decide (1000 < b) = false:=decide_eq_false h12
                have d6 : decide (b = 0) = true:=decide_eq_true h13
                have d7 : decide (c = 0) = false:=decide_eq_false h14
                have d8 : dmyyDir = 0:=rfl
                have e3':=e2
                have hz : ¬ cMayDir k q qb qc a b c:=fun h=>by unfold cMayDir at h;first|omega|(refine ⟨by omega,by omega,by omega,by omega,by omega,fun _=>by assumption,by omega⟩)|(exact absurd (h.2.2.2.2.2.1 (by assumption)) (by assumption))
            rotate_left 2
            focus
              by_cases h15 : c = 0
              focus
                have d0 : decide (a < 0) = false:=decide_eq_false h1
                have d1 : decide (99 < a) = false:=decide_eq_false h2
                have d2 : decide (0 < (k : Int)) = false:=decide_eq_false (by omega)
                have d3 : dmyyDir = 0:=rfl
                have d4 : decide (b < 0) = false:=decide_eq_false h11
                have d5 : decide (1000 < b) = false:=decide_eq_false h12
                have d6 : decide (b = 0) = false:=decide_eq_false h13
                have d7 : decide (c = 0) = true:=decide_eq_true h15
                have d8 : dmyyDir = 0:=rfl
                have e3':=e2
                have hz : ¬ cMayDir k q qb qc a b c:=fun h=>by unfold cMayDir at h;first|omega|(refine ⟨by omega,by omega,by omega,by omega,by omega,fun _=>by assumption,by omega⟩)|(exact absurd (h.2.2.2.2.2.1 (by assumption)) (by assumption))
              rotate_left 1
              focus
                by_cases h16 : secN c
                focus
                  have d0 : decide (a < 0) = false:=decide_eq_false h1
                  have d1 : decide (99 < a) = false:=decide_eq_false h2
                  have d2 : decide (0 < (k : Int)) = false:=decide_eq_false (by omega)
                  have d3 : dmyyDir = 0:=rfl
                  have d4 : decide (b < 0) = false:=decide_eq_false h11
                  have d5 : decide (1000 < b) = false:=decide_eq_false h12
                  have d6 : decide (b = 0) = false:=decide_eq_false h13
                  have d7 : decide (c = 0) = false:=decide_eq_false h15
                  have d8 : decide (secN c) = true:=decide_eq_true h16
                  have e3':=e2
                  have hz : cMayDir k q qb qc a b c:=by unfold cMayDir;first|omega|(refine ⟨by omega,by omega,by omega,by omega,by omega,fun _=>by assumption,by omega⟩)|(exact absurd (h.2.2.2.2.2.1 (by assumption)) (by assumption))
                rotate_left 1
                focus
                  have d0 : decide (a < 0) = false:=decide_eq_false h1
                  have d1 : decide (99 < a) = false:=decide_eq_false h2
                  have d2 : decide (0 < (k : Int)) = false:=decide_eq_false (by omega)
                  have d3 : dmyyDir = 0:=rfl
                  have d4 : decide (b < 0) = false:=decide_eq_false h11
                  have d5 : decide (1000 < b) = false:=decide_eq_false h12
                  have d6 : decide (b = 0) = false:=decide_eq_false h13
                  have d7 : decide (c = 0) = false:=decide_eq_false h15
                  have d8 : decide (secN c) = false:=decide_eq_false h16
                  have e3':=e2
                  have hz : ¬ cMayDir k q qb qc a b c:=fun h=>by unfold cMayDir at h;first|omega|(refine ⟨by omega,by omega,by omega,by omega,by omega,fun _=>by assumption,by omega⟩)|(exact absurd (h.2.2.2.2.2.1 (by assumption)) (by assumption))
  all_goals as_aux_lemma =>
    skip
    repeat' first
 | refine AW.seq ?_
 | refine AW.block ?_
 | refine AW.regl NMayDir_ok [0,2,3,4,6,7,8,66] ?_
 | (refine AW.regq (id:=5) NMayDir_ok follows bb_overdubref20_MayDir_5 (by kernel_rfl) [0,2,3,4,6,7,8,66] ?_)
 | refine then_n ?_
 | refine then_r ?_
 | refine then_x ?_
 | refine block_x ?_
 | refine block_o (by decide) ?_
 | refine block_n ?_
 | refine block_r ?_
 | refine AW.skip ?_
 | refine AW.ret ?_
 | refine AW.exit ?_
 | refine AW.cond rfl ?_ ?_
 | refine awl_none rfl ?_
 | refine awl_nil2 ?_
 | refine awc_none rfl ?_
 | refine awc_some rfl rfl (Nat.le_of_ble_eq_true rfl) rfl rfl ?_ ?_
 | (refine awc_skip rfl rfl (Nat.le_of_ble_eq_true rfl) rfl rfl ?_;simp only [stU])
 | refine awc_nilq (by kernel_rfl) (by kernel_rfl) ?_
 | (refine fun (hc : _ = _)=>?_;first|cases hc|((try rw [hc]);(try simp only [stH] at hc);(try (exfalso;omega)));(try ((first|show Awl _ _ _ _ _|show Awc _ _ _ _ _ _);simp only [stU])))
 | ((first|refine fun (K : V → List _ → _) hK=>?_|refine fun (_ : V → V)=>?_);simp (disch:=omega) only [go_sem,Int.reduceEq,↓reduceIte,reduceCtorEq,Nat.reduceEqDiff,Nat.reduceLT,Nat.reduceLeDiff,Nat.reduceAdd,Nat.reduceSub,Nat.reduceMul,Int.reduceToNat,Int.reduceLE,Int.reduceLT,NMayDir,Sp_overdubref20_place,stAMayDir,e2,e3',d0,d1,d2,d3,d4,d5,d6,d7,d8,decide_not,Bool.not_true,Bool.not_false,Sg3,St.updIf,ifc_nil,gt_ifc,go_ifc,ite_self,Option.none_or,Option.some_or];(try (revert hK;intro hK;(repeat' first|(refine And.intro ?_ ?_)|(intro hc;first|cases hc|((try rw [hc]);(try simp only [stH] at hc);(try (exfalso;omega)))));all_goals first|(refine hK _ _ ?_;clear hK K;simp only [stU])|exact hK|omega)))
    first|(refine ⟨true,⟨fun _=>hz,fun _=>rfl⟩,nm [],Wk.of ?_⟩)|(refine ⟨false,⟨fun h=>(by cases h),fun h=>absurd hz h⟩,nm [],Wk.of ?_⟩)
    simp (disch:=omega) only [go_sem,Int.reduceEq,↓reduceIte,reduceCtorEq,Nat.reduceEqDiff,Nat.reduceLT,Nat.reduceLeDiff,Nat.reduceAdd,Nat.reduceSub,Nat.reduceMul,Int.reduceToNat,Int.reduceLE,Int.reduceLT,NMayDir,Sp_overdubref20_place,stBMayDir]
def Sp_overdubref20_MayDir (ds : List D) (out : Out) : Prop:=∃ l : List Ln,ds = [.list (l.map lD)] ∧ l.length ≤ 9223372036854775807 ∧ out = ⟨.d (.v (.bool (bMayDir l))),[]⟩
theorem good_overdubref20_MayDir : Good Try.prog 63 Sp_overdubref20_MayDir:=by
  refine good_body (E:=NMayDir) (nt:=71) (rs:=#[.tmp 2]) Try.func63 rfl rfl rfl ?_
  rintro ds out ⟨l,rfl,hl,rfl⟩
  refine ⟨by simp,?_⟩
  repeat' first
 | refine AW.seq ?_
 | refine AW.block ?_
 | refine AW.regl NMayDir_ok [0,2,3,4,6,7,8,66] ?_
 | refine then_n ?_
 | refine then_r ?_
 | refine then_x ?_
 | refine block_x ?_
 | refine block_o (by decide) ?_
 | refine block_n ?_
 | refine block_r ?_
 | refine AW.skip ?_
 | refine AW.ret ?_
 | refine AW.exit ?_
 | refine AW.cond rfl ?_ ?_
 | refine awl_none rfl ?_
 | refine awl_nil2 ?_
 | refine awc_none rfl ?_
 | refine awc_some rfl rfl (Nat.le_of_ble_eq_true rfl) rfl rfl ?_ ?_
 | (refine awc_skip rfl rfl (Nat.le_of_ble_eq_true rfl) rfl rfl ?_;simp only [stU])
 | (refine fun (hc : _ = _)=>?_;first|cases hc|((try rw [hc]);(try simp only [stH] at hc);(try (exfalso;omega)));(try ((first|show Awl _ _ _ _ _|show Awc _ _ _ _ _ _);simp only [stU])))
 | ((first|refine fun (K : V → List _ → _) hK=>?_|refine fun (_ : V → V)=>?_);simp (disch:=omega) only [go_sem,Int.reduceEq,↓reduceIte,reduceCtorEq,Nat.reduceEqDiff,Nat.reduceLT,Nat.reduceLeDiff,Nat.reduceAdd,Nat.reduceSub,Nat.reduceMul,Int.reduceToNat,Int.reduceLE,Int.reduceLT,NMayDir,Sp_overdubref20_place,Sg3,St.updIf,ifc_nil,gt_ifc,go_ifc,ite_self,Option.none_or,Option.some_or];(try (revert hK;intro hK;(repeat' first|(refine And.intro ?_ ?_)|(intro hc;first|cases hc|((try rw [hc]);(try simp only [stH] at hc);(try (exfalso;omega)))));all_goals first|(refine hK _ _ ?_;clear hK K;simp only [stU])|exact hK|omega)))
  refine AW.loop_wk (fun k : Nat=>⟨[(0,.d (.list (l.map lD))),(2,.d (.v (.bool false))),(6,.d (.v (.int .i64 l.length))),(7,.d (.v (.int .i64 k)))],[],71⟩)
    (fun k=>k ≤ l.length ∧ ∀ i,i < k → okL l i) (fun k=>l.length - k) 0 ⟨by omega,fun i hi=>by omega⟩ (fun w0 oa a w hs=>Wk.sr (ρ:=nm []) (Wk.of ?_) hs) ?_
  · simp (disch:=omega) only [go_sem,Int.reduceEq,↓reduceIte,reduceCtorEq,Nat.reduceEqDiff,Nat.reduceLT,Nat.reduceLeDiff,Nat.reduceAdd,Nat.reduceSub,Nat.reduceMul,Int.reduceToNat,Int.reduceLE,Int.reduceLT,NMayDir,Sp_overdubref20_place]
    all_goals first|done|exact ⟨rfl,rfl⟩|rfl
  · rintro k ⟨hk,hok⟩
    by_cases hk1 : k < l.length
    · have e2:=nth_Lh l k hk1
      have e3 : 0 < k → nth (l.map lD) ((k : Int) - 1).toNat = lD (l.getD (k - 1) l0):=fun h=>by rw [show ((k : Int) - 1).toNat = k - 1 by omega];exact nth_L l _ (by omega)
      have hzz : ¬ okL l k → bMayDir l = false:=fun h=>bMayDir_no h hk1
      have hokk:=bMayDir_item l k
      generalize l.getD k l0 = P at *
      generalize l.getD (k - 1) l0 = Q at *
      obtain ⟨a,b,c⟩:=P
      obtain ⟨q,qb,qc⟩:=Q
      dsimp only at hokk e2
      replace e2 : nth (l.map lD) k = .agg [.v (.int .i64 a),.v (.int .i64 b),.v (.int .i64 c)]:=e2
      replace e3 : 0 < k → nth (l.map lD) ((k : Int) - 1).toNat = .agg [.v (.int .i64 q),.v (.int .i64 qb),.v (.int .i64 qc)]:=e3
      have hfin : okL l k → ∀ i,i < k + 1 → okL l i:=fun h i hi=>by
        by_cases he : i = k
        · rw [he];exact h
        · exact hok i (by omega)
      clear hok
      repeat' first
 | refine AW.seq ?_
 | refine AW.block ?_
 | refine AW.regl NMayDir_ok [0,2,3,4,6,7,8,66] ?_
 | refine then_n ?_
 | refine then_r ?_
 | refine then_x ?_
 | refine block_x ?_
 | refine block_o (by decide) ?_
 | refine block_n ?_
 | refine block_r ?_
 | refine AW.skip ?_
 | refine AW.ret ?_
 | refine AW.exit ?_
 | refine AW.cond rfl ?_ ?_
 | refine awl_none rfl ?_
 | refine awl_nil2 ?_
 | refine awc_none rfl ?_
 | refine awc_some rfl rfl (Nat.le_of_ble_eq_true rfl) rfl rfl ?_ ?_
 | (refine awc_skip rfl rfl (Nat.le_of_ble_eq_true rfl) rfl rfl ?_;simp only [stU])
 | (refine fun (hc : _ = _)=>?_;first|cases hc|((try rw [hc]);(try simp only [stH] at hc);(try (exfalso;omega)));(try ((first|show Awl _ _ _ _ _|show Awc _ _ _ _ _ _);simp only [stU])))
 | ((first|refine fun (K : V → List _ → _) hK=>?_|refine fun (_ : V → V)=>?_);simp (disch:=omega) only [go_sem,Int.reduceEq,↓reduceIte,reduceCtorEq,Nat.reduceEqDiff,Nat.reduceLT,Nat.reduceLeDiff,Nat.reduceAdd,Nat.reduceSub,Nat.reduceMul,Int.reduceToNat,Int.reduceLE,Int.reduceLT,NMayDir,Sp_overdubref20_place,e2,Sg3,St.updIf,ifc_nil,gt_ifc,go_ifc,ite_self,Option.none_or,Option.some_or];(try (revert hK;intro hK;(repeat' first|(refine And.intro ?_ ?_)|(intro hc;first|cases hc|((try rw [hc]);(try simp only [stH] at hc);(try (exfalso;omega)))));all_goals first|(refine hK _ _ ?_;clear hK K;simp only [stU])|exact hK|omega)))
      refine AW.part (stBMayDir l k a b c) (fun v=>v = true ↔ ¬ cMayDir k q qb qc a b c) (stAMayDir l k a b c) ⟨nm [],Wk.of ?_⟩ ?_ ?_
      · simp (disch:=omega) only [go_sem,Int.reduceEq,↓reduceIte,reduceCtorEq,Nat.reduceEqDiff,Nat.reduceLT,Nat.reduceLeDiff,Nat.reduceAdd,Nat.reduceSub,Nat.reduceMul,Int.reduceToNat,Int.reduceLE,Int.reduceLT,NMayDir,Sp_overdubref20_place,stAMayDir]
      · exact rMayDir hl hk1 e2 e3
      · intro v hv s hs
        refine midN.go ?_ s hs
        cases v with
        | true =>
          have hz:=hzz fun h=>(hv.1 rfl) (hokk.1 h)
          clear hzz hv hokk e3
          repeat' first
 | refine AW.seq ?_
 | refine AW.block ?_
 | refine AW.regl NMayDir_ok [0,2,3,4,6,7,8,66] ?_
 | (refine AW.regq (id:=5) NMayDir_ok follows bb_overdubref20_MayDir_5 (by kernel_rfl) [0,2,3,4,6,7,8,66] ?_)
 | refine then_n ?_
 | refine then_r ?_
 | refine then_x ?_
 | refine block_x ?_
 | refine block_o (by decide) ?_
 | refine block_n ?_
 | refine block_r ?_
 | refine AW.skip ?_
 | refine AW.ret ?_
 | refine AW.exit ?_
 | refine AW.cond rfl ?_ ?_
 | refine awl_none rfl ?_
 | refine awl_nil2 ?_
 | refine awc_none rfl ?_
 | refine awc_some rfl rfl (Nat.le_of_ble_eq_true rfl) rfl rfl ?_ ?_
 | (refine awc_skip rfl rfl (Nat.le_of_ble_eq_true rfl) rfl rfl ?_;simp only [stU])
 | refine awc_nilq (by kernel_rfl) (by kernel_rfl) ?_
 | (refine fun (hc : _ = _)=>?_;first|cases hc|((try rw [hc]);(try simp only [stH] at hc);(try (exfalso;omega)));(try ((first|show Awl _ _ _ _ _|show Awc _ _ _ _ _ _);simp only [stU])))
 | ((first|refine fun (K : V → List _ → _) hK=>?_|refine fun (_ : V → V)=>?_);simp (disch:=omega) only [go_sem,Int.reduceEq,↓reduceIte,reduceCtorEq,Nat.reduceEqDiff,Nat.reduceLT,Nat.reduceLeDiff,Nat.reduceAdd,Nat.reduceSub,Nat.reduceMul,Int.reduceToNat,Int.reduceLE,Int.reduceLT,NMayDir,Sp_overdubref20_place,stBMayDir,e2,Sg3,St.updIf,ifc_nil,gt_ifc,go_ifc,ite_self,Option.none_or,Option.some_or];(try (revert hK;intro hK;(repeat' first|(refine And.intro ?_ ?_)|(intro hc;first|cases hc|((try rw [hc]);(try simp only [stH] at hc);(try (exfalso;omega)))));all_goals first|(refine hK _ _ ?_;clear hK K;simp only [stU])|exact hK|omega)))
          (refine Ends.of (nm []) (by first|exact .inl rfl|exact .inr rfl) ?_;simp (disch:=omega) only [go_sem,Int.reduceEq,↓reduceIte,reduceCtorEq,Nat.reduceEqDiff,Nat.reduceLT,Nat.reduceLeDiff,Nat.reduceAdd,Nat.reduceSub,Nat.reduceMul,Int.reduceToNat,Int.reduceLE,Int.reduceLT,NMayDir,Sp_overdubref20_place,hz])
        | false =>
          have hC : okL l k:=hokk.2 (Classical.byContradiction fun h=>by have:=hv.2 h;cases this)
          have hf:=hfin hC
          clear hzz hv hokk e3 hfin hC
          repeat' first
 | refine AW.seq ?_
 | refine AW.block ?_
 | refine AW.regl NMayDir_ok [0,2,3,4,6,7,8,66] ?_
 | (refine AW.regq (id:=5) NMayDir_ok follows bb_overdubref20_MayDir_5 (by kernel_rfl) [0,2,3,4,6,7,8,66] ?_)
 | refine then_n ?_
 | refine then_r ?_
 | refine then_x ?_
 | refine block_x ?_
 | refine block_o (by decide) ?_
 | refine block_n ?_
 | refine block_r ?_
 | refine AW.skip ?_
 | refine AW.ret ?_
 | refine AW.exit ?_
 | refine AW.cond rfl ?_ ?_
 | refine awl_none rfl ?_
 | refine awl_nil2 ?_
 | refine awc_none rfl ?_
 | refine awc_some rfl rfl (Nat.le_of_ble_eq_true rfl) rfl rfl ?_ ?_
 | (refine awc_skip rfl rfl (Nat.le_of_ble_eq_true rfl) rfl rfl ?_;simp only [stU])
 | refine awc_nilq (by kernel_rfl) (by kernel_rfl) ?_
 | (refine fun (hc : _ = _)=>?_;first|cases hc|((try rw [hc]);(try simp only [stH] at hc);(try (exfalso;omega)));(try ((first|show Awl _ _ _ _ _|show Awc _ _ _ _ _ _);simp only [stU])))
 | ((first|refine fun (K : V → List _ → _) hK=>?_|refine fun (_ : V → V)=>?_);simp (disch:=omega) only [go_sem,Int.reduceEq,↓reduceIte,reduceCtorEq,Nat.reduceEqDiff,Nat.reduceLT,Nat.reduceLeDiff,Nat.reduceAdd,Nat.reduceSub,Nat.reduceMul,Int.reduceToNat,Int.reduceLE,Int.reduceLT,NMayDir,Sp_overdubref20_place,stBMayDir,e2,Sg3,St.updIf,ifc_nil,gt_ifc,go_ifc,ite_self,Option.none_or,Option.some_or];(try (revert hK;intro hK;(repeat' first|(refine And.intro ?_ ?_)|(intro hc;first|cases hc|((try rw [hc]);(try simp only [stH] at hc);(try (exfalso;omega)))));all_goals first|(refine hK _ _ ?_;clear hK K;simp only [stU])|exact hK|omega)))
          refine ⟨k + 1,by omega,hf,by omega,nm [],Wk.of ?_⟩
          simp (disch:=omega) only [go_sem,Int.reduceEq,↓reduceIte,reduceCtorEq,Nat.reduceEqDiff,Nat.reduceLT,Nat.reduceLeDiff,Nat.reduceAdd,Nat.reduceSub,Nat.reduceMul,Int.reduceToNat,Int.reduceLE,Int.reduceLT,NMayDir,Sp_overdubref20_place]
          all_goals first|done|rfl|exact ⟨rfl,rfl⟩
    · obtain rfl : k = l.length:=by omega
      have hz:=bMayDir_end l hok
      have d1 : decide ((l.length : Int) ≤ 6) = decide (l.length ≤ 6):=by rw [decide_eq_decide];omega
      repeat' first
 | refine AW.seq ?_
 | refine AW.block ?_
 | refine AW.regl NMayDir_ok [0,2,3,4,6,7,8,66] ?_
 | (refine AW.regq (id:=5) NMayDir_ok follows bb_overdubref20_MayDir_5 (by kernel_rfl) [0,2,3,4,6,7,8,66] ?_)
 | refine then_n ?_
 | refine then_r ?_
 | refine then_x ?_
 | refine block_x ?_
 | refine block_o (by decide) ?_
 | refine block_n ?_
 | refine block_r ?_
 | refine AW.skip ?_
 | refine AW.ret ?_
 | refine AW.exit ?_
 | refine AW.cond rfl ?_ ?_
 | refine awl_none rfl ?_
 | refine awl_nil2 ?_
 | refine awc_none rfl ?_
 | refine awc_some rfl rfl (Nat.le_of_ble_eq_true rfl) rfl rfl ?_ ?_
 | (refine awc_skip rfl rfl (Nat.le_of_ble_eq_true rfl) rfl rfl ?_;simp only [stU])
 | refine awc_nilq (by kernel_rfl) (by kernel_rfl) ?_
 | (refine fun (hc : _ = _)=>?_;first|cases hc|((try rw [hc]);(try simp only [stH] at hc);(try (exfalso;omega)));(try ((first|show Awl _ _ _ _ _|show Awc _ _ _ _ _ _);simp only [stU])))
 | ((first|refine fun (K : V → List _ → _) hK=>?_|refine fun (_ : V → V)=>?_);simp (disch:=omega) only [go_sem,Int.reduceEq,↓reduceIte,reduceCtorEq,Nat.reduceEqDiff,Nat.reduceLT,Nat.reduceLeDiff,Nat.reduceAdd,Nat.reduceSub,Nat.reduceMul,Int.reduceToNat,Int.reduceLE,Int.reduceLT,NMayDir,Sp_overdubref20_place,d1,Sg3,St.updIf,ifc_nil,gt_ifc,go_ifc,ite_self,Option.none_or,Option.some_or];(try (revert hK;intro hK;(repeat' first|(refine And.intro ?_ ?_)|(intro hc;first|cases hc|((try rw [hc]);(try simp only [stH] at hc);(try (exfalso;omega)))));all_goals first|(refine hK _ _ ?_;clear hK K;simp only [stU])|exact hK|omega)))
      (refine Ends.of (nm []) (by first|exact .inl rfl|exact .inr rfl) ?_;simp (disch:=omega) only [go_sem,Int.reduceEq,↓reduceIte,reduceCtorEq,Nat.reduceEqDiff,Nat.reduceLT,Nat.reduceLeDiff,Nat.reduceAdd,Nat.reduceSub,Nat.reduceMul,Int.reduceToNat,Int.reduceLE,Int.reduceLT,NMayDir,Sp_overdubref20_place,hz])
theorem ent_overdubref20_MayDir : Ent Try.prog 63:=⟨_,Try.func63,rfl,by decide⟩
end Go.Proofs.Ytigkcigoiinkpaa.Am
