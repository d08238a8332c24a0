import Derived.Test.YtigkcigoiinkpaaZNEe
set_option linter.unusedVariables false
set_option linter.unusedSimpArgs false
set_option maxRecDepth 10000
set_option maxHeartbeats 0
namespace Go.Proofs.Ytigkcigoiinkpaa.Am
open Go Go.RowKit Go.Proofs
noncomputable def NE4 : Env:=⟨Try.prog,fun f ds out=>(f = 74 ∧ Sp_overdubref20_place ds out),Es,fun _=>false⟩
theorem NE4_sp : ∀ f ds out,NE4.Sp f ds out → Ent NE4.P f ∧ Good NE4.P f (fun a b=>a = ds ∧ b = out):=by
  rintro f ds out ⟨rfl,h⟩
  exact ⟨ent_overdubref20_place,good_overdubref20_place.one h⟩
theorem NE4_ok : NE4.Ok:=⟨NE4_sp,Es_ok⟩
open Classical in
noncomputable def bMayRoot (now : Int) (u r : List Int) : Bool:=decide (mayR now u r)
def allK (l : List Int) (k : Nat) : Prop:=∀ i,i < k → secN (l.getD i 0)
def cR0 (now : Int) (u r : List Int) : Prop:=secN now ∧ u.length ≤ 4 ∧ r.length ≤ 4
theorem allK_succ {l : List Int} {k : Nat} (h : allK l k) (h2 : secN (l.getD k 0)) : allK l (k + 1):=fun i hi=>by
  by_cases he : i = k
  · rw [he];exact h2
  · exact h i (by omega)
def stR1 (now : Int) (u r : List Int) (v : Bool) : St:=⟨[(1,.d (.list (u.map mI))),(2,.d (.list (r.map mI))),(6,.d (.v (.bool false))),(7,.d (.v (.bool v)))],[],51⟩
def stR2 (u r : List Int) (k : Nat) (v : Bool) : St:=⟨[(1,.d (.list (u.map mI))),(2,.d (.list (r.map mI))),(6,.d (.v (.bool false))),(7,.d (.v (.bool v))),(23,.d (.v (.int .i64 u.length))),(24,.d (.v (.int .i64 k)))],[],51⟩
def stR3 (r : List Int) (k : Nat) (v : Bool) : St:=⟨[(2,.d (.list (r.map mI))),(6,.d (.v (.bool false))),(7,.d (.v (.bool v))),(37,.d (.v (.int .i64 r.length))),(38,.d (.v (.int .i64 k)))],[],51⟩
def Sp_overdubref20_MayRoot (ds : List D) (out : Out) : Prop:=∃ (now : Int) (u r : List Int),ds = [.v (.int .i64 now),.list (u.map mI),.list (r.map mI)] ∧ u.length ≤ 1000000 ∧ r.length ≤ 1000000 ∧ out = ⟨.d (.v (.bool (bMayRoot now u r))),[]⟩
theorem good_overdubref20_MayRoot : Good Try.prog 64 Sp_overdubref20_MayRoot:=by
  refine good_body (E:=NE4) (nt:=51) (rs:=#[.tmp 6]) Try.func64 rfl rfl rfl ?_
  rintro ds out ⟨now,u,r,rfl,hu,hr,rfl⟩
  refine ⟨by simp,?_⟩
  refine AW.mx2 (stR1 now u r) (fun v=>v = true ↔ cR0 now u r) ?_ ?_
  · by_cases h1 : secN now
    · by_cases h2 : u.length ≤ 4
      · have d1 : decide (secN now) = true:=decide_eq_true h1
        have d2 : decide ((u.length : Int) ≤ 4) = true:=decide_eq_true (by omega)
        have d3 : decide ((r.length : Int) ≤ 4) = decide (r.length ≤ 4):=by rw [decide_eq_decide];omega
        repeat' first
 | refine AW.seq ?_
 | refine AW.block ?_
 | refine AW.regl NE4_ok [0,1,2,6,7,8,9,23,24,25,37,38,39] ?_
 | refine then_n ?_
 | refine then_r ?_
 | refine then_x ?_
 | refine block_x ?_
 | refine block_o (by decide) ?_
 | refine block_n ?_
 | refine block_r ?_
 | refine AW.skip ?_
 | refine AW.ret ?_
 | refine AW.exit ?_
 | refine AW.cond rfl ?_ ?_
 | refine awl_none rfl ?_
 | refine awl_nil2 ?_
 | refine awl_some rfl rfl (Nat.le_of_ble_eq_true rfl) rfl rfl ?_ ?_
 | (refine fun (hc : _ = _)=>?_;first|cases hc|((try rw [hc]);(try simp only [stH] at hc);(try (exfalso;omega)));(try (show Awl _ _ _ _ _;simp only [stU])))
 | ((first|refine fun (K : V → List _ → _) hK=>?_|refine fun (_ : V → V)=>?_);simp (disch:=omega) only [go_sem,Int.reduceEq,↓reduceIte,reduceCtorEq,Nat.reduceEqDiff,Nat.reduceLT,Nat.reduceLeDiff,Nat.reduceAdd,Nat.reduceSub,Nat.reduceMul,Int.reduceToNat,Int.reduceLE,Int.reduceLT,NE4,Sp_overdubref20_place,d1,d2];(try (revert hK;intro hK;(repeat' first|(refine And.intro ?_ ?_)|(intro hc;first|cases hc|((try rw [hc]);(try simp only [stH] at hc);(try (exfalso;omega)))));all_goals first|(refine hK _ _ ?_;clear hK K;simp only [stU])|exact hK|omega)))
        refine ⟨decide (r.length ≤ 4),?_,nm [],Wk.of ?_⟩
        · simp only [decide_eq_true_eq];exact ⟨fun h=>⟨h1,h2,h⟩,fun h=>h.2.2⟩
        · simp (disch:=omega) only [go_sem,Int.reduceEq,↓reduceIte,reduceCtorEq,Nat.reduceEqDiff,Nat.reduceLT,Nat.reduceLeDiff,Nat.reduceAdd,Nat.reduceSub,Nat.reduceMul,Int.reduceToNat,Int.reduceLE,Int.reduceLT,NE4,Sp_overdubref20_place,stR1,d3]
      · have d1 : decide (secN now) = true:=decide_eq_true h1
        have d2 : decide ((u.length : Int) ≤ 4) = false:=decide_eq_false (by omega)
        repeat' first
 | refine AW.seq ?_
 | refine AW.block ?_
 | refine AW.regl NE4_ok [0,1,2,6,7,8,9,23,24,25,37,38,39] ?_
 | refine then_n ?_
 | refine then_r ?_
 | refine then_x ?_
 | refine block_x ?_
 | refine block_o (by decide) ?_
 | refine block_n ?_
 | refine block_r ?_
 | refine AW.skip ?_
 | refine AW.ret ?_
 | refine AW.exit ?_
 | refine AW.cond rfl ?_ ?_
 | refine awl_none rfl ?_
 | refine awl_nil2 ?_
 | refine awl_some rfl rfl (Nat.le_of_ble_eq_true rfl) rfl rfl ?_ ?_
 | (refine fun (hc : _ = _)=>?_;first|cases hc|((try rw [hc]);(try simp only [stH] at hc);(try (exfalso;omega)));(try (show Awl _ _ _ _ _;simp only [stU])))
 | ((first|refine fun (K : V → List _ → _) hK=>?_|refine fun (_ : V → V)=>?_);simp (disch:=omega) only [go_sem,Int.reduceEq,↓reduceIte,reduceCtorEq,Nat.reduceEqDiff,Nat.reduceLT,Nat.reduceLeDiff,Nat.reduceAdd,Nat.reduceSub,Nat.reduceMul,Int.reduceToNat,Int.reduceLE,Int.reduceLT,NE4,Sp_overdubref20_place,d1,d2];(try (revert hK;intro hK;(repeat' first|(refine And.intro ?_ ?_)|(intro hc;first|cases hc|((try rw [hc]);(try simp only [stH] at hc);(try (exfalso;omega)))));all_goals first|(refine hK _ _ ?_;clear hK K;simp only [stU])|exact hK|omega)))
        refine ⟨false,⟨fun h=>(by cases h),fun h=>absurd h.2.1 h2⟩,nm [],Wk.of ?_⟩
        simp (disch:=omega) only [go_sem,Int.reduceEq,↓reduceIte,reduceCtorEq,Nat.reduceEqDiff,Nat.reduceLT,Nat.reduceLeDiff,Nat.reduceAdd,Nat.reduceSub,Nat.reduceMul,Int.reduceToNat,Int.reduceLE,Int.reduceLT,NE4,Sp_overdubref20_place,stR1]
    · have d1 : decide (secN now) = false:=decide_eq_false h1
      repeat' first
 | refine AW.seq ?_
 | refine AW.block ?_
 | refine AW.regl NE4_ok [0,1,2,6,7,8,9,23,24,25,37,38,39] ?_
 | refine then_n ?_
 | refine then_r ?_
 | refine then_x ?_
 | refine block_x ?_
 | refine block_o (by decide) ?_
 | refine block_n ?_
 | refine block_r ?_
 | refine AW.skip ?_
 | refine AW.ret ?_
 | refine AW.exit ?_
 | refine AW.cond rfl ?_ ?_
 | refine awl_none rfl ?_
 | refine awl_nil2 ?_
 | refine awl_some rfl rfl (Nat.le_of_ble_eq_true rfl) rfl rfl ?_ ?_
 | (refine fun (hc : _ = _)=>?_;first|cases hc|((try rw [hc]);(try simp only [stH] at hc);(try (exfalso;omega)));(try (show Awl _ _ _ _ _;simp only [stU])))
 | ((first|refine fun (K : V → List _ → _) hK=>?_|refine fun (_ : V → V)=>?_);simp (disch:=omega) only [go_sem,Int.reduceEq,↓reduceIte,reduceCtorEq,Nat.reduceEqDiff,Nat.reduceLT,Nat.reduceLeDiff,Nat.reduceAdd,Nat.reduceSub,Nat.reduceMul,Int.reduceToNat,Int.reduceLE,Int.reduceLT,NE4,Sp_overdubref20_place,d1];(try (revert hK;intro hK;(repeat' first|(refine And.intro ?_ ?_)|(intro hc;first|cases hc|((try rw [hc]);(try simp only [stH] at hc);(try (exfalso;omega)))));all_goals first|(refine hK _ _ ?_;clear hK K;simp only [stU])|exact hK|omega)))
      refine ⟨false,⟨fun h=>(by cases h),fun h=>absurd h.1 h1⟩,nm [],Wk.of ?_⟩
      simp (disch:=omega) only [go_sem,Int.reduceEq,↓reduceIte,reduceCtorEq,Nat.reduceEqDiff,Nat.reduceLT,Nat.reduceLeDiff,Nat.reduceAdd,Nat.reduceSub,Nat.reduceMul,Int.reduceToNat,Int.reduceLE,Int.reduceLT,NE4,Sp_overdubref20_place,stR1]
  intro v0 hv0
  refine AW.mx1 (fun v : Bool=>stR1 now u r v) (fun v=>v = true ↔ cR0 now u r ∧ allK u u.length) ?_ ?_
  · repeat' first
 | refine AW.seq ?_
 | refine AW.block ?_
 | refine AW.regl NE4_ok [0,1,2,6,7,8,9,23,24,25,37,38,39] ?_
 | refine then_n ?_
 | refine then_r ?_
 | refine then_x ?_
 | refine block_x ?_
 | refine block_o (by decide) ?_
 | refine block_n ?_
 | refine block_r ?_
 | refine AW.skip ?_
 | refine AW.ret ?_
 | refine AW.exit ?_
 | refine AW.cond rfl ?_ ?_
 | refine awl_none rfl ?_
 | refine awl_nil2 ?_
 | refine awl_some rfl rfl (Nat.le_of_ble_eq_true rfl) rfl rfl ?_ ?_
 | (refine fun (hc : _ = _)=>?_;first|cases hc|((try rw [hc]);(try simp only [stH] at hc);(try (exfalso;omega)));(try (show Awl _ _ _ _ _;simp only [stU])))
 | ((first|refine fun (K : V → List _ → _) hK=>?_|refine fun (_ : V → V)=>?_);simp (disch:=omega) only [go_sem,Int.reduceEq,↓reduceIte,reduceCtorEq,Nat.reduceEqDiff,Nat.reduceLT,Nat.reduceLeDiff,Nat.reduceAdd,Nat.reduceSub,Nat.reduceMul,Int.reduceToNat,Int.reduceLE,Int.reduceLT,NE4,Sp_overdubref20_place,stR1];(try (revert hK;intro hK;(repeat' first|(refine And.intro ?_ ?_)|(intro hc;first|cases hc|((try rw [hc]);(try simp only [stH] at hc);(try (exfalso;omega)))));all_goals first|(refine hK _ _ ?_;clear hK K;simp only [stU])|exact hK|omega)))
    refine AW.loop_wk (fun p : Nat × Bool=>stR2 u r p.1 p.2) (fun p=>p.1 ≤ u.length ∧ (p.2 = true ↔ cR0 now u r ∧ allK u p.1)) (fun p=>u.length - p.1) (0,v0) ⟨by omega,by rw [hv0];exact ⟨fun h=>⟨h,fun i hi=>by omega⟩,fun h=>h.1⟩⟩ (fun w0 oa a w hs=>Wk.sr (ρ:=nm []) (Wk.of ?_) hs) ?_
    · simp (disch:=omega) only [go_sem,Int.reduceEq,↓reduceIte,reduceCtorEq,Nat.reduceEqDiff,Nat.reduceLT,Nat.reduceLeDiff,Nat.reduceAdd,Nat.reduceSub,Nat.reduceMul,Int.reduceToNat,Int.reduceLE,Int.reduceLT,NE4,Sp_overdubref20_place,stR2]
    · rintro ⟨k,v⟩ ⟨hk,hv⟩
      dsimp only at hk hv
      by_cases hk1 : k < u.length
      · have e2:=nth_I u k hk1
        cases v with
        | false =>
          repeat' first
 | refine AW.seq ?_
 | refine AW.block ?_
 | refine AW.regl NE4_ok [0,1,2,6,7,8,9,23,24,25,37,38,39] ?_
 | refine then_n ?_
 | refine then_r ?_
 | refine then_x ?_
 | refine block_x ?_
 | refine block_o (by decide) ?_
 | refine block_n ?_
 | refine block_r ?_
 | refine AW.skip ?_
 | refine AW.ret ?_
 | refine AW.exit ?_
 | refine AW.cond rfl ?_ ?_
 | refine awl_none rfl ?_
 | refine awl_nil2 ?_
 | refine awl_some rfl rfl (Nat.le_of_ble_eq_true rfl) rfl rfl ?_ ?_
 | (refine fun (hc : _ = _)=>?_;first|cases hc|((try rw [hc]);(try simp only [stH] at hc);(try (exfalso;omega)));(try (show Awl _ _ _ _ _;simp only [stU])))
 | ((first|refine fun (K : V → List _ → _) hK=>?_|refine fun (_ : V → V)=>?_);simp (disch:=omega) only [go_sem,Int.reduceEq,↓reduceIte,reduceCtorEq,Nat.reduceEqDiff,Nat.reduceLT,Nat.reduceLeDiff,Nat.reduceAdd,Nat.reduceSub,Nat.reduceMul,Int.reduceToNat,Int.reduceLE,Int.reduceLT,NE4,Sp_overdubref20_place,stR2,e2];(try (revert hK;intro hK;(repeat' first|(refine And.intro ?_ ?_)|(intro hc;first|cases hc|((try rw [hc]);(try simp only [stH] at hc);(try (exfalso;omega)))));all_goals first|(refine hK _ _ ?_;clear hK K;simp only [stU])|exact hK|omega)))
          refine ⟨(k + 1,false),by dsimp only;omega,⟨fun h=>(by cases h),fun h=>hv.2 ⟨h.1,fun i hi=>h.2 i (by dsimp only;omega)⟩⟩,by dsimp only;omega,nm [],Wk.of ?_⟩
          simp (disch:=omega) only [go_sem,Int.reduceEq,↓reduceIte,reduceCtorEq,Nat.reduceEqDiff,Nat.reduceLT,Nat.reduceLeDiff,Nat.reduceAdd,Nat.reduceSub,Nat.reduceMul,Int.reduceToNat,Int.reduceLE,Int.reduceLT,NE4,Sp_overdubref20_place,stR2]
          all_goals first|done|rfl|exact ⟨rfl,rfl⟩
        | true =>
          by_cases h1 : secN (u.getD k 0)
          · have d1 : decide (secN (u.getD k 0)) = true:=decide_eq_true h1
            repeat' first
 | refine AW.seq ?_
 | refine AW.block ?_
 | refine AW.regl NE4_ok [0,1,2,6,7,8,9,23,24,25,37,38,39] ?_
 | refine then_n ?_
 | refine then_r ?_
 | refine then_x ?_
 | refine block_x ?_
 | refine block_o (by decide) ?_
 | refine block_n ?_
 | refine block_r ?_
 | refine AW.skip ?_
 | refine AW.ret ?_
 | refine AW.exit ?_
 | refine AW.cond rfl ?_ ?_
 | refine awl_none rfl ?_
 | refine awl_nil2 ?_
 | refine awl_some rfl rfl (Nat.le_of_ble_eq_true rfl) rfl rfl ?_ ?_
 | (refine fun (hc : _ = _)=>?_;first|cases hc|((try rw [hc]);(try simp only [stH] at hc);(try (exfalso;omega)));(try (show Awl _ _ _ _ _;simp only [stU])))
 | ((first|refine fun (K : V → List _ → _) hK=>?_|refine fun (_ : V → V)=>?_);simp (disch:=omega) only [go_sem,Int.reduceEq,↓reduceIte,reduceCtorEq,Nat.reduceEqDiff,Nat.reduceLT,Nat.reduceLeDiff,Nat.reduceAdd,Nat.reduceSub,Nat.reduceMul,Int.reduceToNat,Int.reduceLE,Int.reduceLT,NE4,Sp_overdubref20_place,stR2,e2,d1];(try (revert hK;intro hK;(repeat' first|(refine And.intro ?_ ?_)|(intro hc;first|cases hc|((try rw [hc]);(try simp only [stH] at hc);(try (exfalso;omega)))));all_goals first|(refine hK _ _ ?_;clear hK K;simp only [stU])|exact hK|omega)))
            refine ⟨(k + 1,true),by dsimp only;omega,⟨fun _=>⟨(hv.1 rfl).1,allK_succ (hv.1 rfl).2 h1⟩,fun _=>rfl⟩,by dsimp only;omega,nm [],Wk.of ?_⟩
            simp (disch:=omega) only [go_sem,Int.reduceEq,↓reduceIte,reduceCtorEq,Nat.reduceEqDiff,Nat.reduceLT,Nat.reduceLeDiff,Nat.reduceAdd,Nat.reduceSub,Nat.reduceMul,Int.reduceToNat,Int.reduceLE,Int.reduceLT,NE4,Sp_overdubref20_place,stR2]
            all_goals first|done|rfl|exact ⟨rfl,rfl⟩
          · have d1 : decide (secN (u.getD k 0)) = false:=decide_eq_false h1
            repeat' first
 | refine AW.seq ?_
 | refine AW.block ?_
 | refine AW.regl NE4_ok [0,1,2,6,7,8,9,23,24,25,37,38,39] ?_
 | refine then_n ?_
 | refine then_r ?_
 | refine then_x ?_
 | refine block_x ?_
 | refine block_o (by decide) ?_
 | refine block_n ?_
 | refine block_r ?_
 | refine AW.skip ?_
 | refine AW.ret ?_
 | refine AW.exit ?_
 | refine AW.cond rfl ?_ ?_
 | refine awl_none rfl ?_
 | refine awl_nil2 ?_
 | refine awl_some rfl rfl (Nat.le_of_ble_eq_true rfl) rfl rfl ?_ ?_
 | (refine fun (hc : _ = _)=>?_;first|cases hc|((try rw [hc]);(try simp only [stH] at hc);(try (exfalso;omega)));(try (show Awl _ _ _ _ _;simp only [stU])))
 | ((first|refine fun (K : V → List _ → _) hK=>?_|refine fun (_ : V → V)=>?_);simp (disch:=omega) only [go_sem,Int.reduceEq,↓reduceIte,reduceCtorEq,Nat.reduceEqDiff,Nat.reduceLT,Nat.reduceLeDiff,Nat.reduceAdd,Nat.reduceSub,Nat.reduceMul,Int.reduceToNat,Int.reduceLE,Int.reduceLT,NE4,Sp_overdubref20_place,stR2,e2,d1];(try (revert hK;intro hK;(repeat' first|(refine And.intro ?_ ?_)|(intro hc;first|cases hc|((try rw [hc]);(try simp only [stH] at hc);(try (exfalso;omega)))));all_goals first|(refine hK _ _ ?_;clear hK K;simp only [stU])|exact hK|omega)))
            refine ⟨(k + 1,false),by dsimp only;omega,⟨fun h=>(by cases h),fun h=>absurd (h.2 k (by dsimp only;omega)) h1⟩,by dsimp only;omega,nm [],Wk.of ?_⟩
            simp (disch:=omega) only [go_sem,Int.reduceEq,↓reduceIte,reduceCtorEq,Nat.reduceEqDiff,Nat.reduceLT,Nat.reduceLeDiff,Nat.reduceAdd,Nat.reduceSub,Nat.reduceMul,Int.reduceToNat,Int.reduceLE,Int.reduceLT,NE4,Sp_overdubref20_place,stR2]
            all_goals first|done|rfl|exact ⟨rfl,rfl⟩
      · obtain rfl : k = u.length:=by omega
        repeat' first
 | refine AW.seq ?_
 | refine AW.block ?_
 | refine AW.regl NE4_ok [0,1,2,6,7,8,9,23,24,25,37,38,39] ?_
 | refine then_n ?_
 | refine then_r ?_
 | refine then_x ?_
 | refine block_x ?_
 | refine block_o (by decide) ?_
 | refine block_n ?_
 | refine block_r ?_
 | refine AW.skip ?_
 | refine AW.ret ?_
 | refine AW.exit ?_
 | refine AW.cond rfl ?_ ?_
 | refine awl_none rfl ?_
 | refine awl_nil2 ?_
 | refine awl_some rfl rfl (Nat.le_of_ble_eq_true rfl) rfl rfl ?_ ?_
 | (refine fun (hc : _ = _)=>?_;first|cases hc|((try rw [hc]);(try simp only [stH] at hc);(try (exfalso;omega)));(try (show Awl _ _ _ _ _;simp only [stU])))
 | ((first|refine fun (K : V → List _ → _) hK=>?_|refine fun (_ : V → V)=>?_);simp (disch:=omega) only [go_sem,Int.reduceEq,↓reduceIte,reduceCtorEq,Nat.reduceEqDiff,Nat.reduceLT,Nat.reduceLeDiff,Nat.reduceAdd,Nat.reduceSub,Nat.reduceMul,Int.reduceToNat,Int.reduceLE,Int.reduceLT,NE4,Sp_overdubref20_place,stR2];(try (revert hK;intro hK;(repeat' first|(refine And.intro ?_ ?_)|(intro hc;first|cases hc|((try rw [hc]);(try simp only [stH] at hc);(try (exfalso;omega)))));all_goals first|(refine hK _ _ ?_;clear hK K;simp only [stU])|exact hK|omega)))
        refine ⟨v,hv,nm [],Wk.of ?_⟩
        simp (disch:=omega) only [go_sem,Int.reduceEq,↓reduceIte,reduceCtorEq,Nat.reduceEqDiff,Nat.reduceLT,Nat.reduceLeDiff,Nat.reduceAdd,Nat.reduceSub,Nat.reduceMul,Int.reduceToNat,Int.reduceLE,Int.reduceLT,NE4,Sp_overdubref20_place,stR1]
  intro v1 hv1
  repeat' first
 | refine AW.seq ?_
 | refine AW.block ?_
 | refine AW.regl NE4_ok [0,1,2,6,7,8,9,23,24,25,37,38,39] ?_
 | refine then_n ?_
 | refine then_r ?_
 | refine then_x ?_
 | refine block_x ?_
 | refine block_o (by decide) ?_
 | refine block_n ?_
 | refine block_r ?_
 | refine AW.skip ?_
 | refine AW.ret ?_
 | refine AW.exit ?_
 | refine AW.cond rfl ?_ ?_
 | refine awl_none rfl ?_
 | refine awl_nil2 ?_
 | refine awl_some rfl rfl (Nat.le_of_ble_eq_true rfl) rfl rfl ?_ ?_
 | (refine fun (hc : _ = _)=>?_;first|cases hc|((try rw [hc]);(try simp only [stH] at hc);(try (exfalso;omega)));(try (show Awl _ _ _ _ _;simp only [stU])))
 | ((first|refine fun (K : V → List _ → _) hK=>?_|refine fun (_ : V → V)=>?_);simp (disch:=omega) only [go_sem,Int.reduceEq,↓reduceIte,reduceCtorEq,Nat.reduceEqDiff,Nat.reduceLT,Nat.reduceLeDiff,Nat.reduceAdd,Nat.reduceSub,Nat.reduceMul,Int.reduceToNat,Int.reduceLE,Int.reduceLT,NE4,Sp_overdubref20_place,stR1];(try (revert hK;intro hK;(repeat' first|(refine And.intro ?_ ?_)|(intro hc;first|cases hc|((try rw [hc]);(try simp only [stH] at hc);(try (exfalso;omega)))));all_goals first|(refine hK _ _ ?_;clear hK K;simp only [stU])|exact hK|omega)))
  refine AW.loop_wk (fun p : Nat × Bool=>stR3 r p.1 p.2) (fun p=>p.1 ≤ r.length ∧ (p.2 = true ↔ cR0 now u r ∧ allK u u.length ∧ allK r p.1)) (fun p=>r.length - p.1) (0,v1) ⟨by omega,by rw [hv1];exact ⟨fun h=>⟨h.1,h.2,fun i hi=>by omega⟩,fun h=>⟨h.1,h.2.1⟩⟩⟩ (fun w0 oa a w hs=>Wk.sr (ρ:=nm []) (Wk.of ?_) hs) ?_
  · simp (disch:=omega) only [go_sem,Int.reduceEq,↓reduceIte,reduceCtorEq,Nat.reduceEqDiff,Nat.reduceLT,Nat.reduceLeDiff,Nat.reduceAdd,Nat.reduceSub,Nat.reduceMul,Int.reduceToNat,Int.reduceLE,Int.reduceLT,NE4,Sp_overdubref20_place,stR3]
  · rintro ⟨k,v⟩ ⟨hk,hv⟩
    dsimp only at hk hv
    by_cases hk1 : k < r.length
    · have e2:=nth_I r k hk1
      cases v with
      | false =>
        repeat' first
 | refine AW.seq ?_
 | refine AW.block ?_
 | refine AW.regl NE4_ok [0,1,2,6,7,8,9,23,24,25,37,38,39] ?_
 | refine then_n ?_
 | refine then_r ?_
 | refine then_x ?_
 | refine block_x ?_
 | refine block_o (by decide) ?_
 | refine block_n ?_
 | refine block_r ?_
 | refine AW.skip ?_
 | refine AW.ret ?_
 | refine AW.exit ?_
 | refine AW.cond rfl ?_ ?_
 | refine awl_none rfl ?_
 | refine awl_nil2 ?_
 | refine awl_some rfl rfl (Nat.le_of_ble_eq_true rfl) rfl rfl ?_ ?_
 | (refine fun (hc : _ = _)=>?_;first|cases hc|((try rw [hc]);(try simp only [stH] at hc);(try (exfalso;omega)));(try (show Awl _ _ _ _ _;simp only [stU])))
 | ((first|refine fun (K : V → List _ → _) hK=>?_|refine fun (_ : V → V)=>?_);simp (disch:=omega) only [go_sem,Int.reduceEq,↓reduceIte,reduceCtorEq,Nat.reduceEqDiff,Nat.reduceLT,Nat.reduceLeDiff,Nat.reduceAdd,Nat.reduceSub,Nat.reduceMul,Int.reduceToNat,Int.reduceLE,Int.reduceLT,NE4,Sp_overdubref20_place,stR3,e2];(try (revert hK;intro hK;(repeat' first|(refine And.intro ?_ ?_)|(intro hc;first|cases hc|((try rw [hc]);(try simp only [stH] at hc);(try (exfalso;omega)))));all_goals first|(refine hK _ _ ?_;clear hK K;simp only [stU])|exact hK|omega)))
        refine ⟨(k + 1,false),by dsimp only;omega,⟨fun h=>(by cases h),fun h=>hv.2 ⟨h.1,h.2.1,fun i hi=>h.2.2 i (by dsimp only;omega)⟩⟩,by dsimp only;omega,nm [],Wk.of ?_⟩
        simp (disch:=omega) only [go_sem,Int.reduceEq,↓reduceIte,reduceCtorEq,Nat.reduceEqDiff,Nat.reduceLT,Nat.reduceLeDiff,Nat.reduceAdd,Nat.reduceSub,Nat.reduceMul,Int.reduceToNat,Int.reduceLE,Int.reduceLT,NE4,Sp_overdubref20_place,stR3]
        all_goals first|done|rfl|exact ⟨rfl,rfl⟩
      | true =>
        by_cases h1 : secN (r.getD k 0)
        · have d1 : decide (secN (r.getD k 0)) = true:=decide_eq_true h1
          repeat' first
 | refine AW.seq ?_
 | refine AW.block ?_
 | refine AW.regl NE4_ok [0,1,2,6,7,8,9,23,24,25,37,38,39] ?_
 | refine then_n ?_
 | refine then_r ?_
 | refine then_x ?_
 | refine block_x ?_
 | refine block_o (by decide) ?_
 | refine block_n ?_
 | refine block_r ?_
 | refine AW.skip ?_
 | refine AW.ret ?_
 | refine AW.exit ?_
 | refine AW.cond rfl ?_ ?_
 | refine awl_none rfl ?_
 | refine awl_nil2 ?_
 | refine awl_some rfl rfl (Nat.le_of_ble_eq_true rfl) rfl rfl ?_ ?_
 | (refine fun (hc : _ = _)=>?_;first|cases hc|((try rw [hc]);(try simp only [stH] at hc);(try (exfalso;omega)));(try (show Awl _ _ _ _ _;simp only [stU])))
 | ((first|refine fun (K : V → List _ → _) hK=>?_|refine fun (_ : V → V)=>?_);simp (disch:=omega) only [go_sem,Int.reduceEq,↓reduceIte,reduceCtorEq,Nat.reduceEqDiff,Nat.reduceLT,Nat.reduceLeDiff,Nat.reduceAdd,Nat.reduceSub,Nat.reduceMul,Int.reduceToNat,Int.reduceLE,Int.reduceLT,NE4,Sp_overdubref20_place,stR3,e2,d1];(try (revert hK;intro hK;(repeat' first|(refine And.intro ?_ ?_)|(intro hc;first|cases hc|((try rw [hc]);(try simp only [stH] at hc);(try (exfalso;omega)))));all_goals first|(refine hK _ _ ?_;clear hK K;simp only [stU])|exact hK|omega)))
          refine ⟨(k + 1,true),by dsimp only;omega,⟨fun _=>⟨(hv.1 rfl).1,(hv.1 rfl).2.1,allK_succ (hv.1 rfl).2.2 h1⟩,fun _=>rfl⟩,by dsimp only;omega,nm [],Wk.of ?_⟩
          simp (disch:=omega) only [go_sem,Int.reduceEq,↓reduceIte,reduceCtorEq,Nat.reduceEqDiff,Nat.reduceLT,Nat.reduceLeDiff,Nat.reduceAdd,Nat.reduceSub,Nat.reduceMul,Int.reduceToNat,Int.reduceLE,Int.reduceLT,NE4,Sp_overdubref20_place,stR3]
          all_goals first|done|rfl|exact ⟨rfl,rfl⟩
        · have d1 : decide (secN (r.getD k 0)) = false:=decide_eq_false h1
          repeat' first
 | refine AW.seq ?_
 | refine AW.block ?_
 | refine AW.regl NE4_ok [0,1,2,6,7,8,9,23,24,25,37,38,39] ?_
 | refine then_n ?_
 | refine then_r ?_
 | refine then_x ?_
 | refine block_x ?_
 | refine block_o (by decide) ?_
 | refine block_n ?_
 | refine block_r ?_
 | refine AW.skip ?_
 | refine AW.ret ?_
 | refine AW.exit ?_
 | refine AW.cond rfl ?_ ?_
 | refine awl_none rfl ?_
 | refine awl_nil2 ?_
 | refine awl_some rfl rfl (Nat.le_of_ble_eq_true rfl) rfl rfl ?_ ?_
 | (refine fun (hc : _ = _)=>?_;first|cases hc|((try rw [hc]);(try simp only [stH] at hc);(try (exfalso;omega)));(try (show Awl _ _ _ _ _;simp only [stU])))
 | ((first|refine fun (K : V → List _ → _) hK=>?_|refine fun (_ : V → V)=>?_);simp (disch:=omega) only [go_sem,Int.reduceEq,↓reduceIte,reduceCtorEq,Nat.reduceEqDiff,Nat.reduceLT,Nat.reduceLeDiff,Nat.reduceAdd,Nat.reduceSub,Nat.reduceMul,Int.reduceToNat,Int.reduceLE,Int.reduceLT,NE4,Sp_overdubref20_place,stR3,e2,d1];(try (revert hK;intro hK;(repeat' first|(refine And.intro ?_ ?_)|(intro hc;first|cases hc|((try rw [hc]);(try simp only [stH] at hc);(try (exfalso;omega)))));all_goals first|(refine hK _ _ ?_;clear hK K;simp only [stU])|exact hK|omega)))
          refine ⟨(k + 1,false),by dsimp only;omega,⟨fun h=>(by cases h),fun h=>absurd (h.2.2 k (by dsimp only;omega)) h1⟩,by dsimp only;omega,nm [],Wk.of ?_⟩
          simp (disch:=omega) only [go_sem,Int.reduceEq,↓reduceIte,reduceCtorEq,Nat.reduceEqDiff,Nat.reduceLT,Nat.reduceLeDiff,Nat.reduceAdd,Nat.reduceSub,Nat.reduceMul,Int.reduceToNat,Int.reduceLE,Int.reduceLT,NE4,Sp_overdubref20_place,stR3]
          all_goals first|done|rfl|exact ⟨rfl,rfl⟩
    · obtain rfl : k = r.length:=by omega
      have hz : bMayRoot now u r = v:=by
        classical
        unfold bMayRoot
        cases v with
        | true=>obtain ⟨⟨h1,h2,h3⟩,h4,h5⟩:=hv.1 rfl;exact decide_eq_true ⟨h1,⟨h4,h2⟩,⟨h5,h3⟩⟩
        | false=>exact decide_eq_false fun h=>by have:=hv.2 ⟨⟨h.1,h.2.1.2,h.2.2.2⟩,h.2.1.1,h.2.2.1⟩;cases this
      repeat' first
 | refine AW.seq ?_
 | refine AW.block ?_
 | refine AW.regl NE4_ok [0,1,2,6,7,8,9,23,24,25,37,38,39] ?_
 | refine then_n ?_
 | refine then_r ?_
 | refine then_x ?_
 | refine block_x ?_
 | refine block_o (by decide) ?_
 | refine block_n ?_
 | refine block_r ?_
 | refine AW.skip ?_
 | refine AW.ret ?_
 | refine AW.exit ?_
 | refine AW.cond rfl ?_ ?_
 | refine awl_none rfl ?_
 | refine awl_nil2 ?_
 | refine awl_some rfl rfl (Nat.le_of_ble_eq_true rfl) rfl rfl ?_ ?_
 | (refine fun (hc : _ = _)=>?_;first|cases hc|((try rw [hc]);(try simp only [stH] at hc);(try (exfalso;omega)));(try (show Awl _ _ _ _ _;simp only [stU])))
 | ((first|refine fun (K : V → List _ → _) hK=>?_|refine fun (_ : V → V)=>?_);simp (disch:=omega) only [go_sem,Int.reduceEq,↓reduceIte,reduceCtorEq,Nat.reduceEqDiff,Nat.reduceLT,Nat.reduceLeDiff,Nat.reduceAdd,Nat.reduceSub,Nat.reduceMul,Int.reduceToNat,Int.reduceLE,Int.reduceLT,NE4,Sp_overdubref20_place,stR3];(try (revert hK;intro hK;(repeat' first|(refine And.intro ?_ ?_)|(intro hc;first|cases hc|((try rw [hc]);(try simp only [stH] at hc);(try (exfalso;omega)))));all_goals first|(refine hK _ _ ?_;clear hK K;simp only [stU])|exact hK|omega)))
      (refine Ends.of (nm []) (by first|exact .inl rfl|exact .inr rfl) ?_;simp (disch:=omega) only [go_sem,Int.reduceEq,↓reduceIte,reduceCtorEq,Nat.reduceEqDiff,Nat.reduceLT,Nat.reduceLeDiff,Nat.reduceAdd,Nat.reduceSub,Nat.reduceMul,Int.reduceToNat,Int.reduceLE,Int.reduceLT,NE4,Sp_overdubref20_place,hz])
theorem ent_overdubref20_MayRoot : Ent Try.prog 64:=⟨_,Try.func64,rfl,by decide⟩
noncomputable def NE5 : Env:=⟨Try.prog,fun f ds out=>(f = 64 ∧ Sp_overdubref20_MayRoot ds out) ∨ (f = 62 ∧ Sp_overdubref01_Put ds out) ∨ (f = 54 ∧ Sp_overdubref20_seal ds out),Es,fun _=>false⟩
theorem NE5_sp : ∀ f ds out,NE5.Sp f ds out → Ent NE5.P f ∧ Good NE5.P f (fun a b=>a = ds ∧ b = out):=by
  rintro f ds out (⟨rfl,h⟩|⟨rfl,h⟩|⟨rfl,h⟩)
  · exact ⟨ent_overdubref20_MayRoot,good_overdubref20_MayRoot.one h⟩
  · exact ⟨ent_overdubref01_Put,good_overdubref01_Put.one h⟩
  · exact ⟨ent_overdubref20_seal,good_overdubref20_seal.one h⟩
theorem NE5_ok : NE5.Ok:=⟨NE5_sp,Es_ok⟩
def Sp_overdubref20_PackRoot (ds : List D) (out : Out) : Prop:=∃ (now : Int) (u r : List Int),ds = [.v (.int .i64 now),.list (u.map mI),.list (r.map mI)] ∧ u.length ≤ 1000000 ∧ r.length ≤ 1000000 ∧ out = packROut now u r
theorem rootL_eq (now : Int) (u r : List Int) (hu : u.length < 256) (hr : r.length < 256) : rootL now u r = ((putB (max 0 now) 2 ++ [(u.length : Int)]) ++ numsB u) ++ [(r.length : Int)] ++ numsB r:=by
  unfold rootL rowB
  rw [putB1_one (by omega) (by omega),putB1_one (by omega) (by omega)]
  simp only [List.append_assoc]
theorem good_overdubref20_PackRoot : Good Try.prog 33 Sp_overdubref20_PackRoot:=by
  refine good_body (E:=NE5) (nt:=57) (rs:=#[.tmp 6,.tmp 7]) Try.func33 rfl rfl rfl ?_
  rintro ds out ⟨now,u,r,rfl,hu,hr,rfl⟩
  refine ⟨by simp,?_⟩
  have hut : (u.map mI).take u.length = u.map mI:=List.take_of_length_le (by simp)
  have hrt : (r.map mI).take r.length = r.map mI:=List.take_of_length_le (by simp)
  by_cases hm : mayR now u r
  case neg =>
    have hz : packROut now u r = ⟨.tup [.nil,.d (.v (.bool false))],[]⟩:=if_neg hm
    have hb : bMayRoot now u r = false:=by classical exact decide_eq_false hm
    repeat' first
 | refine AW.seq ?_
 | refine AW.block ?_
 | refine AW.regl NE5_ok [0,1,2,6,7,8,9,10,15,24,25,26,43,44,45] ?_
 | refine then_n ?_
 | refine then_r ?_
 | refine then_x ?_
 | refine block_x ?_
 | refine block_o (by decide) ?_
 | refine block_n ?_
 | refine block_r ?_
 | refine AW.skip ?_
 | refine AW.ret ?_
 | refine AW.exit ?_
 | refine AW.cond rfl ?_ ?_
 | refine awl_none rfl ?_
 | refine awl_nil2 ?_
 | (refine fun (hc : _ = _)=>?_;first|cases hc|((try rw [hc]);(try simp only [stH] at hc);(try (exfalso;omega)));(try (show Awl _ _ _ _ _;simp only [stU])))
 | ((first|refine fun (K : V → List _ → _) hK=>?_|refine fun (_ : V → V)=>?_);simp (disch:=omega) only [go_sem,Int.reduceEq,↓reduceIte,reduceCtorEq,Nat.reduceEqDiff,Nat.reduceLT,Nat.reduceLeDiff,Nat.reduceAdd,Nat.reduceSub,Nat.reduceMul,Int.reduceToNat,Int.reduceLE,Int.reduceLT,NE5,Sp_overdubref20_MayRoot,Sp_overdubref01_Put,Sp_overdubref20_seal,hb,mI_inj];(try (revert hK;intro hK;(repeat' first|(refine And.intro ?_ ?_)|(intro hc;first|cases hc|((try rw [hc]);(try simp only [stH] at hc);(try (exfalso;omega)))));all_goals first|(refine hK _ _ ?_;clear hK K;simp only [stU])|exact hK|omega)))
    (refine Ends.of (nm []) (by first|exact .inl rfl|exact .inr rfl) ?_;simp (disch:=omega) only [go_sem,Int.reduceEq,↓reduceIte,reduceCtorEq,Nat.reduceEqDiff,Nat.reduceLT,Nat.reduceLeDiff,Nat.reduceAdd,Nat.reduceSub,Nat.reduceMul,Int.reduceToNat,Int.reduceLE,Int.reduceLT,NE5,Sp_overdubref20_MayRoot,Sp_overdubref01_Put,Sp_overdubref20_seal,hz])
  have hz : packROut now u r = ⟨.tup [.sl 0 1 0 128 true,.d (.v (.bool true))],[(0,.row 5 1 ((rootP now u r).map mB))]⟩:=if_pos hm
  have hb : bMayRoot now u r = true:=by classical exact decide_eq_true hm
  obtain ⟨⟨hn1,hn2⟩,⟨hu1,hu4⟩,⟨hr1,hr4⟩⟩:=hm
  have hum : (u.length : Int) % 256 = u.length:=by omega
  have hrm : (r.length : Int) % 256 = r.length:=by omega
  have hA : ∃ A,(putB (max 0 now) 2 ++ [(u.length : Int)]) = A:=⟨_,rfl⟩
  obtain ⟨A,hA⟩:=hA
  have hAl : A.length = 3:=by rw [← hA,List.length_append,putB_len];rfl
  have hAm : (putB (max 0 now) 2).map mB ++ [D.v (.int .u8 (u.length : Int))] = A.map mB:=by rw [← hA,List.map_append];rfl
  have hrl : rootL now u r = (A ++ numsB u) ++ [(r.length : Int)] ++ numsB r:=by rw [rootL_eq now u r (by omega) (by omega),hA]
  have hrp : nodP 4 1 (rootL now u r) = rootP now u r:=rfl
  repeat' first
 | refine AW.seq ?_
 | refine AW.block ?_
 | refine AW.regl NE5_ok [0,1,2,6,7,8,9,10,15,24,25,26,43,44,45] ?_
 | refine then_n ?_
 | refine then_r ?_
 | refine then_x ?_
 | refine block_x ?_
 | refine block_o (by decide) ?_
 | refine block_n ?_
 | refine block_r ?_
 | refine AW.skip ?_
 | refine AW.ret ?_
 | refine AW.exit ?_
 | refine AW.cond rfl ?_ ?_
 | refine awl_none rfl ?_
 | refine awl_nil2 ?_
 | (refine fun (hc : _ = _)=>?_;first|cases hc|((try rw [hc]);(try simp only [stH] at hc);(try (exfalso;omega)));(try (show Awl _ _ _ _ _;simp only [stU])))
 | ((first|refine fun (K : V → List _ → _) hK=>?_|refine fun (_ : V → V)=>?_);simp (disch:=omega) only [go_sem,Int.reduceEq,↓reduceIte,reduceCtorEq,Nat.reduceEqDiff,Nat.reduceLT,Nat.reduceLeDiff,Nat.reduceAdd,Nat.reduceSub,Nat.reduceMul,Int.reduceToNat,Int.reduceLE,Int.reduceLT,NE5,Sp_overdubref20_MayRoot,Sp_overdubref01_Put,Sp_overdubref20_seal,hb,hum,wrap_u8,hAm,wd_2n,putB_taken,putB_len,mI_inj];(try (revert hK;intro hK;(repeat' first|(refine And.intro ?_ ?_)|(intro hc;first|cases hc|((try rw [hc]);(try simp only [stH] at hc);(try (exfalso;omega)))));all_goals first|(refine hK _ _ ?_;clear hK K;simp only [stU])|exact hK|omega)))
  refine AW.loop_wk (fun k : Nat=>⟨[(1,.d (.list (u.map mI))),(2,.d (.list (r.map mI))),(6,.nil),(7,.d (.v (.bool false))),(8,.sl 100 1 0 (3 + 2 * k) true),(24,.d (.v (.int .i64 u.length))),(25,.d (.v (.int .i64 k)))],[(100,.row 5 1 ((A ++ numsB (u.take k)).map mB))],57⟩)
    (fun k=>k ≤ u.length) (fun k=>u.length - k) 0 (by omega) (fun w0 oa a w hs=>Wk.sr (ρ:=nm [(100,22)]) (Wk.of ?_) hs) ?_
  · simp (disch:=omega) only [go_sem,Int.reduceEq,↓reduceIte,reduceCtorEq,Nat.reduceEqDiff,Nat.reduceLT,Nat.reduceLeDiff,Nat.reduceAdd,Nat.reduceSub,Nat.reduceMul,Int.reduceToNat,Int.reduceLE,Int.reduceLT,NE5,Sp_overdubref20_MayRoot,Sp_overdubref01_Put,Sp_overdubref20_seal,hAm]
    all_goals first|done|rfl|exact ⟨rfl,rfl⟩|(simp only [List.take_zero,numsB,List.flatMap_nil,List.append_nil])
  · intro k hk
    by_cases hk1 : k < u.length
    · have e2 : nth (u.map mI) k = .v (.int .i64 (u.getD k 0)):=nth_I u k hk1
      have hpl : (A ++ numsB (u.take k)).length = 3 + 2 * k:=by rw [List.length_append,hAl,numsB_len,List.length_take];omega
      have e4 : A ++ numsB (u.take (k + 1)) = (A ++ numsB (u.take k)) ++ putB (max 0 (u.getD k 0)) 2:=by rw [take_snocG u k 0 hk1,numsB_snoc,List.append_assoc]
      have hlt:=(hu1 k hk1).2
      have hl2 : ((A ++ numsB (u.take k)).map mB).length = 3 + 2 * k:=by rw [List.length_map,hpl]
      obtain ⟨R,hR⟩ : ∃ R,A ++ numsB (u.take k) = R:=⟨_,rfl⟩
      rw [hR] at hpl e4 hl2 ⊢
      clear hrl hAm hA
      generalize u.getD k 0 = v at *
      repeat' first
 | refine AW.seq ?_
 | refine AW.block ?_
 | refine AW.regl NE5_ok [0,1,2,6,7,8,9,10,15,24,25,26,43,44,45] ?_
 | refine then_n ?_
 | refine then_r ?_
 | refine then_x ?_
 | refine block_x ?_
 | refine block_o (by decide) ?_
 | refine block_n ?_
 | refine block_r ?_
 | refine AW.skip ?_
 | refine AW.ret ?_
 | refine AW.exit ?_
 | refine AW.cond rfl ?_ ?_
 | refine awl_none rfl ?_
 | refine awl_nil2 ?_
 | (refine fun (hc : _ = _)=>?_;first|cases hc|((try rw [hc]);(try simp only [stH] at hc);(try (exfalso;omega)));(try (show Awl _ _ _ _ _;simp only [stU])))
 | ((first|refine fun (K : V → List _ → _) hK=>?_|refine fun (_ : V → V)=>?_);simp (disch:=omega) only [go_sem,Int.reduceEq,↓reduceIte,reduceCtorEq,Nat.reduceEqDiff,Nat.reduceLT,Nat.reduceLeDiff,Nat.reduceAdd,Nat.reduceSub,Nat.reduceMul,Int.reduceToNat,Int.reduceLE,Int.reduceLT,NE5,Sp_overdubref20_MayRoot,Sp_overdubref01_Put,Sp_overdubref20_seal,e2,hl2,wd_2n,putB_taken,putB_len];(try (revert hK;intro hK;(repeat' first|(refine And.intro ?_ ?_)|(intro hc;first|cases hc|((try rw [hc]);(try simp only [stH] at hc);(try (exfalso;omega)))));all_goals first|(refine hK _ _ ?_;clear hK K;simp only [stU])|exact hK|omega)))
      refine ⟨k + 1,by omega,by omega,nm [(100,34)],Wk.of ?_⟩
      simp (disch:=omega) only [go_sem,Int.reduceEq,↓reduceIte,reduceCtorEq,Nat.reduceEqDiff,Nat.reduceLT,Nat.reduceLeDiff,Nat.reduceAdd,Nat.reduceSub,Nat.reduceMul,Int.reduceToNat,Int.reduceLE,Int.reduceLT,NE5,Sp_overdubref20_MayRoot,Sp_overdubref01_Put,Sp_overdubref20_seal,e4,List.map_append]
      all_goals first|done|rfl|exact ⟨by rw [hpl];rfl,rfl⟩|exact ⟨rfl,rfl⟩
    · obtain rfl : k = u.length:=by omega
      rw [List.take_length]
      have hBl : (A ++ numsB u).length = 3 + 2 * u.length:=by rw [List.length_append,hAl,numsB_len]
      obtain ⟨B,hB⟩ : ∃ B,A ++ numsB u = B:=⟨_,rfl⟩
      rw [hB] at hBl hrl ⊢
      have hBm : (B.map mB).length = 3 + 2 * u.length:=by rw [List.length_map,hBl]
      obtain ⟨C,hC⟩ : ∃ C,B ++ [(r.length : Int)] = C:=⟨_,rfl⟩
      rw [hC] at hrl
      have hCl : C.length = 4 + 2 * u.length:=by rw [← hC,List.length_append,hBl];show _ + 1 = _;omega
      have hCm : B.map mB ++ [D.v (.int .u8 (r.length : Int))] = C.map mB:=by rw [← hC,List.map_append];rfl
      clear hAm hA hB
      repeat' first
 | refine AW.seq ?_
 | refine AW.block ?_
 | refine AW.regl NE5_ok [0,1,2,6,7,8,9,10,15,24,25,26,43,44,45] ?_
 | refine then_n ?_
 | refine then_r ?_
 | refine then_x ?_
 | refine block_x ?_
 | refine block_o (by decide) ?_
 | refine block_n ?_
 | refine block_r ?_
 | refine AW.skip ?_
 | refine AW.ret ?_
 | refine AW.exit ?_
 | refine AW.cond rfl ?_ ?_
 | refine awl_none rfl ?_
 | refine awl_nil2 ?_
 | (refine fun (hc : _ = _)=>?_;first|cases hc|((try rw [hc]);(try simp only [stH] at hc);(try (exfalso;omega)));(try (show Awl _ _ _ _ _;simp only [stU])))
 | ((first|refine fun (K : V → List _ → _) hK=>?_|refine fun (_ : V → V)=>?_);simp (disch:=omega) only [go_sem,Int.reduceEq,↓reduceIte,reduceCtorEq,Nat.reduceEqDiff,Nat.reduceLT,Nat.reduceLeDiff,Nat.reduceAdd,Nat.reduceSub,Nat.reduceMul,Int.reduceToNat,Int.reduceLE,Int.reduceLT,NE5,Sp_overdubref20_MayRoot,Sp_overdubref01_Put,Sp_overdubref20_seal,hBm,hrm,wrap_u8,hCm];(try (revert hK;intro hK;(repeat' first|(refine And.intro ?_ ?_)|(intro hc;first|cases hc|((try rw [hc]);(try simp only [stH] at hc);(try (exfalso;omega)))));all_goals first|(refine hK _ _ ?_;clear hK K;simp only [stU])|exact hK|omega)))
      refine AW.loop_wk (fun k : Nat=>⟨[(2,.d (.list (r.map mI))),(6,.nil),(7,.d (.v (.bool false))),(8,.sl 100 1 0 (4 + 2 * u.length + 2 * k) true),(43,.d (.v (.int .i64 r.length))),(44,.d (.v (.int .i64 k)))],[(100,.row 5 1 ((C ++ numsB (r.take k)).map mB))],57⟩)
        (fun k=>k ≤ r.length) (fun k=>r.length - k) 0 (by omega) (fun w0 oa a w hs=>Wk.sr (ρ:=nm [(100,41)]) (Wk.of ?_) hs) ?_
      · simp (disch:=omega) only [go_sem,Int.reduceEq,↓reduceIte,reduceCtorEq,Nat.reduceEqDiff,Nat.reduceLT,Nat.reduceLeDiff,Nat.reduceAdd,Nat.reduceSub,Nat.reduceMul,Int.reduceToNat,Int.reduceLE,Int.reduceLT,NE5,Sp_overdubref20_MayRoot,Sp_overdubref01_Put,Sp_overdubref20_seal,hCm]
        all_goals first|done|rfl|exact ⟨rfl,rfl⟩|exact ⟨by rw [show 3 + 2 * u.length + 1 = 4 + 2 * u.length by omega],by simp [numsB]⟩
      · intro k hk
        by_cases hk1 : k < r.length
        · have e2 : nth (r.map mI) k = .v (.int .i64 (r.getD k 0)):=nth_I r k hk1
          have hpl : (C ++ numsB (r.take k)).length = 4 + 2 * u.length + 2 * k:=by rw [List.length_append,hCl,numsB_len,List.length_take];omega
          have e4 : C ++ numsB (r.take (k + 1)) = (C ++ numsB (r.take k)) ++ putB (max 0 (r.getD k 0)) 2:=by rw [take_snocG r k 0 hk1,numsB_snoc,List.append_assoc]
          have hlt:=(hr1 k hk1).2
          have hl2 : ((C ++ numsB (r.take k)).map mB).length = 4 + 2 * u.length + 2 * k:=by rw [List.length_map,hpl]
          obtain ⟨R,hR⟩ : ∃ R,C ++ numsB (r.take k) = R:=⟨_,rfl⟩
          rw [hR] at hpl e4 hl2 ⊢
          clear hrl hCm hC
          generalize r.getD k 0 = v at *
          repeat' first
 | refine AW.seq ?_
 | refine AW.block ?_
 | refine AW.regl NE5_ok [0,1,2,6,7,8,9,10,15,24,25,26,43,44,45] ?_
 | refine then_n ?_
 | refine then_r ?_
 | refine then_x ?_
 | refine block_x ?_
 | refine block_o (by decide) ?_
 | refine block_n ?_
 | refine block_r ?_
 | refine AW.skip ?_
 | refine AW.ret ?_
 | refine AW.exit ?_
 | refine AW.cond rfl ?_ ?_
 | refine awl_none rfl ?_
 | refine awl_nil2 ?_
 | (refine fun (hc : _ = _)=>?_;first|cases hc|((try rw [hc]);(try simp only [stH] at hc);(try (exfalso;omega)));(try (show Awl _ _ _ _ _;simp only [stU])))
 | ((first|refine fun (K : V → List _ → _) hK=>?_|refine fun (_ : V → V)=>?_);simp (disch:=omega) only [go_sem,Int.reduceEq,↓reduceIte,reduceCtorEq,Nat.reduceEqDiff,Nat.reduceLT,Nat.reduceLeDiff,Nat.reduceAdd,Nat.reduceSub,Nat.reduceMul,Int.reduceToNat,Int.reduceLE,Int.reduceLT,NE5,Sp_overdubref20_MayRoot,Sp_overdubref01_Put,Sp_overdubref20_seal,e2,hl2,wd_2n,putB_taken,putB_len];(try (revert hK;intro hK;(repeat' first|(refine And.intro ?_ ?_)|(intro hc;first|cases hc|((try rw [hc]);(try simp only [stH] at hc);(try (exfalso;omega)))));all_goals first|(refine hK _ _ ?_;clear hK K;simp only [stU])|exact hK|omega)))
          refine ⟨k + 1,by omega,by omega,nm [(100,53)],Wk.of ?_⟩
          simp (disch:=omega) only [go_sem,Int.reduceEq,↓reduceIte,reduceCtorEq,Nat.reduceEqDiff,Nat.reduceLT,Nat.reduceLeDiff,Nat.reduceAdd,Nat.reduceSub,Nat.reduceMul,Int.reduceToNat,Int.reduceLE,Int.reduceLT,NE5,Sp_overdubref20_MayRoot,Sp_overdubref01_Put,Sp_overdubref20_seal,e4,List.map_append]
          all_goals first|done|rfl|exact ⟨by rw [hpl];rfl,rfl⟩|exact ⟨rfl,rfl⟩
        · obtain rfl : k = r.length:=by omega
          rw [List.take_length,← hrl]
          have hyl : (rootL now u r).length = 4 + 2 * u.length + 2 * r.length:=by rw [hrl,List.length_append,hCl,numsB_len]
          have hy : Byt (rootL now u r) = True:=eq_true (byt_append (putB_byt _ _) (byt_append (rowB_byt _) (rowB_byt _)))
          have ht : ((rootL now u r).map mB).take (4 + 2 * u.length + 2 * r.length) = (rootL now u r).map mB:=List.take_of_length_le (by rw [List.length_map,hyl];omega)
          clear hrl hCm hC
          generalize rootL now u r = Z at *
          repeat' first
 | refine AW.seq ?_
 | refine AW.block ?_
 | refine AW.regl NE5_ok [0,1,2,6,7,8,9,10,15,24,25,26,43,44,45] ?_
 | refine then_n ?_
 | refine then_r ?_
 | refine then_x ?_
 | refine block_x ?_
 | refine block_o (by decide) ?_
 | refine block_n ?_
 | refine block_r ?_
 | refine AW.skip ?_
 | refine AW.ret ?_
 | refine AW.exit ?_
 | refine AW.cond rfl ?_ ?_
 | refine awl_none rfl ?_
 | refine awl_nil2 ?_
 | (refine fun (hc : _ = _)=>?_;first|cases hc|((try rw [hc]);(try simp only [stH] at hc);(try (exfalso;omega)));(try (show Awl _ _ _ _ _;simp only [stU])))
 | ((first|refine fun (K : V → List _ → _) hK=>?_|refine fun (_ : V → V)=>?_);simp (disch:=omega) only [go_sem,Int.reduceEq,↓reduceIte,reduceCtorEq,Nat.reduceEqDiff,Nat.reduceLT,Nat.reduceLeDiff,Nat.reduceAdd,Nat.reduceSub,Nat.reduceMul,Int.reduceToNat,Int.reduceLE,Int.reduceLT,NE5,Sp_overdubref20_MayRoot,Sp_overdubref01_Put,Sp_overdubref20_seal,hyl,hy,ht,mB_inj];(try (revert hK;intro hK;(repeat' first|(refine And.intro ?_ ?_)|(intro hc;first|cases hc|((try rw [hc]);(try simp only [stH] at hc);(try (exfalso;omega)))));all_goals first|(refine hK _ _ ?_;clear hK K;simp only [stU])|exact hK|omega)))
          (refine Ends.of (nm [(0,56)]) (by first|exact .inl rfl|exact .inr rfl) ?_;simp (disch:=omega) only [go_sem,Int.reduceEq,↓reduceIte,reduceCtorEq,Nat.reduceEqDiff,Nat.reduceLT,Nat.reduceLeDiff,Nat.reduceAdd,Nat.reduceSub,Nat.reduceMul,Int.reduceToNat,Int.reduceLE,Int.reduceLT,NE5,Sp_overdubref20_MayRoot,Sp_overdubref01_Put,Sp_overdubref20_seal,hz,hrp])
theorem ent_overdubref20_PackRoot : Ent Try.prog 33:=⟨_,Try.func33,rfl,by decide⟩
end Go.Proofs.Ytigkcigoiinkpaa.Am
