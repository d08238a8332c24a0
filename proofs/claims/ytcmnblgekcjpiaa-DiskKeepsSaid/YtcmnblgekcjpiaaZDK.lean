import Derived.Test.YtcmnblgekcjpiaaZKL
import Derived.Test.YtcmnblgekcjpiaaZZf
import Derived.Test.YtcmnblgekcjpiaaZZA
set_option linter.unusedVariables false
set_option linter.unusedSimpArgs false
set_option maxRecDepth 10000
set_option maxHeartbeats 0
namespace Go.Proofs.Ytcmnblgekcjpiaa.Am
open Go Go.RowKit Go.Proofs
structure Dk where
  kept : List (List Int)
  wt : List (Int × List Int)
  dead : Bool
  stops : Bool
  at_ : Int
  rd : Int
  wr : Int
  fl : Int
def sD (s : List Int) : D:=.agg (s.map mB)
def wD (w : Int × List Int) : D:=.agg (.v (.int .i64 w.1) :: w.2.map mB)
def rawB (b n m : Nat) (dd ss : Bool) (a r w f : Int) : Ob:=.box [.sl 1000001 128 0 n true,.sl b 129 0 m true,.d (.v (.bool dd)),.d (.v (.bool ss)),.d (.v (.int .i64 a)),.d (.v (.int .i64 r)),.d (.v (.int .i64 w)),.d (.v (.int .i64 f))]
def rawD (b : Nat) (K W : List D) (n m : Nat) (dd ss : Bool) (a r w f : Int) : List (Nat × Ob):=[(1000000,rawB b n m dd ss a r w f),(1000001,.row 73 128 K),(b,.row 75 129 W)]
def boxO (a b : Nat) (d : Dk) : Ob:=.box [.sl a 128 0 d.kept.length true,.sl b 129 0 d.wt.length true,.d (.v (.bool d.dead)),.d (.v (.bool d.stops)),.d (.v (.int .i64 d.at_)),.d (.v (.int .i64 d.rd)),.d (.v (.int .i64 d.wr)),.d (.v (.int .i64 d.fl))]
def keptO (d : Dk) : Ob:=.row 73 128 (d.kept.map sD)
def waitO (d : Dk) : Ob:=.row 75 129 (d.wt.map wD)
def lentD (b : Nat) (d : Dk) : List (Nat × Ob):=[(1000000,boxO 1000001 b d),(1000001,keptO d),(b,waitO d)]
structure okD (d : Dk) : Prop where
  k0 : 1 ≤ d.kept.length
  k1 : d.kept.length ≤ 4096
  kl : ∀ s ∈ d.kept,s.length = 128
  wl : ∀ w ∈ d.wt,w.2.length = 128 ∧ 0 ≤ w.1 ∧ w.1 < d.kept.length
  wn : d.wt.length ≤ 1000000
  a0 : 0 ≤ d.at_
  a1 : d.at_ < 9223372036854775808
theorem at_sync_atomic_AddInt64 : AtomOk Try.prog 50 2:=atom_add Try.func50 (by kernel_rfl) (by kernel_rfl) (by kernel_rfl) (by kernel_rfl)
noncomputable def DA : Env:=⟨Try.prog,fun f ds out=>False,Es,fun _=>false,fun f vs lent out=>False,fun f=>none,fun f=>false,false,fun f=>if f = 50 then some 2 else none⟩
theorem DA_sp : ∀ f ds out,DA.Sp f ds out → Ent DA.P f ∧ Good DA.P f (fun a b=>a = ds ∧ b = out):=fun _ _ _ h=>h.elim
theorem DA_sm : ∀ f vs lent out,DA.Sm f vs lent out → Ent DA.P f ∧ GoodM DA.P f (fun a l b=>a = vs ∧ l = lent ∧ b = out):=fun _ _ _ _ h=>h.elim
theorem DA_at : ∀ f k,DA.At f = some k → AtomOk DA.P f k:=by
  intro f k h
  simp only [DA] at h
  split at h
  · rename_i e;cases e;cases h;exact at_sync_atomic_AddInt64
  cases h
theorem DA_ok : DA.Ok:=⟨DA_sp,Es_ok,DA_sm,DA_at⟩
def cntB (b n m : Nat) (dd ss : Bool) (a : Int) (c : List Int) : Ob:=.box ([.sl 1000001 128 0 n true,.sl b 129 0 m true,.d (.v (.bool dd)),.d (.v (.bool ss)),.d (.v (.int .i64 a))] ++ c.map fun x=>.d (.v (.int .i64 x)))
def Sm_sync_atomic_Int64_Add (vs : List V) (lent : List (Nat × Ob)) (out : Out) : Prop:=∃ (K W : List D) (n m : Nat) (dd ss : Bool) (a r w f y : Int) (k : Nat),lent = rawD 1000002 K W n m dd ss a r w f ∧ vs = [.ptr 1000000 k,.d (.v (.int .i64 y))] ∧
  ((k = 5 ∧ out = ⟨.d (.v (.int .i64 (IntKind.i64.wrap (r + y)))),rawD 1000002 K W n m dd ss a (IntKind.i64.wrap (r + y)) w f⟩) ∨ (k = 6 ∧ out = ⟨.d (.v (.int .i64 (IntKind.i64.wrap (w + y)))),rawD 1000002 K W n m dd ss a r (IntKind.i64.wrap (w + y)) f⟩) ∨
    (k = 7 ∧ out = ⟨.d (.v (.int .i64 (IntKind.i64.wrap (f + y)))),rawD 1000002 K W n m dd ss a r w (IntKind.i64.wrap (f + y))⟩))
theorem goodM_sync_atomic_Int64_Add : GoodM Try.prog 35 Sm_sync_atomic_Int64_Add:=by
  refine goodM_body (E:=DA) (nt:=10) (rs:=#[.tmp 4]) Try.func35 rfl rfl rfl ?_
  rintro vs lent out ⟨K,W,n,m,dd,ss,a,r,w,f,y,k,rfl,rfl,⟨rfl,rfl⟩|⟨rfl,rfl⟩|⟨rfl,rfl⟩⟩
  · refine ⟨by simp,?_⟩
    repeat' first
 | refine AW.seq ?_
 | refine AW.block ?_
 | refine AW.regl DA_ok [0,1,4] ?_
 | refine then_n ?_
 | refine then_r ?_
 | refine then_x ?_
 | refine block_x ?_
 | refine block_o (by decide) ?_
 | refine block_n ?_
 | refine block_r ?_
 | refine AW.skip ?_
 | refine AW.ret ?_
 | refine AW.exit ?_
 | refine AW.cond rfl ?_ ?_
 | refine awl_none rfl ?_
 | refine awl_nil2 ?_
 | (refine fun (hc : _ = _)=>?_;first|cases hc|((try rw [hc]);(try simp only [stH] at hc);(try (exfalso;omega)));(try (show Awl _ _ _ _ _;simp only [stU])))
 | ((first|refine fun (K : V → List _ → _) hK=>?_|refine fun (_ : V → V)=>?_);simp (maxSteps:=1000000) (disch:=omega) only [go_sem,Int.reduceEq,↓reduceIte,reduceCtorEq,Nat.reduceEqDiff,Nat.reduceLT,Nat.reduceLeDiff,Nat.reduceAdd,Nat.reduceSub,Nat.reduceMul,Int.reduceToNat,Int.reduceLE,Int.reduceLT,DA,rawD,rawB];(try (revert hK;intro hK;(repeat' first|(refine And.intro ?_ ?_)|(intro hc;first|cases hc|((try rw [hc]);(try simp only [stH] at hc);(try (exfalso;omega)))));all_goals first|(refine hK _ _ ?_;clear hK K;simp only [stU])|exact hK|omega)))
    all_goals (refine Ends.of (nm [(1000000,1000000),(1000001,1000001),(1000002,1000002)]) (by first|exact .inl rfl|exact .inr rfl) ?_;simp (maxSteps:=1000000) (disch:=omega) only [go_sem,Int.reduceEq,↓reduceIte,reduceCtorEq,Nat.reduceEqDiff,Nat.reduceLT,Nat.reduceLeDiff,Nat.reduceAdd,Nat.reduceSub,Nat.reduceMul,Int.reduceToNat,Int.reduceLE,Int.reduceLT,DA,rawD,rawB])
  · refine ⟨by simp,?_⟩
    repeat' first
 | refine AW.seq ?_
 | refine AW.block ?_
 | refine AW.regl DA_ok [0,1,4] ?_
 | refine then_n ?_
 | refine then_r ?_
 | refine then_x ?_
 | refine block_x ?_
 | refine block_o (by decide) ?_
 | refine block_n ?_
 | refine block_r ?_
 | refine AW.skip ?_
 | refine AW.ret ?_
 | refine AW.exit ?_
 | refine AW.cond rfl ?_ ?_
 | refine awl_none rfl ?_
 | refine awl_nil2 ?_
 | (refine fun (hc : _ = _)=>?_;first|cases hc|((try rw [hc]);(try simp only [stH] at hc);(try (exfalso;omega)));(try (show Awl _ _ _ _ _;simp only [stU])))
 | ((first|refine fun (K : V → List _ → _) hK=>?_|refine fun (_ : V → V)=>?_);simp (maxSteps:=1000000) (disch:=omega) only [go_sem,Int.reduceEq,↓reduceIte,reduceCtorEq,Nat.reduceEqDiff,Nat.reduceLT,Nat.reduceLeDiff,Nat.reduceAdd,Nat.reduceSub,Nat.reduceMul,Int.reduceToNat,Int.reduceLE,Int.reduceLT,DA,rawD,rawB];(try (revert hK;intro hK;(repeat' first|(refine And.intro ?_ ?_)|(intro hc;first|cases hc|((try rw [hc]);(try simp only [stH] at hc);(try (exfalso;omega)))));all_goals first|(refine hK _ _ ?_;clear hK K;simp only [stU])|exact hK|omega)))
    all_goals (refine Ends.of (nm [(1000000,1000000),(1000001,1000001),(1000002,1000002)]) (by first|exact .inl rfl|exact .inr rfl) ?_;simp (maxSteps:=1000000) (disch:=omega) only [go_sem,Int.reduceEq,↓reduceIte,reduceCtorEq,Nat.reduceEqDiff,Nat.reduceLT,Nat.reduceLeDiff,Nat.reduceAdd,Nat.reduceSub,Nat.reduceMul,Int.reduceToNat,Int.reduceLE,Int.reduceLT,DA,rawD,rawB])
  · refine ⟨by simp,?_⟩
    repeat' first
 | refine AW.seq ?_
 | refine AW.block ?_
 | refine AW.regl DA_ok [0,1,4] ?_
 | refine then_n ?_
 | refine then_r ?_
 | refine then_x ?_
 | refine block_x ?_
 | refine block_o (by decide) ?_
 | refine block_n ?_
 | refine block_r ?_
 | refine AW.skip ?_
 | refine AW.ret ?_
 | refine AW.exit ?_
 | refine AW.cond rfl ?_ ?_
 | refine awl_none rfl ?_
 | refine awl_nil2 ?_
 | (refine fun (hc : _ = _)=>?_;first|cases hc|((try rw [hc]);(try simp only [stH] at hc);(try (exfalso;omega)));(try (show Awl _ _ _ _ _;simp only [stU])))
 | ((first|refine fun (K : V → List _ → _) hK=>?_|refine fun (_ : V → V)=>?_);simp (maxSteps:=1000000) (disch:=omega) only [go_sem,Int.reduceEq,↓reduceIte,reduceCtorEq,Nat.reduceEqDiff,Nat.reduceLT,Nat.reduceLeDiff,Nat.reduceAdd,Nat.reduceSub,Nat.reduceMul,Int.reduceToNat,Int.reduceLE,Int.reduceLT,DA,rawD,rawB];(try (revert hK;intro hK;(repeat' first|(refine And.intro ?_ ?_)|(intro hc;first|cases hc|((try rw [hc]);(try simp only [stH] at hc);(try (exfalso;omega)))));all_goals first|(refine hK _ _ ?_;clear hK K;simp only [stU])|exact hK|omega)))
    all_goals (refine Ends.of (nm [(1000000,1000000),(1000001,1000001),(1000002,1000002)]) (by first|exact .inl rfl|exact .inr rfl) ?_;simp (maxSteps:=1000000) (disch:=omega) only [go_sem,Int.reduceEq,↓reduceIte,reduceCtorEq,Nat.reduceEqDiff,Nat.reduceLT,Nat.reduceLeDiff,Nat.reduceAdd,Nat.reduceSub,Nat.reduceMul,Int.reduceToNat,Int.reduceLE,Int.reduceLT,DA,rawD,rawB])
theorem ent_sync_atomic_Int64_Add : Ent Try.prog 35:=⟨_,Try.func35,rfl,by decide⟩
noncomputable def D0 : Env:=⟨Try.prog,fun f ds out=>False,Es,fun _=>false,fun f vs lent out=>False,fun f=>none,fun f=>false,false,fun f=>none⟩
theorem D0_sp : ∀ f ds out,D0.Sp f ds out → Ent D0.P f ∧ Good D0.P f (fun a b=>a = ds ∧ b = out):=fun _ _ _ h=>h.elim
theorem D0_sm : ∀ f vs lent out,D0.Sm f vs lent out → Ent D0.P f ∧ GoodM D0.P f (fun a l b=>a = vs ∧ l = lent ∧ b = out):=fun _ _ _ _ h=>h.elim
theorem D0_at : ∀ f k,D0.At f = some k → AtomOk D0.P f k:=fun _ _ h=>nomatch h
theorem D0_ok : D0.Ok:=⟨D0_sp,Es_ok,D0_sm,D0_at⟩
def Sm_disk_Disk_may (vs : List V) (lent : List (Nat × Ob)) (out : Out) : Prop:=∃ (K W : List D) (n m : Nat) (dd ss : Bool) (a r w f i : Int),lent = rawD 1000002 K W n m dd ss a r w f ∧ vs = [.ptr 1000000 0,.d (.v (.int .i64 i))] ∧ n ≤ 4096 ∧ out = ⟨.d (.v (.bool (decide (0 ≤ i ∧ i < n)))),rawD 1000002 K W n m dd ss a r w f⟩
theorem goodM_disk_Disk_may : GoodM Try.prog 36 Sm_disk_Disk_may:=by
  refine goodM_body (E:=D0) (nt:=16) (rs:=#[.tmp 4]) Try.func36 rfl rfl rfl ?_
  rintro vs lent out ⟨K,W,n,m,dd,ss,a,r,w,f,i,rfl,rfl,hn,rfl⟩
  refine ⟨by simp,?_⟩
  by_cases h0 : 0 ≤ i
  · by_cases h1 : i < n
    · have hz : decide (0 ≤ i ∧ i < (n : Int)) = true:=decide_eq_true ⟨h0,h1⟩
      have hz2 : decide (i < (n : Int)) = true:=decide_eq_true h1
      repeat' first
 | refine AW.seq ?_
 | refine AW.block ?_
 | refine AW.regl D0_ok [0,1,4] ?_
 | refine then_n ?_
 | refine then_r ?_
 | refine then_x ?_
 | refine block_x ?_
 | refine block_o (by decide) ?_
 | refine block_n ?_
 | refine block_r ?_
 | refine AW.skip ?_
 | refine AW.ret ?_
 | refine AW.exit ?_
 | refine AW.cond rfl ?_ ?_
 | refine awl_none rfl ?_
 | refine awl_nil2 ?_
 | refine awl_some rfl rfl (Nat.le_of_ble_eq_true rfl) rfl rfl ?_ ?_
 | (refine fun (hc : _ = _)=>?_;first|cases hc|((try rw [hc]);(try simp only [stH] at hc);(try (exfalso;omega)));(try (show Awl _ _ _ _ _;simp only [stU])))
 | ((first|refine fun (K : V → List _ → _) hK=>?_|refine fun (_ : V → V)=>?_);simp (maxSteps:=1000000) (disch:=omega) only [go_sem,Int.reduceEq,↓reduceIte,reduceCtorEq,Nat.reduceEqDiff,Nat.reduceLT,Nat.reduceLeDiff,Nat.reduceAdd,Nat.reduceSub,Nat.reduceMul,Int.reduceToNat,Int.reduceLE,Int.reduceLT,D0,hz2,rawD,rawB];(try (revert hK;intro hK;(repeat' first|(refine And.intro ?_ ?_)|(intro hc;first|cases hc|((try rw [hc]);(try simp only [stH] at hc);(try (exfalso;omega)))));all_goals first|(refine hK _ _ ?_;clear hK K;simp only [stU])|exact hK|omega)))
      all_goals (refine Ends.of (nm [(1000000,1000000),(1000001,1000001),(1000002,1000002)]) (by first|exact .inl rfl|exact .inr rfl) ?_;simp (maxSteps:=1000000) (disch:=omega) only [go_sem,Int.reduceEq,↓reduceIte,reduceCtorEq,Nat.reduceEqDiff,Nat.reduceLT,Nat.reduceLeDiff,Nat.reduceAdd,Nat.reduceSub,Nat.reduceMul,Int.reduceToNat,Int.reduceLE,Int.reduceLT,D0,hz,hz2,rawD,rawB])
    · have hz : decide (0 ≤ i ∧ i < (n : Int)) = false:=decide_eq_false (by omega)
      have hz2 : decide (i < (n : Int)) = false:=decide_eq_false h1
      repeat' first
 | refine AW.seq ?_
 | refine AW.block ?_
 | refine AW.regl D0_ok [0,1,4] ?_
 | refine then_n ?_
 | refine then_r ?_
 | refine then_x ?_
 | refine block_x ?_
 | refine block_o (by decide) ?_
 | refine block_n ?_
 | refine block_r ?_
 | refine AW.skip ?_
 | refine AW.ret ?_
 | refine AW.exit ?_
 | refine AW.cond rfl ?_ ?_
 | refine awl_none rfl ?_
 | refine awl_nil2 ?_
 | refine awl_some rfl rfl (Nat.le_of_ble_eq_true rfl) rfl rfl ?_ ?_
 | (refine fun (hc : _ = _)=>?_;first|cases hc|((try rw [hc]);(try simp only [stH] at hc);(try (exfalso;omega)));(try (show Awl _ _ _ _ _;simp only [stU])))
 | ((first|refine fun (K : V → List _ → _) hK=>?_|refine fun (_ : V → V)=>?_);simp (maxSteps:=1000000) (disch:=omega) only [go_sem,Int.reduceEq,↓reduceIte,reduceCtorEq,Nat.reduceEqDiff,Nat.reduceLT,Nat.reduceLeDiff,Nat.reduceAdd,Nat.reduceSub,Nat.reduceMul,Int.reduceToNat,Int.reduceLE,Int.reduceLT,D0,hz2,rawD,rawB];(try (revert hK;intro hK;(repeat' first|(refine And.intro ?_ ?_)|(intro hc;first|cases hc|((try rw [hc]);(try simp only [stH] at hc);(try (exfalso;omega)))));all_goals first|(refine hK _ _ ?_;clear hK K;simp only [stU])|exact hK|omega)))
      all_goals (refine Ends.of (nm [(1000000,1000000),(1000001,1000001),(1000002,1000002)]) (by first|exact .inl rfl|exact .inr rfl) ?_;simp (maxSteps:=1000000) (disch:=omega) only [go_sem,Int.reduceEq,↓reduceIte,reduceCtorEq,Nat.reduceEqDiff,Nat.reduceLT,Nat.reduceLeDiff,Nat.reduceAdd,Nat.reduceSub,Nat.reduceMul,Int.reduceToNat,Int.reduceLE,Int.reduceLT,D0,hz,hz2,rawD,rawB])
  · have hz : decide (0 ≤ i ∧ i < (n : Int)) = false:=decide_eq_false (by omega)
    repeat' first
 | refine AW.seq ?_
 | refine AW.block ?_
 | refine AW.regl D0_ok [0,1,4] ?_
 | refine then_n ?_
 | refine then_r ?_
 | refine then_x ?_
 | refine block_x ?_
 | refine block_o (by decide) ?_
 | refine block_n ?_
 | refine block_r ?_
 | refine AW.skip ?_
 | refine AW.ret ?_
 | refine AW.exit ?_
 | refine AW.cond rfl ?_ ?_
 | refine awl_none rfl ?_
 | refine awl_nil2 ?_
 | refine awl_some rfl rfl (Nat.le_of_ble_eq_true rfl) rfl rfl ?_ ?_
 | (refine fun (hc : _ = _)=>?_;first|cases hc|((try rw [hc]);(try simp only [stH] at hc);(try (exfalso;omega)));(try (show Awl _ _ _ _ _;simp only [stU])))
 | ((first|refine fun (K : V → List _ → _) hK=>?_|refine fun (_ : V → V)=>?_);simp (maxSteps:=1000000) (disch:=omega) only [go_sem,Int.reduceEq,↓reduceIte,reduceCtorEq,Nat.reduceEqDiff,Nat.reduceLT,Nat.reduceLeDiff,Nat.reduceAdd,Nat.reduceSub,Nat.reduceMul,Int.reduceToNat,Int.reduceLE,Int.reduceLT,D0,rawD,rawB];(try (revert hK;intro hK;(repeat' first|(refine And.intro ?_ ?_)|(intro hc;first|cases hc|((try rw [hc]);(try simp only [stH] at hc);(try (exfalso;omega)))));all_goals first|(refine hK _ _ ?_;clear hK K;simp only [stU])|exact hK|omega)))
    all_goals (refine Ends.of (nm [(1000000,1000000),(1000001,1000001),(1000002,1000002)]) (by first|exact .inl rfl|exact .inr rfl) ?_;simp (maxSteps:=1000000) (disch:=omega) only [go_sem,Int.reduceEq,↓reduceIte,reduceCtorEq,Nat.reduceEqDiff,Nat.reduceLT,Nat.reduceLeDiff,Nat.reduceAdd,Nat.reduceSub,Nat.reduceMul,Int.reduceToNat,Int.reduceLE,Int.reduceLT,D0,hz,rawD,rawB])
theorem ent_disk_Disk_may : Ent Try.prog 36:=⟨_,Try.func36,rfl,by decide⟩
def Sm_disk_Disk_step (vs : List V) (lent : List (Nat × Ob)) (out : Out) : Prop:=∃ (K W : List D) (n m : Nat) (dd ss : Bool) (a r w f : Int),lent = rawD 1000002 K W n m dd ss a r w f ∧ vs = [.ptr 1000000 0] ∧
  out = ⟨.d (.v (.bool (!(dd || (ss && decide (a = 0)))))),rawD 1000002 K W n m (dd || (ss && decide (a = 0))) ss a r w f⟩
theorem goodM_disk_Disk_step : GoodM Try.prog 34 Sm_disk_Disk_step:=by
  refine goodM_body (E:=D0) (nt:=22) (rs:=#[.tmp 2]) Try.func34 rfl rfl rfl ?_
  rintro vs lent out ⟨K,W,n,m,dd,ss,a,r,w,f,rfl,rfl,rfl⟩
  refine ⟨by simp,?_⟩
  by_cases h0 : a = 0
  · have hz : decide (a = 0) = true:=decide_eq_true h0
    subst h0
    cases ss
    all_goals cases dd
    all_goals repeat' first
 | refine AW.seq ?_
 | refine AW.block ?_
 | refine AW.regl D0_ok [0,2,13] ?_
 | refine then_n ?_
 | refine then_r ?_
 | refine then_x ?_
 | refine block_x ?_
 | refine block_o (by decide) ?_
 | refine block_n ?_
 | refine block_r ?_
 | refine AW.skip ?_
 | refine AW.ret ?_
 | refine AW.exit ?_
 | refine AW.cond rfl ?_ ?_
 | refine awl_none rfl ?_
 | refine awl_nil2 ?_
 | refine awl_some rfl rfl (Nat.le_of_ble_eq_true rfl) rfl rfl ?_ ?_
 | (refine fun (hc : _ = _)=>?_;first|cases hc|((try rw [hc]);(try simp only [stH] at hc);(try (exfalso;omega)));(try (show Awl _ _ _ _ _;simp only [stU])))
 | ((first|refine fun (K : V → List _ → _) hK=>?_|refine fun (_ : V → V)=>?_);simp (maxSteps:=1000000) (disch:=omega) only [go_sem,Int.reduceEq,↓reduceIte,reduceCtorEq,Nat.reduceEqDiff,Nat.reduceLT,Nat.reduceLeDiff,Nat.reduceAdd,Nat.reduceSub,Nat.reduceMul,Int.reduceToNat,Int.reduceLE,Int.reduceLT,D0,rawD,rawB];(try (revert hK;intro hK;(repeat' first|(refine And.intro ?_ ?_)|(intro hc;first|cases hc|((try rw [hc]);(try simp only [stH] at hc);(try (exfalso;omega)))));all_goals first|(refine hK _ _ ?_;clear hK K;simp only [stU])|exact hK|omega)))
    all_goals (refine Ends.of (nm [(1000000,1000000),(1000001,1000001),(1000002,1000002)]) (by first|exact .inl rfl|exact .inr rfl) ?_;simp (maxSteps:=1000000) (disch:=omega) only [go_sem,Int.reduceEq,↓reduceIte,reduceCtorEq,Nat.reduceEqDiff,Nat.reduceLT,Nat.reduceLeDiff,Nat.reduceAdd,Nat.reduceSub,Nat.reduceMul,Int.reduceToNat,Int.reduceLE,Int.reduceLT,D0,hz,rawD,rawB,Bool.or_true,Bool.or_false,Bool.true_or,Bool.false_or])
  · have hz : decide (a = 0) = false:=decide_eq_false h0
    cases ss
    all_goals cases dd
    all_goals repeat' first
 | refine AW.seq ?_
 | refine AW.block ?_
 | refine AW.regl D0_ok [0,2,13] ?_
 | refine then_n ?_
 | refine then_r ?_
 | refine then_x ?_
 | refine block_x ?_
 | refine block_o (by decide) ?_
 | refine block_n ?_
 | refine block_r ?_
 | refine AW.skip ?_
 | refine AW.ret ?_
 | refine AW.exit ?_
 | refine AW.cond rfl ?_ ?_
 | refine awl_none rfl ?_
 | refine awl_nil2 ?_
 | refine awl_some rfl rfl (Nat.le_of_ble_eq_true rfl) rfl rfl ?_ ?_
 | (refine fun (hc : _ = _)=>?_;first|cases hc|((try rw [hc]);(try simp only [stH] at hc);(try (exfalso;omega)));(try (show Awl _ _ _ _ _;simp only [stU])))
 | ((first|refine fun (K : V → List _ → _) hK=>?_|refine fun (_ : V → V)=>?_);simp (maxSteps:=1000000) (disch:=omega) only [go_sem,Int.reduceEq,↓reduceIte,reduceCtorEq,Nat.reduceEqDiff,Nat.reduceLT,Nat.reduceLeDiff,Nat.reduceAdd,Nat.reduceSub,Nat.reduceMul,Int.reduceToNat,Int.reduceLE,Int.reduceLT,D0,rawD,rawB,h0];(try (revert hK;intro hK;(repeat' first|(refine And.intro ?_ ?_)|(intro hc;first|cases hc|((try rw [hc]);(try simp only [stH] at hc);(try (exfalso;omega)))));all_goals first|(refine hK _ _ ?_;clear hK K;simp only [stU])|exact hK|omega)))
    all_goals (refine Ends.of (nm [(1000000,1000000),(1000001,1000001),(1000002,1000002)]) (by first|exact .inl rfl|exact .inr rfl) ?_;simp (maxSteps:=1000000) (disch:=omega) only [go_sem,Int.reduceEq,↓reduceIte,reduceCtorEq,Nat.reduceEqDiff,Nat.reduceLT,Nat.reduceLeDiff,Nat.reduceAdd,Nat.reduceSub,Nat.reduceMul,Int.reduceToNat,Int.reduceLE,Int.reduceLT,D0,hz,rawD,rawB,Bool.or_true,Bool.or_false,Bool.true_or,Bool.false_or])
theorem ent_disk_Disk_step : Ent Try.prog 34:=⟨_,Try.func34,rfl,by decide⟩
end Go.Proofs.Ytcmnblgekcjpiaa.Am
