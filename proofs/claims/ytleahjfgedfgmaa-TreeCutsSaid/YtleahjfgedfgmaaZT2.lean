import Derived.Test.YtleahjfgedfgmaaZTN
import Derived.Test.YtleahjfgedfgmaaZT1
set_option linter.unusedVariables false
set_option linter.unusedSimpArgs false
set_option maxRecDepth 10000
set_option maxHeartbeats 0
namespace Go.Proofs.Ytleahjfgedfgmaa.Am
open Go Go.RowKit Go.Proofs
def Lo (S : Nat → List D → Out → Prop) (k : Nat) (ds : List D) (out : Out) : Prop:=match k with|0=>False|j + 1=>S j ds out
theorem Lo_succ (S : Nat → List D → Out → Prop) (k : Nat) (ds : List D) (out : Out) : Lo S (k + 1) ds out = S k ds out:=rfl
theorem Lo_zero (S : Nat → List D → Out → Prop) (ds : List D) (out : Out) : Lo S 0 ds out = False:=rfl
noncomputable def Y0 : Env:=⟨Try.prog,fun f ds out=>False,Es,fun _=>false,fun f vs lent out=>False,fun f=>none,fun f=>false,false,fun f=>none⟩
theorem Y0_sp : ∀ f ds out,Y0.Sp f ds out → Ent Y0.P f ∧ Good Y0.P f (fun a b=>a = ds ∧ b = out):=fun _ _ _ h=>h.elim
theorem Y0_sm : ∀ f vs lent out,Y0.Sm f vs lent out → Ent Y0.P f ∧ GoodM Y0.P f (fun a l b=>a = vs ∧ l = lent ∧ b = out):=fun _ _ _ _ h=>h.elim
theorem Y0_at : ∀ f k,Y0.At f = some k → AtomOk Y0.P f k:=fun _ _ h=>nomatch h
theorem Y0_ok : Y0.Ok:=⟨Y0_sp,Es_ok,Y0_sm,Y0_at⟩
def Sp_tree_fresh (ds : List D) (out : Out) : Prop:=∃ l : List Xt,ds = [.list (l.map eD)] ∧ l.length ≤ 1000000 ∧ out = ⟨.sl 0 5 0 l.length true,[(0,.row 25 5 (l.map eD))]⟩
theorem good_tree_fresh : Good Try.prog 40 Sp_tree_fresh:=by
  refine good_body (E:=Y0) (nt:=5) (rs:=#[.tmp 2]) Try.func40 rfl rfl rfl ?_
  rintro ds out ⟨l,rfl,hl,rfl⟩
  refine ⟨by simp,?_⟩
  repeat' first
 | refine AW.seq ?_
 | refine AW.block ?_
 | refine AW.regl Y0_ok [0,2] ?_
 | refine then_n ?_
 | refine then_r ?_
 | refine then_x ?_
 | refine block_x ?_
 | refine block_o (by decide) ?_
 | refine block_n ?_
 | refine block_r ?_
 | refine AW.skip ?_
 | refine AW.ret ?_
 | refine AW.exit ?_
 | refine AW.cond rfl ?_ ?_
 | refine awl_none rfl ?_
 | refine awl_nil2 ?_
 | (refine fun (hc : _ = _)=>?_;first|cases hc|((try rw [hc]);(try simp only [stH] at hc);(try (exfalso;omega)));(try (show Awl _ _ _ _ _;simp only [stU])))
 | ((first|refine fun (K : V → List _ → _) hK=>?_|refine fun (_ : V → V)=>?_);simp (maxSteps:=1000000) (disch:=omega) only [go_sem,Int.reduceEq,↓reduceIte,reduceCtorEq,Nat.reduceEqDiff,Nat.reduceLT,Nat.reduceLeDiff,Nat.reduceAdd,Nat.reduceSub,Nat.reduceMul,Int.reduceToNat,Int.reduceLE,Int.reduceLT,Y0,all_E];(try (revert hK;intro hK;(repeat' first|(refine And.intro ?_ ?_)|(intro hc;first|cases hc|((try rw [hc]);(try simp only [stH] at hc);(try (exfalso;omega)))));all_goals first|(refine hK _ _ ?_;clear hK K;simp only [stU])|exact hK|omega)))
  all_goals (refine Ends.of (nm [(0,4)]) (by first|exact .inl rfl|exact .inr rfl) ?_;simp (maxSteps:=1000000) (disch:=omega) only [go_sem,Int.reduceEq,↓reduceIte,reduceCtorEq,Nat.reduceEqDiff,Nat.reduceLT,Nat.reduceLeDiff,Nat.reduceAdd,Nat.reduceSub,Nat.reduceMul,Int.reduceToNat,Int.reduceLE,Int.reduceLT,Y0])
theorem ent_tree_fresh : Ent Try.prog 40:=⟨_,Try.func40,rfl,by decide⟩
def szI (n g i : Nat) : Int:=((n / g + if i < n % g then 1 else 0 : Nat) : Int)
def szL (n g k : Nat) : List Int:=(List.range k).map (szI n g)
theorem szL_len (n g k : Nat) : (szL n g k).length = k:=by simp [szL]
theorem szL_succ (n g k : Nat) : szL n g (k + 1) = szL n g k ++ [szI n g k]:=by simp [szL,List.range_succ]
def Sp_tree_cut (ds : List D) (out : Out) : Prop:=∃ n : Nat,ds = [.v (.int .i64 n),.v (.int .i64 8)] ∧ n ≤ 1000000 ∧ out = ⟨.sl 0 1 0 ((n + 7) / 8) true,[(0,.row 3 1 ((szL n ((n + 7) / 8) ((n + 7) / 8)).map mI))]⟩
theorem good_tree_cut : Good Try.prog 54 Sp_tree_cut:=by
  refine good_body (E:=Y0) (nt:=37) (rs:=#[.tmp 4]) Try.func54 rfl rfl rfl ?_
  rintro ds out ⟨n,rfl,hn,rfl⟩
  refine ⟨by simp,?_⟩
  obtain ⟨g,hg⟩ : ∃ g,(n + 7) / 8 = g:=⟨_,rfl⟩
  have hq : ((n : Int) + 8 - 1).tdiv 8 = (g : Int):=by
    rw [Int.tdiv_eq_ediv_of_nonneg (by omega)];omega
  have hw : IntKind.i64.wrap ((n : Int) + 8) = (n : Int) + 8:=wrap_id _ (by omega) (by omega)
  rw [hg]
  repeat' ((first
 | refine AW.seq ?_
 | refine AW.block ?_
 | refine AW.regl Y0_ok [0,1,4,5,6,7,14,15,16,28] ?_
 | refine then_n ?_
 | refine then_r ?_
 | refine then_x ?_
 | refine block_x ?_
 | refine block_o (by decide) ?_
 | refine block_n ?_
 | refine block_r ?_
 | refine AW.skip ?_
 | refine AW.ret ?_
 | refine AW.exit ?_
 | refine AW.cond rfl ?_ ?_
 | refine awl_none rfl ?_
 | refine awl_nil2 ?_
 | (refine fun (hc : _ = _)=>?_;first|cases hc|((try rw [hc]);(try simp only [stH] at hc);(try (exfalso;omega)));(try (show Awl _ _ _ _ _;simp only [stU])))
 | ((first|refine fun (K : V → List _ → _) hK=>?_|refine fun (_ : V → V)=>?_);simp (maxSteps:=1000000) (disch:=omega) only [go_sem,Int.reduceEq,↓reduceIte,reduceCtorEq,Nat.reduceEqDiff,Nat.reduceLT,Nat.reduceLeDiff,Nat.reduceAdd,Nat.reduceSub,Nat.reduceMul,Int.reduceToNat,Int.reduceLE,Int.reduceLT,Y0,hq,hw];(try (revert hK;intro hK;(repeat' first|(refine And.intro ?_ ?_)|(intro hc;first|cases hc|((try rw [hc]);(try simp only [stH] at hc);(try (exfalso;omega)))));all_goals first|(refine hK _ _ ?_;clear hK K;simp only [stU])|exact hK|omega)))) <;> (fail_if_success (show False;skip)))
  refine AW.loop_wk (fun k : Nat=>⟨[(0,.d (.v (.int .i64 n))),(5,.d (.v (.int .i64 g))),(6,.sl 100 1 0 k true),(14,.d (.v (.int .i64 g))),(15,.d (.v (.int .i64 k)))],[(100,.row 3 1 ((szL n g k).map mI))],37⟩)
    (fun k=>k ≤ g) (fun k=>g - k) 0 (Nat.zero_le _) (fun w0 oa aa w hs=>Wk.sr (ρ:=nm []) (Wk.of ?_) (nil_sr 6 100 3 1 rfl (by simp) rfl (by decide) hs)) ?_
  · have h0 : szL n g 0 = []:=rfl
    simp (maxSteps:=1000000) (disch:=omega) only [go_sem,Int.reduceEq,↓reduceIte,reduceCtorEq,Nat.reduceEqDiff,Nat.reduceLT,Nat.reduceLeDiff,Nat.reduceAdd,Nat.reduceSub,Nat.reduceMul,Int.reduceToNat,Int.reduceLE,Int.reduceLT,Y0,h0]
  intro k hk
  by_cases hk1 : k < g
  · have e1 : (n : Int).tdiv g = ((n / g : Nat) : Int):=rfl
    have e2 : (n : Int).tmod g = ((n % g : Nat) : Int):=rfl
    have e3:=szL_len n g k
    have e4:=szL_succ n g k
    have e0 : ¬ (g : Int) = 0:=by omega
    obtain ⟨R,hR⟩ : ∃ R,szL n g k = R:=⟨_,rfl⟩
    rw [hR] at e3 e4
    have hqn : n / g ≤ n:=Nat.div_le_self _ _
    obtain ⟨z,hz⟩ : ∃ z,n / g = z:=⟨_,rfl⟩
    rw [hz] at e1 hqn
    have e5 : R.map mI ++ [D.v (.int .i64 (z : Int))] = (R ++ [(z : Int)]).map mI:=by simp [mI]
    have e6 : (R ++ [(z : Int)]).length = k + 1:=by simp [e3]
    by_cases hm : k < n % g
    · have hm' : (k : Int) < ((n % g : Nat) : Int):=by omega
      have hs : szI n g k = (z : Int) + 1:=by unfold szI;rw [if_pos hm,hz];simp
      rw [hs] at e4
      have e7:=nth_I (R ++ [(z : Int)]) k (by omega)
      have e8 : (R ++ [(z : Int)]).getD k 0 = z:=by rw [← e3];simp [List.getD_eq_getElem?_getD]
      have e9 : (R ++ [(z : Int)]).set k ((z : Int) + 1) = R ++ [(z : Int) + 1]:=by rw [← e3];simp
      rw [e8] at e7
      obtain ⟨m,hmm⟩ : ∃ m,n % g = m:=⟨_,rfl⟩
      rw [hmm] at hm' e2
      repeat' ((first
 | refine AW.seq ?_
 | refine AW.block ?_
 | refine AW.regl Y0_ok [0,1,4,5,6,7,14,15,16,28] ?_
 | refine then_n ?_
 | refine then_r ?_
 | refine then_x ?_
 | refine block_x ?_
 | refine block_o (by decide) ?_
 | refine block_n ?_
 | refine block_r ?_
 | refine AW.skip ?_
 | refine AW.ret ?_
 | refine AW.exit ?_
 | refine AW.cond rfl ?_ ?_
 | refine awl_none rfl ?_
 | refine awl_nil2 ?_
 | (refine fun (hc : _ = _)=>?_;first|cases hc|((try rw [hc]);(try simp only [stH] at hc);(try (exfalso;omega)));(try (show Awl _ _ _ _ _;simp only [stU])))
 | ((first|refine fun (K : V → List _ → _) hK=>?_|refine fun (_ : V → V)=>?_);simp (maxSteps:=1000000) (disch:=omega) only [go_sem,Int.reduceEq,↓reduceIte,reduceCtorEq,Nat.reduceEqDiff,Nat.reduceLT,Nat.reduceLeDiff,Nat.reduceAdd,Nat.reduceSub,Nat.reduceMul,Int.reduceToNat,Int.reduceLE,Int.reduceLT,Y0,hR,e0,e1,e2,e3,e5,e6,e7,e9];(try (revert hK;intro hK;(repeat' first|(refine And.intro ?_ ?_)|(intro hc;first|cases hc|((try rw [hc]);(try simp only [stH] at hc);(try (exfalso;omega)))));all_goals first|(refine hK _ _ ?_;clear hK K;simp only [stU])|exact hK|omega)))) <;> (fail_if_success (show False;skip)))
      refine ⟨k + 1,by omega,by omega,nm [(100,23)],Wk.of ?_⟩
      simp (maxSteps:=1000000) (disch:=omega) only [go_sem,Int.reduceEq,↓reduceIte,reduceCtorEq,Nat.reduceEqDiff,Nat.reduceLT,Nat.reduceLeDiff,Nat.reduceAdd,Nat.reduceSub,Nat.reduceMul,Int.reduceToNat,Int.reduceLE,Int.reduceLT,Y0,e4]
      rfl
    · have hm' : ¬ (k : Int) < ((n % g : Nat) : Int):=by omega
      have hs : szI n g k = (z : Int):=by unfold szI;rw [if_neg hm,hz];simp
      rw [hs] at e4
      obtain ⟨m,hmm⟩ : ∃ m,n % g = m:=⟨_,rfl⟩
      rw [hmm] at hm' e2
      repeat' ((first
 | refine AW.seq ?_
 | refine AW.block ?_
 | refine AW.regl Y0_ok [0,1,4,5,6,7,14,15,16,28] ?_
 | refine then_n ?_
 | refine then_r ?_
 | refine then_x ?_
 | refine block_x ?_
 | refine block_o (by decide) ?_
 | refine block_n ?_
 | refine block_r ?_
 | refine AW.skip ?_
 | refine AW.ret ?_
 | refine AW.exit ?_
 | refine AW.cond rfl ?_ ?_
 | refine awl_none rfl ?_
 | refine awl_nil2 ?_
 | (refine fun (hc : _ = _)=>?_;first|cases hc|((try rw [hc]);(try simp only [stH] at hc);(try (exfalso;omega)));(try (show Awl _ _ _ _ _;simp only [stU])))
 | ((first|refine fun (K : V → List _ → _) hK=>?_|refine fun (_ : V → V)=>?_);simp (maxSteps:=1000000) (disch:=omega) only [go_sem,Int.reduceEq,↓reduceIte,reduceCtorEq,Nat.reduceEqDiff,Nat.reduceLT,Nat.reduceLeDiff,Nat.reduceAdd,Nat.reduceSub,Nat.reduceMul,Int.reduceToNat,Int.reduceLE,Int.reduceLT,Y0,hR,e0,e1,e2,e3,e5,e6];(try (revert hK;intro hK;(repeat' first|(refine And.intro ?_ ?_)|(intro hc;first|cases hc|((try rw [hc]);(try simp only [stH] at hc);(try (exfalso;omega)))));all_goals first|(refine hK _ _ ?_;clear hK K;simp only [stU])|exact hK|omega)))) <;> (fail_if_success (show False;skip)))
      refine ⟨k + 1,by omega,by omega,nm [(100,23)],Wk.of ?_⟩
      simp (maxSteps:=1000000) (disch:=omega) only [go_sem,Int.reduceEq,↓reduceIte,reduceCtorEq,Nat.reduceEqDiff,Nat.reduceLT,Nat.reduceLeDiff,Nat.reduceAdd,Nat.reduceSub,Nat.reduceMul,Int.reduceToNat,Int.reduceLE,Int.reduceLT,Y0,e4]
      rfl
  · obtain rfl : k = g:=by omega
    repeat' ((first
 | refine AW.seq ?_
 | refine AW.block ?_
 | refine AW.regl Y0_ok [0,1,4,5,6,7,14,15,16,28] ?_
 | refine then_n ?_
 | refine then_r ?_
 | refine then_x ?_
 | refine block_x ?_
 | refine block_o (by decide) ?_
 | refine block_n ?_
 | refine block_r ?_
 | refine AW.skip ?_
 | refine AW.ret ?_
 | refine AW.exit ?_
 | refine AW.cond rfl ?_ ?_
 | refine awl_none rfl ?_
 | refine awl_nil2 ?_
 | (refine fun (hc : _ = _)=>?_;first|cases hc|((try rw [hc]);(try simp only [stH] at hc);(try (exfalso;omega)));(try (show Awl _ _ _ _ _;simp only [stU])))
 | ((first|refine fun (K : V → List _ → _) hK=>?_|refine fun (_ : V → V)=>?_);simp (maxSteps:=1000000) (disch:=omega) only [go_sem,Int.reduceEq,↓reduceIte,reduceCtorEq,Nat.reduceEqDiff,Nat.reduceLT,Nat.reduceLeDiff,Nat.reduceAdd,Nat.reduceSub,Nat.reduceMul,Int.reduceToNat,Int.reduceLE,Int.reduceLT,Y0];(try (revert hK;intro hK;(repeat' first|(refine And.intro ?_ ?_)|(intro hc;first|cases hc|((try rw [hc]);(try simp only [stH] at hc);(try (exfalso;omega)))));all_goals first|(refine hK _ _ ?_;clear hK K;simp only [stU])|exact hK|omega)))) <;> (fail_if_success (show False;skip)))
    all_goals (refine Ends.of (nm [(0,100)]) (by first|exact .inl rfl|exact .inr rfl) ?_;simp (maxSteps:=1000000) (disch:=omega) only [go_sem,Int.reduceEq,↓reduceIte,reduceCtorEq,Nat.reduceEqDiff,Nat.reduceLT,Nat.reduceLeDiff,Nat.reduceAdd,Nat.reduceSub,Nat.reduceMul,Int.reduceToNat,Int.reduceLE,Int.reduceLT,Y0])
theorem ent_tree_cut : Ent Try.prog 54:=⟨_,Try.func54,rfl,by decide⟩
def nA (l : List Xt) (f : List Int) (p : List Nd) : D:=.agg [.list (l.map eD),.list (f.map mI),.list (p.map nD)]
def Sp_tree_Node_empty (ds : List D) (out : Out) : Prop:=∃ (l : List Xt) (f : List Int) (p : List Nd),ds = [.agg [.list (l.map eD),.list (f.map mI),.list (p.map nD)]] ∧ (l.length ≤ 1000000 ∧ f.length ≤ 1000000 ∧ p.length ≤ 1000000) ∧ out = ⟨.d (.v (.bool (decide (l = [] ∧ f = [] ∧ p = [])))),[]⟩
theorem good_tree_Node_empty : Good Try.prog 43 Sp_tree_Node_empty:=by
  refine good_body (E:=Y0) (nt:=19) (rs:=#[.tmp 2]) Try.func43 rfl rfl rfl ?_
  rintro ds out ⟨l,f,p,rfl,⟨hl,hf,hp⟩,rfl⟩
  refine ⟨by simp,?_⟩
  have d1 : decide ((l.length : Int) = 0) = decide (l = []):=by cases l <;> simp;try omega
  have d2 : decide ((f.length : Int) = 0) = decide (f = []):=by cases f <;> simp;try omega
  have d3 : decide ((p.length : Int) = 0) = decide (p = []):=by cases p <;> simp;try omega
  by_cases h1 : l = []
  · by_cases h2 : f = []
    · by_cases h3 : p = []
      · have hz : decide (l = [] ∧ f = [] ∧ p = []) = true:=decide_eq_true ⟨h1,h2,h3⟩
        rw [decide_eq_true h1] at d1
        rw [decide_eq_true h2] at d2
        rw [decide_eq_true h3] at d3
        repeat' ((first
 | refine AW.seq ?_
 | refine AW.block ?_
 | refine AW.regl Y0_ok [0,1,2] ?_
 | refine then_n ?_
 | refine then_r ?_
 | refine then_x ?_
 | refine block_x ?_
 | refine block_o (by decide) ?_
 | refine block_n ?_
 | refine block_r ?_
 | refine AW.skip ?_
 | refine AW.ret ?_
 | refine AW.exit ?_
 | refine AW.cond rfl ?_ ?_
 | refine awl_none rfl ?_
 | refine awl_nil2 ?_
 | refine awl_some rfl rfl (Nat.le_of_ble_eq_true rfl) rfl rfl ?_ ?_
 | (refine fun (hc : _ = _)=>?_;first|cases hc|((try rw [hc]);(try simp only [stH] at hc);(try (exfalso;omega)));(try (show Awl _ _ _ _ _;simp only [stU])))
 | ((first|refine fun (K : V → List _ → _) hK=>?_|refine fun (_ : V → V)=>?_);simp (maxSteps:=1000000) (disch:=omega) only [go_sem,Int.reduceEq,↓reduceIte,reduceCtorEq,Nat.reduceEqDiff,Nat.reduceLT,Nat.reduceLeDiff,Nat.reduceAdd,Nat.reduceSub,Nat.reduceMul,Int.reduceToNat,Int.reduceLE,Int.reduceLT,Y0,d1,d2,d3];(try (revert hK;intro hK;(repeat' first|(refine And.intro ?_ ?_)|(intro hc;first|cases hc|((try rw [hc]);(try simp only [stH] at hc);(try (exfalso;omega)))));all_goals first|(refine hK _ _ ?_;clear hK K;simp only [stU])|exact hK|omega)))) <;> (fail_if_success (show False;skip)))
        all_goals (refine Ends.of (nm []) (by first|exact .inl rfl|exact .inr rfl) ?_;simp (maxSteps:=1000000) (disch:=omega) only [go_sem,Int.reduceEq,↓reduceIte,reduceCtorEq,Nat.reduceEqDiff,Nat.reduceLT,Nat.reduceLeDiff,Nat.reduceAdd,Nat.reduceSub,Nat.reduceMul,Int.reduceToNat,Int.reduceLE,Int.reduceLT,Y0,hz])
      · have hz : decide (l = [] ∧ f = [] ∧ p = []) = false:=decide_eq_false fun h=>h3 h.2.2
        rw [decide_eq_true h1] at d1
        rw [decide_eq_true h2] at d2
        rw [decide_eq_false h3] at d3
        repeat' ((first
 | refine AW.seq ?_
 | refine AW.block ?_
 | refine AW.regl Y0_ok [0,1,2] ?_
 | refine then_n ?_
 | refine then_r ?_
 | refine then_x ?_
 | refine block_x ?_
 | refine block_o (by decide) ?_
 | refine block_n ?_
 | refine block_r ?_
 | refine AW.skip ?_
 | refine AW.ret ?_
 | refine AW.exit ?_
 | refine AW.cond rfl ?_ ?_
 | refine awl_none rfl ?_
 | refine awl_nil2 ?_
 | refine awl_some rfl rfl (Nat.le_of_ble_eq_true rfl) rfl rfl ?_ ?_
 | (refine fun (hc : _ = _)=>?_;first|cases hc|((try rw [hc]);(try simp only [stH] at hc);(try (exfalso;omega)));(try (show Awl _ _ _ _ _;simp only [stU])))
 | ((first|refine fun (K : V → List _ → _) hK=>?_|refine fun (_ : V → V)=>?_);simp (maxSteps:=1000000) (disch:=omega) only [go_sem,Int.reduceEq,↓reduceIte,reduceCtorEq,Nat.reduceEqDiff,Nat.reduceLT,Nat.reduceLeDiff,Nat.reduceAdd,Nat.reduceSub,Nat.reduceMul,Int.reduceToNat,Int.reduceLE,Int.reduceLT,Y0,d1,d2,d3];(try (revert hK;intro hK;(repeat' first|(refine And.intro ?_ ?_)|(intro hc;first|cases hc|((try rw [hc]);(try simp only [stH] at hc);(try (exfalso;omega)))));all_goals first|(refine hK _ _ ?_;clear hK K;simp only [stU])|exact hK|omega)))) <;> (fail_if_success (show False;skip)))
        all_goals (refine Ends.of (nm []) (by first|exact .inl rfl|exact .inr rfl) ?_;simp (maxSteps:=1000000) (disch:=omega) only [go_sem,Int.reduceEq,↓reduceIte,reduceCtorEq,Nat.reduceEqDiff,Nat.reduceLT,Nat.reduceLeDiff,Nat.reduceAdd,Nat.reduceSub,Nat.reduceMul,Int.reduceToNat,Int.reduceLE,Int.reduceLT,Y0,hz])
    · have hz : decide (l = [] ∧ f = [] ∧ p = []) = false:=decide_eq_false fun h=>h2 h.2.1
      rw [decide_eq_true h1] at d1
      rw [decide_eq_false h2] at d2
      repeat' ((first
 | refine AW.seq ?_
 | refine AW.block ?_
 | refine AW.regl Y0_ok [0,1,2] ?_
 | refine then_n ?_
 | refine then_r ?_
 | refine then_x ?_
 | refine block_x ?_
 | refine block_o (by decide) ?_
 | refine block_n ?_
 | refine block_r ?_
 | refine AW.skip ?_
 | refine AW.ret ?_
 | refine AW.exit ?_
 | refine AW.cond rfl ?_ ?_
 | refine awl_none rfl ?_
 | refine awl_nil2 ?_
 | refine awl_some rfl rfl (Nat.le_of_ble_eq_true rfl) rfl rfl ?_ ?_
 | (refine fun (hc : _ = _)=>?_;first|cases hc|((try rw [hc]);(try simp only [stH] at hc);(try (exfalso;omega)));(try (show Awl _ _ _ _ _;simp only [stU])))
 | ((first|refine fun (K : V → List _ → _) hK=>?_|refine fun (_ : V → V)=>?_);simp (maxSteps:=1000000) (disch:=omega) only [go_sem,Int.reduceEq,↓reduceIte,reduceCtorEq,Nat.reduceEqDiff,Nat.reduceLT,Nat.reduceLeDiff,Nat.reduceAdd,Nat.reduceSub,Nat.reduceMul,Int.reduceToNat,Int.reduceLE,Int.reduceLT,Y0,d1,d2];(try (revert hK;intro hK;(repeat' first|(refine And.intro ?_ ?_)|(intro hc;first|cases hc|((try rw [hc]);(try simp only [stH] at hc);(try (exfalso;omega)))));all_goals first|(refine hK _ _ ?_;clear hK K;simp only [stU])|exact hK|omega)))) <;> (fail_if_success (show False;skip)))
      all_goals (refine Ends.of (nm []) (by first|exact .inl rfl|exact .inr rfl) ?_;simp (maxSteps:=1000000) (disch:=omega) only [go_sem,Int.reduceEq,↓reduceIte,reduceCtorEq,Nat.reduceEqDiff,Nat.reduceLT,Nat.reduceLeDiff,Nat.reduceAdd,Nat.reduceSub,Nat.reduceMul,Int.reduceToNat,Int.reduceLE,Int.reduceLT,Y0,hz])
  · have hz : decide (l = [] ∧ f = [] ∧ p = []) = false:=decide_eq_false fun h=>h1 h.1
    rw [decide_eq_false h1] at d1
    repeat' ((first
 | refine AW.seq ?_
 | refine AW.block ?_
 | refine AW.regl Y0_ok [0,1,2] ?_
 | refine then_n ?_
 | refine then_r ?_
 | refine then_x ?_
 | refine block_x ?_
 | refine block_o (by decide) ?_
 | refine block_n ?_
 | refine block_r ?_
 | refine AW.skip ?_
 | refine AW.ret ?_
 | refine AW.exit ?_
 | refine AW.cond rfl ?_ ?_
 | refine awl_none rfl ?_
 | refine awl_nil2 ?_
 | refine awl_some rfl rfl (Nat.le_of_ble_eq_true rfl) rfl rfl ?_ ?_
 | (refine fun (hc : _ = _)=>?_;first|cases hc|((try rw [hc]);(try simp only [stH] at hc);(try (exfalso;omega)));(try (show Awl _ _ _ _ _;simp only [stU])))
 | ((first|refine fun (K : V → List _ → _) hK=>?_|refine fun (_ : V → V)=>?_);simp (maxSteps:=1000000) (disch:=omega) only [go_sem,Int.reduceEq,↓reduceIte,reduceCtorEq,Nat.reduceEqDiff,Nat.reduceLT,Nat.reduceLeDiff,Nat.reduceAdd,Nat.reduceSub,Nat.reduceMul,Int.reduceToNat,Int.reduceLE,Int.reduceLT,Y0,d1];(try (revert hK;intro hK;(repeat' first|(refine And.intro ?_ ?_)|(intro hc;first|cases hc|((try rw [hc]);(try simp only [stH] at hc);(try (exfalso;omega)))));all_goals first|(refine hK _ _ ?_;clear hK K;simp only [stU])|exact hK|omega)))) <;> (fail_if_success (show False;skip)))
    all_goals (refine Ends.of (nm []) (by first|exact .inl rfl|exact .inr rfl) ?_;simp (maxSteps:=1000000) (disch:=omega) only [go_sem,Int.reduceEq,↓reduceIte,reduceCtorEq,Nat.reduceEqDiff,Nat.reduceLT,Nat.reduceLeDiff,Nat.reduceAdd,Nat.reduceSub,Nat.reduceMul,Int.reduceToNat,Int.reduceLE,Int.reduceLT,Y0,hz])
theorem ent_tree_Node_empty : Ent Try.prog 43:=⟨_,Try.func43,rfl,by decide⟩
def gF (a : Int) (q : Nat × Bool × List Xt × List Int × List Nd) : Prop:=∃ (r' : List Xt) (d' m' : Nat),chk (q.1 + 1) q.2.1 (.mk q.2.2.1 q.2.2.2.1 q.2.2.2.2) = some (r',d',m') ∧ a = (r'.getD 0 x0).f0
def Sp_tree_Node_first (ds : List D) (out : Out) : Prop:=∃ (l : List Xt) (f : List Int) (p : List Nd),ds = [.agg [.list (l.map eD),.list (f.map mI),.list (p.map nD)]] ∧ okc 8 (.mk l f p) ∧ out = ⟨.d (.v (.int .i64 ((ckR (chk 8 true (.mk l f p))).getD 0 x0).f0)),[]⟩
theorem good_tree_Node_first : Good Try.prog 55 Sp_tree_Node_first:=by
  refine good_body (E:=Y0) (nt:=16) (rs:=#[.tmp 2]) Try.func55 rfl rfl rfl ?_
  rintro ds out ⟨l,f,p,rfl,⟨⟨r,d,m⟩,hc,_⟩,rfl⟩
  refine ⟨by simp,?_⟩
  rw [hc,ckR_s]
  repeat' ((first
 | refine AW.seq ?_
 | refine AW.block ?_
 | refine AW.regl Y0_ok [0,1,2,6] ?_
 | refine then_n ?_
 | refine then_r ?_
 | refine then_x ?_
 | refine block_x ?_
 | refine block_o (by decide) ?_
 | refine block_n ?_
 | refine block_r ?_
 | refine AW.skip ?_
 | refine AW.ret ?_
 | refine AW.exit ?_
 | refine AW.cond rfl ?_ ?_
 | refine awl_none rfl ?_
 | refine awl_nil2 ?_
 | (refine fun (hc : _ = _)=>?_;first|cases hc|((try rw [hc]);(try simp only [stH] at hc);(try (exfalso;omega)));(try (show Awl _ _ _ _ _;simp only [stU])))
 | ((first|refine fun (K : V → List _ → _) hK=>?_|refine fun (_ : V → V)=>?_);simp (maxSteps:=1000000) (disch:=omega) only [go_sem,Int.reduceEq,↓reduceIte,reduceCtorEq,Nat.reduceEqDiff,Nat.reduceLT,Nat.reduceLeDiff,Nat.reduceAdd,Nat.reduceSub,Nat.reduceMul,Int.reduceToNat,Int.reduceLE,Int.reduceLT,Y0];(try (revert hK;intro hK;(repeat' first|(refine And.intro ?_ ?_)|(intro hc;first|cases hc|((try rw [hc]);(try simp only [stH] at hc);(try (exfalso;omega)))));all_goals first|(refine hK _ _ ?_;clear hK K;simp only [stU])|exact hK|omega)))) <;> (fail_if_success (show False;skip)))
  refine AW.loop_wk (fun q : Nat × Bool × List Xt × List Int × List Nd=>⟨[(1,.ptr 1 0)],[(1,.box [.d (.list (q.2.2.1.map eD)),.d (.list (q.2.2.2.1.map mI)),.d (.list (q.2.2.2.2.map nD))])],16⟩)
    (gF (r.getD 0 x0).f0) (fun q=>q.1) (7,true,l,f,p) ⟨r,d,m,hc,rfl⟩ (fun w0 oa aa w hs=>Wk.sr (ρ:=nm []) (Wk.of ?_) hs) ?_
  · simp (maxSteps:=1000000) (disch:=omega) only [go_sem,Int.reduceEq,↓reduceIte,reduceCtorEq,Nat.reduceEqDiff,Nat.reduceLT,Nat.reduceLeDiff,Nat.reduceAdd,Nat.reduceSub,Nat.reduceMul,Int.reduceToNat,Int.reduceLE,Int.reduceLT,Y0]
  rintro ⟨k,top,l,f,p⟩ ⟨r',d',m',hc,hr⟩
  simp only at hc hr
  have hsz : p.length ≤ 8 ∧ (p.length = 0 → 0 < l.length ∧ l.length ≤ 8 ∧ r' = l):=by
    rcases chk_open hc with ⟨rfl,rfl,h1,h2,h3⟩|⟨hp,rfl,h1,h2,h3,_⟩
    · cases h3
      refine ⟨by simp,fun _=>⟨?_,h2,rfl⟩⟩
      unfold lst at h1;split at h1 <;> omega
    · exact ⟨h2,fun h=>absurd (List.eq_nil_of_length_eq_zero h) hp⟩
  by_cases hp : 0 < p.length
  · obtain ⟨r2,d2,m2,rfl,hc2,hr2⟩:=chk_head hc hp
    have e1:=nth_N p 0 hp
    obtain ⟨⟨l2,f2,p2⟩,hq⟩ : ∃ q,p.getD 0 n0 = q:=⟨_,rfl⟩
    rw [hq,nD_mk] at e1
    rw [hq] at hc2
    obtain ⟨j,rfl⟩ : ∃ j,k = j + 1:=⟨k - 1,by cases k with|zero=>cases hc2|succ _=>rfl⟩
    have hpl : 0 < (p.length : Int):=by omega
    repeat' ((first
 | refine AW.seq ?_
 | refine AW.block ?_
 | refine AW.regl Y0_ok [0,1,2,6] ?_
 | refine then_n ?_
 | refine then_r ?_
 | refine then_x ?_
 | refine block_x ?_
 | refine block_o (by decide) ?_
 | refine block_n ?_
 | refine block_r ?_
 | refine AW.skip ?_
 | refine AW.ret ?_
 | refine AW.exit ?_
 | refine AW.cond rfl ?_ ?_
 | refine awl_none rfl ?_
 | refine awl_nil2 ?_
 | (refine fun (hc : _ = _)=>?_;first|cases hc|((try rw [hc]);(try simp only [stH] at hc);(try (exfalso;omega)));(try (show Awl _ _ _ _ _;simp only [stU])))
 | ((first|refine fun (K : V → List _ → _) hK=>?_|refine fun (_ : V → V)=>?_);simp (maxSteps:=1000000) (disch:=omega) only [go_sem,Int.reduceEq,↓reduceIte,reduceCtorEq,Nat.reduceEqDiff,Nat.reduceLT,Nat.reduceLeDiff,Nat.reduceAdd,Nat.reduceSub,Nat.reduceMul,Int.reduceToNat,Int.reduceLE,Int.reduceLT,Y0,e1,all_N];(try (revert hK;intro hK;(repeat' first|(refine And.intro ?_ ?_)|(intro hc;first|cases hc|((try rw [hc]);(try simp only [stH] at hc);(try (exfalso;omega)))));all_goals first|(refine hK _ _ ?_;clear hK K;simp only [stU])|exact hK|omega)))) <;> (fail_if_success (show False;skip)))
    refine ⟨(j,false,l2,f2,p2),⟨r2,d2,m2,hc2,by rw [hr,hr2]⟩,by dsimp only;omega,nm [],Wk.of ?_⟩
    simp (maxSteps:=1000000) (disch:=omega) only [go_sem,Int.reduceEq,↓reduceIte,reduceCtorEq,Nat.reduceEqDiff,Nat.reduceLT,Nat.reduceLeDiff,Nat.reduceAdd,Nat.reduceSub,Nat.reduceMul,Int.reduceToNat,Int.reduceLE,Int.reduceLT,Y0]
    all_goals rfl
  · obtain ⟨h1,h2,rfl⟩:=hsz.2 (by omega)
    have hpl : ¬ 0 < (p.length : Int):=by omega
    have e1:=nth_E r' 0 h1
    repeat' ((first
 | refine AW.seq ?_
 | refine AW.block ?_
 | refine AW.regl Y0_ok [0,1,2,6] ?_
 | refine then_n ?_
 | refine then_r ?_
 | refine then_x ?_
 | refine block_x ?_
 | refine block_o (by decide) ?_
 | refine block_n ?_
 | refine block_r ?_
 | refine AW.skip ?_
 | refine AW.ret ?_
 | refine AW.exit ?_
 | refine AW.cond rfl ?_ ?_
 | refine awl_none rfl ?_
 | refine awl_nil2 ?_
 | (refine fun (hc : _ = _)=>?_;first|cases hc|((try rw [hc]);(try simp only [stH] at hc);(try (exfalso;omega)));(try (show Awl _ _ _ _ _;simp only [stU])))
 | ((first|refine fun (K : V → List _ → _) hK=>?_|refine fun (_ : V → V)=>?_);simp (maxSteps:=1000000) (disch:=omega) only [go_sem,Int.reduceEq,↓reduceIte,reduceCtorEq,Nat.reduceEqDiff,Nat.reduceLT,Nat.reduceLeDiff,Nat.reduceAdd,Nat.reduceSub,Nat.reduceMul,Int.reduceToNat,Int.reduceLE,Int.reduceLT,Y0,e1,eD,mI_eq,all_E];(try (revert hK;intro hK;(repeat' first|(refine And.intro ?_ ?_)|(intro hc;first|cases hc|((try rw [hc]);(try simp only [stH] at hc);(try (exfalso;omega)))));all_goals first|(refine hK _ _ ?_;clear hK K;simp only [stU])|exact hK|omega)))) <;> (fail_if_success (show False;skip)))
    all_goals (refine Ends.of (nm []) (by first|exact .inl rfl|exact .inr rfl) ?_;simp (maxSteps:=1000000) (disch:=omega) only [go_sem,Int.reduceEq,↓reduceIte,reduceCtorEq,Nat.reduceEqDiff,Nat.reduceLT,Nat.reduceLeDiff,Nat.reduceAdd,Nat.reduceSub,Nat.reduceMul,Int.reduceToNat,Int.reduceLE,Int.reduceLT,Y0,hr])
theorem ent_tree_Node_first : Ent Try.prog 55:=⟨_,Try.func55,rfl,by decide⟩
end Go.Proofs.Ytleahjfgedfgmaa.Am
