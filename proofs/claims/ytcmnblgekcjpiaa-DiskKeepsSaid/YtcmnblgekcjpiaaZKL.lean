import Derived.Test.YtcmnblgekcjpiaaZHA
import Derived.Test.YtcmnblgekcjpiaaZZA
set_option linter.unusedVariables false
set_option linter.unusedSimpArgs false
set_option maxRecDepth 10000
set_option maxHeartbeats 0
namespace Go.Proofs.Ytcmnblgekcjpiaa.Am
open Go Go.RowKit Go.Proofs
noncomputable def EC : Env:=⟨Try.prog,fun f ds out=>False,Es,fun _=>false,fun f vs lent out=>False,fun f=>none,fun f=>false,true,fun f=>none⟩
theorem EC_sp : ∀ f ds out,EC.Sp f ds out → Ent EC.P f ∧ Good EC.P f (fun a b=>a = ds ∧ b = out):=fun _ _ _ h=>h.elim
theorem EC_sm : ∀ f vs lent out,EC.Sm f vs lent out → Ent EC.P f ∧ GoodM EC.P f (fun a l b=>a = vs ∧ l = lent ∧ b = out):=fun _ _ _ _ h=>h.elim
theorem EC_at : ∀ f k,EC.At f = some k → AtomOk EC.P f k:=fun _ _ h=>nomatch h
theorem EC_ok : EC.Ok:=⟨EC_sp,Es_ok,EC_sm,EC_at⟩
def lendL (l : List Int) (j : Nat) : List D:=l.map mB ++ (List.replicate j (mB 85) ++ List.replicate (3 - j) (mB 0))
theorem lendL_len (l : List Int) {j : Nat} (h : j ≤ 3) : (lendL l j).length = l.length + 3:=by simp [lendL];omega
theorem lendL_3 (l : List Int) : lendL l 3 = (l ++ [85,85,85]).map mB:=by simp [lendL,List.replicate]
theorem lendL_0 (l : List Int) : (l.map mB).take l.length ++ (List.replicate (l.length + 3) (D.v (.int .u8 0))).drop ((l.map mB).take l.length).length = lendL l 0:=by
  rw [List.take_of_length_le (by simp),List.length_map,List.drop_replicate,show l.length + 3 - l.length = 3 by omega]
  simp [lendL,mB]
theorem lendL_set (l : List Int) {j : Nat} (h : j < 3) : (lendL l j).set (l.length + j) (D.v (.int .u8 85)) = lendL l (j + 1):=by
  unfold lendL
  rw [List.set_append_right _ _ (by simp),List.length_map,show l.length + j - l.length = j by omega]
  rcases (show j = 0 ∨ j = 1 ∨ j = 2 by omega) with rfl|rfl|rfl <;> rfl
theorem nth_lendL (l : List Int) {j i : Nat} : (nth (lendL l j) i).cells = [nth (lendL l j) i]:=by
  unfold nth lendL
  rw [List.getD_eq_getElem?_getD]
  cases h : (l.map mB ++ (List.replicate j (mB 85) ++ List.replicate (3 - j) (mB 0)))[i]? with
  | none=>rfl
  | some d =>
    have h1:=List.mem_of_getElem? h
    simp only [List.mem_append,List.mem_map,List.mem_replicate] at h1
    rcases h1 with ⟨x,_,rfl⟩|⟨_,rfl⟩|⟨_,rfl⟩ <;> rfl
def Sp_overdubkeep_Lend (ds : List D) (out : Out) : Prop:=∃ l : List Int,ds = [.list (l.map mB)] ∧ l.length < 1000000 ∧ out = ⟨.slc 0 1 0 l.length (l.length + 3),[(0,.row 5 1 ((l ++ [85,85,85]).map mB))]⟩
theorem good_overdubkeep_Lend : Good Try.prog 42 Sp_overdubkeep_Lend:=by
  refine good_body (E:=EC) (nt:=32) (rs:=#[.tmp 2]) Try.func42 rfl rfl rfl ?_
  rintro ds out ⟨l,rfl,hl,rfl⟩
  refine ⟨by simp,?_⟩
  have hn : ((l.length : Int) + 3).toNat = l.length + 3:=by omega
  repeat' first
 | refine AW.seq ?_
 | refine AW.block ?_
 | refine AW.regl EC_ok [0,2,3,4,5,25] ?_
 | refine then_n ?_
 | refine then_r ?_
 | refine then_x ?_
 | refine block_x ?_
 | refine block_o (by decide) ?_
 | refine block_n ?_
 | refine block_r ?_
 | refine AW.skip ?_
 | refine AW.ret ?_
 | refine AW.exit ?_
 | refine AW.cond rfl ?_ ?_
 | refine awl_none rfl ?_
 | refine awl_nil2 ?_
 | (refine fun (hc : _ = _)=>?_;first|cases hc|((try rw [hc]);(try simp only [stH] at hc);(try (exfalso;omega)));(try (show Awl _ _ _ _ _;simp only [stU])))
 | ((first|refine fun (K : V → List _ → _) hK=>?_|refine fun (_ : V → V)=>?_);simp (maxSteps:=1000000) (disch:=omega) only [go_sem,Int.reduceEq,↓reduceIte,reduceCtorEq,Nat.reduceEqDiff,Nat.reduceLT,Nat.reduceLeDiff,Nat.reduceAdd,Nat.reduceSub,Nat.reduceMul,Int.reduceToNat,Int.reduceLE,Int.reduceLT,EC,hn,List.length_replicate,List.take_length,Nat.min_self,lendL_0];(try (revert hK;intro hK;(repeat' first|(refine And.intro ?_ ?_)|(intro hc;first|cases hc|((try rw [hc]);(try simp only [stH] at hc);(try (exfalso;omega)))));all_goals first|(refine hK _ _ ?_;clear hK K;simp only [stU])|exact hK|omega)))
  refine AW.loop_wk (fun j : Nat=>⟨[(3,.slc 11 1 0 l.length (l.length + 3)),(4,.slc 11 1 0 (l.length + 3) (l.length + 3)),(5,.d (.v (.int .i64 (l.length + j : Nat))))],[(11,.row 5 1 (lendL l j))],32⟩)
    (fun j=>j ≤ 3) (fun j=>3 - j) 0 (by omega) (fun w0 oa a w hs=>Wk.sr (ρ:=nm []) (Wk.of ?_) hs) ?_
  · simp (maxSteps:=1000000) (disch:=omega) only [go_sem,Int.reduceEq,↓reduceIte,reduceCtorEq,Nat.reduceEqDiff,Nat.reduceLT,Nat.reduceLeDiff,Nat.reduceAdd,Nat.reduceSub,Nat.reduceMul,Int.reduceToNat,Int.reduceLE,Int.reduceLT,EC]
  intro j hj
  by_cases hj3 : j < 3
  · have e1:=lendL_len l hj
    have e2:=lendL_set l hj3
    repeat' first
 | refine AW.seq ?_
 | refine AW.block ?_
 | refine AW.regl EC_ok [0,2,3,4,5,25] ?_
 | refine then_n ?_
 | refine then_r ?_
 | refine then_x ?_
 | refine block_x ?_
 | refine block_o (by decide) ?_
 | refine block_n ?_
 | refine block_r ?_
 | refine AW.skip ?_
 | refine AW.ret ?_
 | refine AW.exit ?_
 | refine AW.cond rfl ?_ ?_
 | refine awl_none rfl ?_
 | refine awl_nil2 ?_
 | (refine fun (hc : _ = _)=>?_;first|cases hc|((try rw [hc]);(try simp only [stH] at hc);(try (exfalso;omega)));(try (show Awl _ _ _ _ _;simp only [stU])))
 | ((first|refine fun (K : V → List _ → _) hK=>?_|refine fun (_ : V → V)=>?_);simp (maxSteps:=1000000) (disch:=omega) only [go_sem,Int.reduceEq,↓reduceIte,reduceCtorEq,Nat.reduceEqDiff,Nat.reduceLT,Nat.reduceLeDiff,Nat.reduceAdd,Nat.reduceSub,Nat.reduceMul,Int.reduceToNat,Int.reduceLE,Int.reduceLT,EC,hn,e1,e2,nth_lendL];(try (revert hK;intro hK;(repeat' first|(refine And.intro ?_ ?_)|(intro hc;first|cases hc|((try rw [hc]);(try simp only [stH] at hc);(try (exfalso;omega)))));all_goals first|(refine hK _ _ ?_;clear hK K;simp only [stU])|exact hK|omega)))
    refine ⟨j + 1,by omega,by omega,nm [],Wk.of ?_⟩
    simp (maxSteps:=1000000) (disch:=omega) only [go_sem,Int.reduceEq,↓reduceIte,reduceCtorEq,Nat.reduceEqDiff,Nat.reduceLT,Nat.reduceLeDiff,Nat.reduceAdd,Nat.reduceSub,Nat.reduceMul,Int.reduceToNat,Int.reduceLE,Int.reduceLT,EC]
    rfl
  · obtain rfl : j = 3:=by omega
    repeat' first
 | refine AW.seq ?_
 | refine AW.block ?_
 | refine AW.regl EC_ok [0,2,3,4,5,25] ?_
 | refine then_n ?_
 | refine then_r ?_
 | refine then_x ?_
 | refine block_x ?_
 | refine block_o (by decide) ?_
 | refine block_n ?_
 | refine block_r ?_
 | refine AW.skip ?_
 | refine AW.ret ?_
 | refine AW.exit ?_
 | refine AW.cond rfl ?_ ?_
 | refine awl_none rfl ?_
 | refine awl_nil2 ?_
 | (refine fun (hc : _ = _)=>?_;first|cases hc|((try rw [hc]);(try simp only [stH] at hc);(try (exfalso;omega)));(try (show Awl _ _ _ _ _;simp only [stU])))
 | ((first|refine fun (K : V → List _ → _) hK=>?_|refine fun (_ : V → V)=>?_);simp (maxSteps:=1000000) (disch:=omega) only [go_sem,Int.reduceEq,↓reduceIte,reduceCtorEq,Nat.reduceEqDiff,Nat.reduceLT,Nat.reduceLeDiff,Nat.reduceAdd,Nat.reduceSub,Nat.reduceMul,Int.reduceToNat,Int.reduceLE,Int.reduceLT,EC,hn];(try (revert hK;intro hK;(repeat' first|(refine And.intro ?_ ?_)|(intro hc;first|cases hc|((try rw [hc]);(try simp only [stH] at hc);(try (exfalso;omega)))));all_goals first|(refine hK _ _ ?_;clear hK K;simp only [stU])|exact hK|omega)))
    all_goals (refine Ends.of (nm [(0,11)]) (by first|exact .inl rfl|exact .inr rfl) ?_;simp (maxSteps:=1000000) (disch:=omega) only [go_sem,Int.reduceEq,↓reduceIte,reduceCtorEq,Nat.reduceEqDiff,Nat.reduceLT,Nat.reduceLeDiff,Nat.reduceAdd,Nat.reduceSub,Nat.reduceMul,Int.reduceToNat,Int.reduceLE,Int.reduceLT,EC,lendL_3])
theorem ent_overdubkeep_Lend : Ent Try.prog 42:=⟨_,Try.func42,rfl,by decide⟩
noncomputable def EI : Env:=⟨Try.prog,fun f ds out=>False,Es,fun _=>false,fun f vs lent out=>False,fun f=>none,fun f=>false,false,fun f=>none⟩
theorem EI_sp : ∀ f ds out,EI.Sp f ds out → Ent EI.P f ∧ Good EI.P f (fun a b=>a = ds ∧ b = out):=fun _ _ _ h=>h.elim
theorem EI_sm : ∀ f vs lent out,EI.Sm f vs lent out → Ent EI.P f ∧ GoodM EI.P f (fun a l b=>a = vs ∧ l = lent ∧ b = out):=fun _ _ _ _ h=>h.elim
theorem EI_at : ∀ f k,EI.At f = some k → AtomOk EI.P f k:=fun _ _ h=>nomatch h
theorem EI_ok : EI.Ok:=⟨EI_sp,Es_ok,EI_sm,EI_at⟩
def Sm_overdubkeep_Intact (vs : List V) (lent : List (Nat × Ob)) (out : Out) : Prop:=∃ l : List Int,vs.drop 1 = [.d (.list (l.map mB))] ∧ vs.take 1 = [.slc 1000000 1 0 l.length (l.length + 3)] ∧ lent = [(1000000,.row 5 1 ((l ++ [85,85,85]).map mB))] ∧ l.length < 1000000 ∧ out = ⟨.d (.v (.bool true)),[(1000000,.row 5 1 ((l ++ [85,85,85]).map mB))]⟩
def bb_overdubkeep_Intact_7 : List Nat:=[0,0,2,7,15,31,31,127,255,31,31,1567,3615,8191,16383,32767,65535,65535,196607,524287,1048575,2097151,2097151,8388607,16777215,33554431,67108863,134217727]
theorem goodM_overdubkeep_Intact : GoodM Try.prog 44 Sm_overdubkeep_Intact:=by
  refine goodM_body (E:=EI) (nt:=59) (rs:=#[.tmp 4]) Try.func44 rfl rfl rfl ?_
  rintro vs lent out ⟨l,hv2,hv1,rfl,hl,rfl⟩
  obtain rfl : vs = [.slc 1000000 1 0 l.length (l.length + 3),.d (.list (l.map mB))]:=by rw [← List.take_append_drop 1 vs,hv1,hv2];rfl
  clear hv1 hv2
  refine ⟨by simp,?_⟩
  have hn : ((l.length : Int) + 3).toNat = l.length + 3:=by omega
  obtain ⟨m,hm⟩ : ∃ m : List Int,l ++ [85,85,85] = m:=⟨_,rfl⟩
  have hml : m.length = l.length + 3:=by rw [← hm];simp
  rw [hm]
  repeat' first
 | refine AW.seq ?_
 | refine AW.block ?_
 | refine AW.regl EI_ok [0,1,4,5,6,19,26,27,28,57] ?_
 | (refine AW.regq (id:=7) EI_ok follows bb_overdubkeep_Intact_7 (by kernel_rfl) [0,1,4,5,6,19,26,27,28,57] ?_)
 | refine then_n ?_
 | refine then_r ?_
 | refine then_x ?_
 | refine block_x ?_
 | refine block_o (by decide) ?_
 | refine block_n ?_
 | refine block_r ?_
 | refine AW.skip ?_
 | refine AW.ret ?_
 | refine AW.exit ?_
 | refine AW.cond rfl ?_ ?_
 | refine awl_none rfl ?_
 | refine awl_nil2 ?_
 | refine awl_some rfl rfl (Nat.le_of_ble_eq_true rfl) rfl rfl ?_ ?_
 | refine awc_none rfl ?_
 | refine awc_some rfl rfl (Nat.le_of_ble_eq_true rfl) rfl rfl ?_ ?_
 | (refine awc_skip rfl rfl (Nat.le_of_ble_eq_true rfl) rfl rfl ?_;simp only [stU])
 | refine awc_nilq (by kernel_rfl) (by kernel_rfl) ?_
 | (refine fun (hc : _ = _)=>?_;first|cases hc|((try rw [hc]);(try simp only [stH] at hc);(try (exfalso;omega)));(try ((first|show Awl _ _ _ _ _|show Awc _ _ _ _ _ _);simp only [stU])))
 | ((first|refine fun (K : V → List _ → _) hK=>?_|refine fun (_ : V → V)=>?_);simp (maxSteps:=1000000) (disch:=omega) only [go_sem,Int.reduceEq,↓reduceIte,reduceCtorEq,Nat.reduceEqDiff,Nat.reduceLT,Nat.reduceLeDiff,Nat.reduceAdd,Nat.reduceSub,Nat.reduceMul,Int.reduceToNat,Int.reduceLE,Int.reduceLT,EI,hn,hml,Sg3,St.updIf,ifc_nil,gt_ifc,go_ifc,ite_self,Option.none_or,Option.some_or];(try (revert hK;intro hK;(repeat' first|(refine And.intro ?_ ?_)|(intro hc;first|cases hc|((try rw [hc]);(try simp only [stH] at hc);(try (exfalso;omega)))));all_goals first|(refine hK _ _ ?_;clear hK K;simp only [stU])|exact hK|omega)))
  refine AW.loop_wk (fun k : Nat=>⟨[(1,.d (.list (l.map mB))),(5,.slc 1000000 1 0 (l.length + 3) (l.length + 3)),(26,.d (.v (.int .i64 (l.length + 3 : Nat)))),(27,.d (.v (.int .i64 k)))],[(1000000,.row 5 1 (m.map mB))],59⟩)
    (fun k=>k ≤ l.length + 3) (fun k=>l.length + 3 - k) 0 (by omega) (fun w0 oa a w hs=>Wk.sr (ρ:=nm []) (Wk.of ?_) hs) ?_
  · simp (maxSteps:=1000000) (disch:=omega) only [go_sem,Int.reduceEq,↓reduceIte,reduceCtorEq,Nat.reduceEqDiff,Nat.reduceLT,Nat.reduceLeDiff,Nat.reduceAdd,Nat.reduceSub,Nat.reduceMul,Int.reduceToNat,Int.reduceLE,Int.reduceLT,EI,hml]
  intro k hk
  by_cases hk3 : k < l.length + 3
  · have e1:=nth_B m k (by omega)
    have hdn : ∀ x : Int,decide (¬ x = x) = false:=fun x=>decide_eq_false (by simp)
    by_cases hkl : k < l.length
    · have e2:=nth_B l k hkl
      have e3 : m.getD k 0 = l.getD k 0:=by rw [← hm];simp [List.getD_eq_getElem?_getD,List.getElem?_append_left hkl]
      have hd1 : decide ((k : Int) < (l.length : Int)) = true:=decide_eq_true (by omega)
      have hd2 : decide ((l.length : Int) ≤ (k : Int)) = false:=decide_eq_false (by omega)
      repeat' first
 | refine AW.seq ?_
 | refine AW.block ?_
 | refine AW.regl EI_ok [0,1,4,5,6,19,26,27,28,57] ?_
 | (refine AW.regq (id:=7) EI_ok follows bb_overdubkeep_Intact_7 (by kernel_rfl) [0,1,4,5,6,19,26,27,28,57] ?_)
 | refine then_n ?_
 | refine then_r ?_
 | refine then_x ?_
 | refine block_x ?_
 | refine block_o (by decide) ?_
 | refine block_n ?_
 | refine block_r ?_
 | refine AW.skip ?_
 | refine AW.ret ?_
 | refine AW.exit ?_
 | refine AW.cond rfl ?_ ?_
 | refine awl_none rfl ?_
 | refine awl_nil2 ?_
 | refine awl_some rfl rfl (Nat.le_of_ble_eq_true rfl) rfl rfl ?_ ?_
 | refine awc_none rfl ?_
 | refine awc_some rfl rfl (Nat.le_of_ble_eq_true rfl) rfl rfl ?_ ?_
 | (refine awc_skip rfl rfl (Nat.le_of_ble_eq_true rfl) rfl rfl ?_;simp only [stU])
 | refine awc_nilq (by kernel_rfl) (by kernel_rfl) ?_
 | (refine fun (hc : _ = _)=>?_;first|cases hc|((try rw [hc]);(try simp only [stH] at hc);(try (exfalso;omega)));(try ((first|show Awl _ _ _ _ _|show Awc _ _ _ _ _ _);simp only [stU])))
 | ((first|refine fun (K : V → List _ → _) hK=>?_|refine fun (_ : V → V)=>?_);simp (maxSteps:=1000000) (disch:=omega) only [go_sem,Int.reduceEq,↓reduceIte,reduceCtorEq,Nat.reduceEqDiff,Nat.reduceLT,Nat.reduceLeDiff,Nat.reduceAdd,Nat.reduceSub,Nat.reduceMul,Int.reduceToNat,Int.reduceLE,Int.reduceLT,EI,hn,hml,e1,e2,e3,hd1,hd2,hdn,Sg3,St.updIf,ifc_nil,gt_ifc,go_ifc,ite_self,Option.none_or,Option.some_or];(try (revert hK;intro hK;(repeat' first|(refine And.intro ?_ ?_)|(intro hc;first|cases hc|((try rw [hc]);(try simp only [stH] at hc);(try (exfalso;omega)))));all_goals first|(refine hK _ _ ?_;clear hK K;simp only [stU])|exact hK|omega)))
      refine ⟨k + 1,by omega,by omega,nm [],Wk.of ?_⟩
      simp (maxSteps:=1000000) (disch:=omega) only [go_sem,Int.reduceEq,↓reduceIte,reduceCtorEq,Nat.reduceEqDiff,Nat.reduceLT,Nat.reduceLeDiff,Nat.reduceAdd,Nat.reduceSub,Nat.reduceMul,Int.reduceToNat,Int.reduceLE,Int.reduceLT,EI]
      rfl
    · have e3 : m.getD k 0 = 85:=by
        rw [← hm]
        obtain ⟨j,rfl⟩ : ∃ j,k = l.length + j:=⟨k - l.length,by omega⟩
        rw [List.getD_eq_getElem?_getD,List.getElem?_append_right (by omega),show l.length + j - l.length = j by omega]
        rcases (show j = 0 ∨ j = 1 ∨ j = 2 by omega) with rfl|rfl|rfl <;> rfl
      have hd1 : decide ((k : Int) < (l.length : Int)) = false:=decide_eq_false (by omega)
      have hd2 : decide ((l.length : Int) ≤ (k : Int)) = true:=decide_eq_true (by omega)
      have hd5 : decide (¬ (85 : Int) = 85) = false:=by decide
      repeat' first
 | refine AW.seq ?_
 | refine AW.block ?_
 | refine AW.regl EI_ok [0,1,4,5,6,19,26,27,28,57] ?_
 | (refine AW.regq (id:=7) EI_ok follows bb_overdubkeep_Intact_7 (by kernel_rfl) [0,1,4,5,6,19,26,27,28,57] ?_)
 | refine then_n ?_
 | refine then_r ?_
 | refine then_x ?_
 | refine block_x ?_
 | refine block_o (by decide) ?_
 | refine block_n ?_
 | refine block_r ?_
 | refine AW.skip ?_
 | refine AW.ret ?_
 | refine AW.exit ?_
 | refine AW.cond rfl ?_ ?_
 | refine awl_none rfl ?_
 | refine awl_nil2 ?_
 | refine awl_some rfl rfl (Nat.le_of_ble_eq_true rfl) rfl rfl ?_ ?_
 | refine awc_none rfl ?_
 | refine awc_some rfl rfl (Nat.le_of_ble_eq_true rfl) rfl rfl ?_ ?_
 | (refine awc_skip rfl rfl (Nat.le_of_ble_eq_true rfl) rfl rfl ?_;simp only [stU])
 | refine awc_nilq (by kernel_rfl) (by kernel_rfl) ?_
 | (refine fun (hc : _ = _)=>?_;first|cases hc|((try rw [hc]);(try simp only [stH] at hc);(try (exfalso;omega)));(try ((first|show Awl _ _ _ _ _|show Awc _ _ _ _ _ _);simp only [stU])))
 | ((first|refine fun (K : V → List _ → _) hK=>?_|refine fun (_ : V → V)=>?_);simp (maxSteps:=1000000) (disch:=omega) only [go_sem,Int.reduceEq,↓reduceIte,reduceCtorEq,Nat.reduceEqDiff,Nat.reduceLT,Nat.reduceLeDiff,Nat.reduceAdd,Nat.reduceSub,Nat.reduceMul,Int.reduceToNat,Int.reduceLE,Int.reduceLT,EI,hn,hml,e1,e3,hd1,hd2,hdn,hd5,Sg3,St.updIf,ifc_nil,gt_ifc,go_ifc,ite_self,Option.none_or,Option.some_or];(try (revert hK;intro hK;(repeat' first|(refine And.intro ?_ ?_)|(intro hc;first|cases hc|((try rw [hc]);(try simp only [stH] at hc);(try (exfalso;omega)))));all_goals first|(refine hK _ _ ?_;clear hK K;simp only [stU])|exact hK|omega)))
      refine ⟨k + 1,by omega,by omega,nm [],Wk.of ?_⟩
      simp (maxSteps:=1000000) (disch:=omega) only [go_sem,Int.reduceEq,↓reduceIte,reduceCtorEq,Nat.reduceEqDiff,Nat.reduceLT,Nat.reduceLeDiff,Nat.reduceAdd,Nat.reduceSub,Nat.reduceMul,Int.reduceToNat,Int.reduceLE,Int.reduceLT,EI]
      rfl
  · obtain rfl : k = l.length + 3:=by omega
    repeat' first
 | refine AW.seq ?_
 | refine AW.block ?_
 | refine AW.regl EI_ok [0,1,4,5,6,19,26,27,28,57] ?_
 | (refine AW.regq (id:=7) EI_ok follows bb_overdubkeep_Intact_7 (by kernel_rfl) [0,1,4,5,6,19,26,27,28,57] ?_)
 | refine then_n ?_
 | refine then_r ?_
 | refine then_x ?_
 | refine block_x ?_
 | refine block_o (by decide) ?_
 | refine block_n ?_
 | refine block_r ?_
 | refine AW.skip ?_
 | refine AW.ret ?_
 | refine AW.exit ?_
 | refine AW.cond rfl ?_ ?_
 | refine awl_none rfl ?_
 | refine awl_nil2 ?_
 | refine awl_some rfl rfl (Nat.le_of_ble_eq_true rfl) rfl rfl ?_ ?_
 | refine awc_none rfl ?_
 | refine awc_some rfl rfl (Nat.le_of_ble_eq_true rfl) rfl rfl ?_ ?_
 | (refine awc_skip rfl rfl (Nat.le_of_ble_eq_true rfl) rfl rfl ?_;simp only [stU])
 | refine awc_nilq (by kernel_rfl) (by kernel_rfl) ?_
 | (refine fun (hc : _ = _)=>?_;first|cases hc|((try rw [hc]);(try simp only [stH] at hc);(try (exfalso;omega)));(try ((first|show Awl _ _ _ _ _|show Awc _ _ _ _ _ _);simp only [stU])))
 | ((first|refine fun (K : V → List _ → _) hK=>?_|refine fun (_ : V → V)=>?_);simp (maxSteps:=1000000) (disch:=omega) only [go_sem,Int.reduceEq,↓reduceIte,reduceCtorEq,Nat.reduceEqDiff,Nat.reduceLT,Nat.reduceLeDiff,Nat.reduceAdd,Nat.reduceSub,Nat.reduceMul,Int.reduceToNat,Int.reduceLE,Int.reduceLT,EI,hn,hml,Sg3,St.updIf,ifc_nil,gt_ifc,go_ifc,ite_self,Option.none_or,Option.some_or];(try (revert hK;intro hK;(repeat' first|(refine And.intro ?_ ?_)|(intro hc;first|cases hc|((try rw [hc]);(try simp only [stH] at hc);(try (exfalso;omega)))));all_goals first|(refine hK _ _ ?_;clear hK K;simp only [stU])|exact hK|omega)))
    all_goals (refine Ends.of (nm [(1000000,1000000)]) (by first|exact .inl rfl|exact .inr rfl) ?_;simp (maxSteps:=1000000) (disch:=omega) only [go_sem,Int.reduceEq,↓reduceIte,reduceCtorEq,Nat.reduceEqDiff,Nat.reduceLT,Nat.reduceLeDiff,Nat.reduceAdd,Nat.reduceSub,Nat.reduceMul,Int.reduceToNat,Int.reduceLE,Int.reduceLT,EI])
theorem ent_overdubkeep_Intact : Ent Try.prog 44:=⟨_,Try.func44,rfl,by decide⟩
end Go.Proofs.Ytcmnblgekcjpiaa.Am
