import Derived.Test.YtleahjfgedfgmaaZGA
set_option linter.unusedVariables false
set_option linter.unusedSimpArgs false
set_option maxRecDepth 10000
set_option maxHeartbeats 0
namespace Go.Proofs.Ytleahjfgedfgmaa.Am
open Go Go.RowKit Go.Proofs
def Sp_overdubref14_ValidExtents (ds : List D) (out : Out) : Prop:=∃ l : List Xt,ds = [.list (l.map eD)] ∧ l.length < 9223372036854775807 ∧ (∀ e ∈ l,numE e) ∧ out = ⟨.d (.v (.bool (vRow 0 l))),[]⟩
theorem good_overdubref14_ValidExtents : Good Try.prog 17 Sp_overdubref14_ValidExtents:=by
  refine good_body (E:=E0) (nt:=68) (rs:=#[.tmp 2]) Try.func17 rfl rfl rfl ?_
  rintro ds out ⟨l,rfl,hl,hn,rfl⟩
  refine ⟨by simp,?_⟩
  repeat' first
 | refine AW.seq ?_
 | refine AW.block ?_
 | refine AW.regl E0_ok [0,2,3,4,5,7,8,9,60,66] ?_
 | refine then_n ?_
 | refine then_r ?_
 | refine then_x ?_
 | refine block_x ?_
 | refine block_o (by decide) ?_
 | refine block_n ?_
 | refine block_r ?_
 | refine AW.skip ?_
 | refine AW.ret ?_
 | refine AW.exit ?_
 | refine AW.cond rfl ?_ ?_
 | refine awl_none rfl ?_
 | refine awl_nil2 ?_
 | refine awl_some rfl rfl (Nat.le_of_ble_eq_true rfl) rfl rfl ?_ ?_
 | (refine fun (hc : _ = _)=>?_;first|cases hc|((try rw [hc]);(try simp only [stH] at hc);(try (exfalso;omega)));(try (show Awl _ _ _ _ _;simp only [stU])))
 | ((first|refine fun (K : V → List _ → _) hK=>?_|refine fun (_ : V → V)=>?_);simp (maxSteps:=1000000) (disch:=omega) only [go_sem,Int.reduceEq,↓reduceIte,reduceCtorEq,Nat.reduceEqDiff,Nat.reduceLT,Nat.reduceLeDiff,Nat.reduceAdd,Nat.reduceSub,Nat.reduceMul,Int.reduceToNat,Int.reduceLE,Int.reduceLT,E0];(try (revert hK;intro hK;(repeat' first|(refine And.intro ?_ ?_)|(intro hc;first|cases hc|((try rw [hc]);(try simp only [stH] at hc);(try (exfalso;omega)))));all_goals first|(refine hK _ _ ?_;clear hK K;simp only [stU])|exact hK|omega)))
  refine AW.loop_wk (fun p : Nat × Int=>⟨[(0,.d (.list (l.map eD))),(3,.d (.v (.int .i64 p.2))),(7,.d (.v (.int .i64 l.length))),(8,.d (.v (.int .i64 p.1)))],[],68⟩)
    (fun p=>p.1 ≤ l.length ∧ 0 ≤ p.2 ∧ p.2 ≤ 1000 ∧ vRow 0 l = vRow p.2 (l.drop p.1)) (fun p=>l.length - p.1) (0,0) ⟨by omega,by omega,by omega,by simp⟩ (fun w0 oa a w hs=>Wk.sr (ρ:=nm []) (Wk.of ?_) hs) ?_
  · simp (maxSteps:=1000000) (disch:=omega) only [go_sem,Int.reduceEq,↓reduceIte,reduceCtorEq,Nat.reduceEqDiff,Nat.reduceLT,Nat.reduceLeDiff,Nat.reduceAdd,Nat.reduceSub,Nat.reduceMul,Int.reduceToNat,Int.reduceLE,Int.reduceLT,E0]
  · rintro ⟨k,n⟩ ⟨hk,hn0,hn1,hv⟩
    simp only at hk hn0 hn1 hv
    by_cases hk1 : k < l.length
    · have e1:=hn (l.getD k x0) (by rw [List.getD_eq_getElem?_getD,List.getElem?_eq_getElem hk1];exact List.getElem_mem hk1)
      rw [vRow_drop l k n hk1] at hv
      have e2:=nth_E l k hk1
      generalize l.getD k x0 = e at *
      obtain ⟨f0,f1,f2,f3,f4⟩:=e
      simp only at hv
      clear e1 hn
      repeat' first
 | refine AW.seq ?_
 | refine AW.block ?_
 | refine AW.regl E0_ok [0,2,3,4,5,7,8,9,60,66] ?_
 | refine then_n ?_
 | refine then_r ?_
 | refine then_x ?_
 | refine block_x ?_
 | refine block_o (by decide) ?_
 | refine block_n ?_
 | refine block_r ?_
 | refine AW.skip ?_
 | refine AW.ret ?_
 | refine AW.exit ?_
 | refine AW.cond rfl ?_ ?_
 | refine awl_none rfl ?_
 | refine awl_nil2 ?_
 | refine awl_some rfl rfl (Nat.le_of_ble_eq_true rfl) rfl rfl ?_ ?_
 | (refine fun (hc : _ = _)=>?_;first|cases hc|((try rw [hc]);(try simp only [stH] at hc);(try (exfalso;omega)));(try (show Awl _ _ _ _ _;simp only [stU])))
 | ((first|refine fun (K : V → List _ → _) hK=>?_|refine fun (_ : V → V)=>?_);simp (maxSteps:=1000000) (disch:=omega) only [go_sem,Int.reduceEq,↓reduceIte,reduceCtorEq,Nat.reduceEqDiff,Nat.reduceLT,Nat.reduceLeDiff,Nat.reduceAdd,Nat.reduceSub,Nat.reduceMul,Int.reduceToNat,Int.reduceLE,Int.reduceLT,E0,e2,all_E,eD,mI_eq];(try (revert hK;intro hK;(repeat' first|(refine And.intro ?_ ?_)|(intro hc;first|cases hc|((try rw [hc]);(try simp only [stH] at hc);(try (exfalso;omega)))));all_goals first|(refine hK _ _ ?_;clear hK K;simp only [stU])|exact hK|omega)))
      all_goals first
        | ((refine Ends.of (nm []) (by first|exact .inl rfl|exact .inr rfl) ?_;simp (maxSteps:=1000000) (disch:=omega) only [go_sem,Int.reduceEq,↓reduceIte,reduceCtorEq,Nat.reduceEqDiff,Nat.reduceLT,Nat.reduceLeDiff,Nat.reduceAdd,Nat.reduceSub,Nat.reduceMul,Int.reduceToNat,Int.reduceLE,Int.reduceLT,E0,hv])
           refine vb_eq ?_
           simp only [oneE,Bool.and_eq_true,decide_eq_true_eq,Bool.false_eq_true,false_iff]
           omega)
        | (refine ⟨(k + 1,n + f4),by omega,by omega,by omega,?_,by omega,nm [],Wk.of ?_⟩
           · have o1 : oneE ⟨f0,f1,f2,f3,f4⟩ = true:=by simp only [oneE,decide_eq_true_eq];omega
             rw [hv,o1,decide_eq_true (show f0 = n by omega),decide_eq_true (show f4 ≤ 1000 - n by omega),Bool.true_and,Bool.true_and,Bool.true_and]
           · simp (maxSteps:=1000000) (disch:=omega) only [go_sem,Int.reduceEq,↓reduceIte,reduceCtorEq,Nat.reduceEqDiff,Nat.reduceLT,Nat.reduceLeDiff,Nat.reduceAdd,Nat.reduceSub,Nat.reduceMul,Int.reduceToNat,Int.reduceLE,Int.reduceLT,E0]
             try rfl)
    · obtain rfl : k = l.length:=by omega
      simp only [List.drop_length,vRow] at hv
      repeat' first
 | refine AW.seq ?_
 | refine AW.block ?_
 | refine AW.regl E0_ok [0,2,3,4,5,7,8,9,60,66] ?_
 | refine then_n ?_
 | refine then_r ?_
 | refine then_x ?_
 | refine block_x ?_
 | refine block_o (by decide) ?_
 | refine block_n ?_
 | refine block_r ?_
 | refine AW.skip ?_
 | refine AW.ret ?_
 | refine AW.exit ?_
 | refine AW.cond rfl ?_ ?_
 | refine awl_none rfl ?_
 | refine awl_nil2 ?_
 | refine awl_some rfl rfl (Nat.le_of_ble_eq_true rfl) rfl rfl ?_ ?_
 | (refine fun (hc : _ = _)=>?_;first|cases hc|((try rw [hc]);(try simp only [stH] at hc);(try (exfalso;omega)));(try (show Awl _ _ _ _ _;simp only [stU])))
 | ((first|refine fun (K : V → List _ → _) hK=>?_|refine fun (_ : V → V)=>?_);simp (maxSteps:=1000000) (disch:=omega) only [go_sem,Int.reduceEq,↓reduceIte,reduceCtorEq,Nat.reduceEqDiff,Nat.reduceLT,Nat.reduceLeDiff,Nat.reduceAdd,Nat.reduceSub,Nat.reduceMul,Int.reduceToNat,Int.reduceLE,Int.reduceLT,E0];(try (revert hK;intro hK;(repeat' first|(refine And.intro ?_ ?_)|(intro hc;first|cases hc|((try rw [hc]);(try simp only [stH] at hc);(try (exfalso;omega)))));all_goals first|(refine hK _ _ ?_;clear hK K;simp only [stU])|exact hK|omega)))
      (refine Ends.of (nm []) (by first|exact .inl rfl|exact .inr rfl) ?_;simp (maxSteps:=1000000) (disch:=omega) only [go_sem,Int.reduceEq,↓reduceIte,reduceCtorEq,Nat.reduceEqDiff,Nat.reduceLT,Nat.reduceLeDiff,Nat.reduceAdd,Nat.reduceSub,Nat.reduceMul,Int.reduceToNat,Int.reduceLE,Int.reduceLT,E0,hv])
theorem ent_overdubref14_ValidExtents : Ent Try.prog 17:=⟨_,Try.func17,rfl,by decide⟩
end Go.Proofs.Ytleahjfgedfgmaa.Am
