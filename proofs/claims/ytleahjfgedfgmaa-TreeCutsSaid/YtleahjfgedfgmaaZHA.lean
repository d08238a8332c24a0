import Derived.Test.YtleahjfgedfgmaaZFA
section
set_option linter.unusedVariables false
set_option linter.unusedSimpArgs false
set_option maxRecDepth 10000
set_option maxHeartbeats 0
namespace Go.Proofs.Ytleahjfgedfgmaa.Am
open Go Go.RowKit Go.Proofs
theorem take_step {α : Type} {l m : List α} {k : Nat} (d : α) (h : l.take k = m.take k) (hl : k < l.length) (hm : k < m.length) (he : l.getD k d = m.getD k d) : l.take (k + 1) = m.take (k + 1):=by
  rw [List.take_succ_eq_append_getElem hl,List.take_succ_eq_append_getElem hm,h]
  simp only [List.getD_eq_getElem?_getD,List.getElem?_eq_getElem hl,List.getElem?_eq_getElem hm,Option.getD_some] at he
  rw [he]
theorem take_all {α : Type} {l m : List α} (h : l.take l.length = m.take l.length) (he : l.length = m.length) : l = m:=by
  rw [List.take_length] at h
  rw [h,he,List.take_length]
theorem ne_of_getD {α : Type} {l m : List α} {k : Nat} {d : α} (h : ¬ l.getD k d = m.getD k d) : ¬ l = m:=fun e=>h (by rw [e])
theorem ne_of_length {α : Type} {l m : List α} (h : ¬ l.length = m.length) : ¬ l = m:=fun e=>h (by rw [e])
theorem eD_eq (e f : Xt) : (eD e = eD f) = (e = f):=by
  cases e;cases f
  simp [eD,mI]
instance : DecidableEq Xt:=fun a b=>decidable_of_iff (a.f0 = b.f0 ∧ a.f1 = b.f1 ∧ a.f2 = b.f2 ∧ a.f3 = b.f3 ∧ a.f4 = b.f4) (by cases a;cases b;simp)
theorem eD_ne (a b : Xt) : decide (¬ [a.f0,a.f1,a.f2,a.f3,a.f4] = [b.f0,b.f1,b.f2,b.f3,b.f4]) = decide (¬ a = b):=by
  congr 1
  cases a;cases b;simp
def Sp_overdubkeep_Same_api_Extent (ds : List D) (out : Out) : Prop:=∃ l m : List Xt,ds = [.list (l.map eD),.list (m.map eD)] ∧ l.length ≤ 9223372036854775807 ∧ m.length ≤ 9223372036854775807 ∧ out = ⟨.d (.v (.bool (decide (l = m)))),[]⟩
def bb_overdubkeep_Same_api_Extent_6 : List Nat:=[0,0,3,7,0,0,48,112,255]
def cc_overdubkeep_Same_api_Extent_6 : List (List (Option Bool)):=[[some false,none,some false,some false,none,none,none,none,some false],[none,some false,some false,some false,none,none,none,none,some false],[some true,some true,some false,some false,none,none,none,none,some false],[some true,some true,some true,some false,none,none,none,none,some false],[none,none,none,none,some false,none,some false,some false,some false],[none,none,none,none,none,some false,some false,some false,some false],[none,none,none,none,some true,some true,some false,some false,some false],[none,none,none,none,some true,some true,some true,some false,some false],[some true,some true,some true,some true,some true,some true,some true,some true,some false]]
theorem good_overdubkeep_Same_api_Extent : Good Try.prog 26 Sp_overdubkeep_Same_api_Extent:=by
  refine good_body (E:=E0) (nt:=26) (rs:=#[.tmp 4]) Try.func26 rfl rfl rfl ?_
  rintro ds out ⟨l,m,rfl,hl,hm,rfl⟩
  refine ⟨by simp,?_⟩
  by_cases hlm : l.length = m.length
  case neg =>
    have hz : decide (l = m) = false:=decide_eq_false (ne_of_length hlm)
    repeat' first
 | refine AW.seq ?_
 | refine AW.block ?_
 | refine AW.regl E0_ok [0,1,4,5,10,14,25] ?_
 | (refine AW.regc (id:=6) E0_ok follows bb_overdubkeep_Same_api_Extent_6 (by kernel_rfl) [0,1,4,5,10,14,25] ?_)
 | refine then_n ?_
 | refine then_r ?_
 | refine then_x ?_
 | refine block_x ?_
 | refine block_o (by decide) ?_
 | refine block_n ?_
 | refine block_r ?_
 | refine AW.skip ?_
 | refine AW.ret ?_
 | refine AW.exit ?_
 | refine AW.cond rfl ?_ ?_
 | refine awl_none rfl ?_
 | refine awl_nil2 ?_
 | refine awc_none rfl ?_
 | exact each_nil
 | refine each_none rfl ?_ ?_
 | refine awc_leaf2 [some 17,some 18,some 19,some 20,some 21,some 22,some 23,some 24,some 25] cc_overdubkeep_Same_api_Extent_6 rfl (by kernel_rfl) (by kernel_rfl) ?_ ?_
 | (refine fun (hc : _ = _)=>?_;first|cases hc|((try rw [hc]);(try simp only [stH] at hc);(try (exfalso;omega)));(try ((first|show Awl _ _ _ _ _|show Awc _ _ _ _ _ _);simp only [stU])))
 | ((first|refine fun (K : V → List _ → _) hK=>?_|refine fun (_ : V → V)=>?_|refine fun (bb : Nat → Bool) K hK=>?_);simp (maxSteps:=1000000) (disch:=omega) only [go_sem,Int.reduceEq,↓reduceIte,reduceCtorEq,Nat.reduceEqDiff,Nat.reduceLT,Nat.reduceLeDiff,Nat.reduceAdd,Nat.reduceSub,Nat.reduceMul,Int.reduceToNat,Int.reduceLE,Int.reduceLT,E0,Sg3,St.updIf,ifc_nil,gt_ifc,go_ifc,ite_self,Option.none_or,Option.some_or];(try (revert hK;intro hK;(repeat' first|(refine And.intro ?_ ?_)|(intro hc;first|cases hc|((try rw [hc]);(try simp only [stH] at hc);(try (exfalso;omega)))));all_goals first|(refine hK _ _ ?_;clear hK K;simp only [stU])|exact hK|omega)))
    (refine Ends.of (nm []) (by first|exact .inl rfl|exact .inr rfl) ?_;simp (maxSteps:=1000000) (disch:=omega) only [go_sem,Int.reduceEq,↓reduceIte,reduceCtorEq,Nat.reduceEqDiff,Nat.reduceLT,Nat.reduceLeDiff,Nat.reduceAdd,Nat.reduceSub,Nat.reduceMul,Int.reduceToNat,Int.reduceLE,Int.reduceLT,E0,hz])
  repeat' first
 | refine AW.seq ?_
 | refine AW.block ?_
 | refine AW.regl E0_ok [0,1,4,5,10,14,25] ?_
 | (refine AW.regc (id:=6) E0_ok follows bb_overdubkeep_Same_api_Extent_6 (by kernel_rfl) [0,1,4,5,10,14,25] ?_)
 | refine then_n ?_
 | refine then_r ?_
 | refine then_x ?_
 | refine block_x ?_
 | refine block_o (by decide) ?_
 | refine block_n ?_
 | refine block_r ?_
 | refine AW.skip ?_
 | refine AW.ret ?_
 | refine AW.exit ?_
 | refine AW.cond rfl ?_ ?_
 | refine awl_none rfl ?_
 | refine awl_nil2 ?_
 | refine awc_none rfl ?_
 | exact each_nil
 | refine each_none rfl ?_ ?_
 | refine awc_leaf2 [some 17,some 18,some 19,some 20,some 21,some 22,some 23,some 24,some 25] cc_overdubkeep_Same_api_Extent_6 rfl (by kernel_rfl) (by kernel_rfl) ?_ ?_
 | (refine fun (hc : _ = _)=>?_;first|cases hc|((try rw [hc]);(try simp only [stH] at hc);(try (exfalso;omega)));(try ((first|show Awl _ _ _ _ _|show Awc _ _ _ _ _ _);simp only [stU])))
 | ((first|refine fun (K : V → List _ → _) hK=>?_|refine fun (_ : V → V)=>?_|refine fun (bb : Nat → Bool) K hK=>?_);simp (maxSteps:=1000000) (disch:=omega) only [go_sem,Int.reduceEq,↓reduceIte,reduceCtorEq,Nat.reduceEqDiff,Nat.reduceLT,Nat.reduceLeDiff,Nat.reduceAdd,Nat.reduceSub,Nat.reduceMul,Int.reduceToNat,Int.reduceLE,Int.reduceLT,E0,Sg3,St.updIf,ifc_nil,gt_ifc,go_ifc,ite_self,Option.none_or,Option.some_or];(try (revert hK;intro hK;(repeat' first|(refine And.intro ?_ ?_)|(intro hc;first|cases hc|((try rw [hc]);(try simp only [stH] at hc);(try (exfalso;omega)))));all_goals first|(refine hK _ _ ?_;clear hK K;simp only [stU])|exact hK|omega)))
  refine AW.loop_wk (fun k : Nat=>⟨[(0,.d (.list (l.map eD))),(1,.d (.list (m.map eD))),(5,.d (.v (.int .i64 k)))],[],26⟩)
    (fun k=>k ≤ l.length ∧ l.take k = m.take k) (fun k=>l.length - k) 0 ⟨by omega,rfl⟩ (fun w0 oa a w hs=>Wk.sr (ρ:=nm []) (Wk.of ?_) hs) ?_
  · simp (maxSteps:=1000000) (disch:=omega) only [go_sem,Int.reduceEq,↓reduceIte,reduceCtorEq,Nat.reduceEqDiff,Nat.reduceLT,Nat.reduceLeDiff,Nat.reduceAdd,Nat.reduceSub,Nat.reduceMul,Int.reduceToNat,Int.reduceLE,Int.reduceLT,E0]
  · rintro k ⟨hk,ht⟩
    by_cases hk1 : k < l.length
    · have e1:=nth_E l k hk1
      have e2:=nth_E m k (by omega)
      by_cases he : l.getD k x0 = m.getD k x0
      · have ht1:=take_step x0 ht hk1 (by omega) he
        generalize l.getD k x0 = a at *
        generalize m.getD k x0 = b at *
        subst he
        repeat' first
 | refine AW.seq ?_
 | refine AW.block ?_
 | refine AW.regl E0_ok [0,1,4,5,10,14,25] ?_
 | (refine AW.regc (id:=6) E0_ok follows bb_overdubkeep_Same_api_Extent_6 (by kernel_rfl) [0,1,4,5,10,14,25] ?_)
 | refine then_n ?_
 | refine then_r ?_
 | refine then_x ?_
 | refine block_x ?_
 | refine block_o (by decide) ?_
 | refine block_n ?_
 | refine block_r ?_
 | refine AW.skip ?_
 | refine AW.ret ?_
 | refine AW.exit ?_
 | refine AW.cond rfl ?_ ?_
 | refine awl_none rfl ?_
 | refine awl_nil2 ?_
 | refine awc_none rfl ?_
 | exact each_nil
 | refine each_none rfl ?_ ?_
 | refine awc_leaf2 [some 17,some 18,some 19,some 20,some 21,some 22,some 23,some 24,some 25] cc_overdubkeep_Same_api_Extent_6 rfl (by kernel_rfl) (by kernel_rfl) ?_ ?_
 | (refine fun (hc : _ = _)=>?_;first|cases hc|((try rw [hc]);(try simp only [stH] at hc);(try (exfalso;omega)));(try ((first|show Awl _ _ _ _ _|show Awc _ _ _ _ _ _);simp only [stU])))
 | ((first|refine fun (K : V → List _ → _) hK=>?_|refine fun (_ : V → V)=>?_|refine fun (bb : Nat → Bool) K hK=>?_);simp (maxSteps:=1000000) (disch:=omega) only [go_sem,Int.reduceEq,↓reduceIte,reduceCtorEq,Nat.reduceEqDiff,Nat.reduceLT,Nat.reduceLeDiff,Nat.reduceAdd,Nat.reduceSub,Nat.reduceMul,Int.reduceToNat,Int.reduceLE,Int.reduceLT,E0,e1,e2,all_E,eD,mI_eq,Sg3,St.updIf,ifc_nil,gt_ifc,go_ifc,ite_self,Option.none_or,Option.some_or];(try (revert hK;intro hK;(repeat' first|(refine And.intro ?_ ?_)|(intro hc;first|cases hc|((try rw [hc]);(try simp only [stH] at hc);(try (exfalso;omega)))));all_goals first|(refine hK _ _ ?_;clear hK K;simp only [stU])|exact hK|omega)))
        refine ⟨k + 1,by omega,ht1,by omega,nm [],Wk.of ?_⟩
        simp (maxSteps:=1000000) (disch:=omega) only [go_sem,Int.reduceEq,↓reduceIte,reduceCtorEq,Nat.reduceEqDiff,Nat.reduceLT,Nat.reduceLeDiff,Nat.reduceAdd,Nat.reduceSub,Nat.reduceMul,Int.reduceToNat,Int.reduceLE,Int.reduceLT,E0]
        try rfl
      · have hz : decide (l = m) = false:=decide_eq_false (ne_of_getD he)
        have hy : ¬ ((l.getD k x0).f0 = (m.getD k x0).f0 ∧ (l.getD k x0).f1 = (m.getD k x0).f1 ∧ (l.getD k x0).f2 = (m.getD k x0).f2 ∧ (l.getD k x0).f3 = (m.getD k x0).f3 ∧ (l.getD k x0).f4 = (m.getD k x0).f4):=fun h=>he (by
          generalize l.getD k x0 = a at *
          generalize m.getD k x0 = b at *
          cases a;cases b;simpa using h)
        repeat' first
 | refine AW.seq ?_
 | refine AW.block ?_
 | refine AW.regl E0_ok [0,1,4,5,10,14,25] ?_
 | (refine AW.regc (id:=6) E0_ok follows bb_overdubkeep_Same_api_Extent_6 (by kernel_rfl) [0,1,4,5,10,14,25] ?_)
 | refine then_n ?_
 | refine then_r ?_
 | refine then_x ?_
 | refine block_x ?_
 | refine block_o (by decide) ?_
 | refine block_n ?_
 | refine block_r ?_
 | refine AW.skip ?_
 | refine AW.ret ?_
 | refine AW.exit ?_
 | refine AW.cond rfl ?_ ?_
 | refine awl_none rfl ?_
 | refine awl_nil2 ?_
 | refine awc_none rfl ?_
 | exact each_nil
 | refine each_none rfl ?_ ?_
 | refine awc_leaf2 [some 17,some 18,some 19,some 20,some 21,some 22,some 23,some 24,some 25] cc_overdubkeep_Same_api_Extent_6 rfl (by kernel_rfl) (by kernel_rfl) ?_ ?_
 | (refine fun (hc : _ = _)=>?_;first|cases hc|((try rw [hc]);(try simp only [stH] at hc);(try (exfalso;omega)));(try ((first|show Awl _ _ _ _ _|show Awc _ _ _ _ _ _);simp only [stU])))
 | ((first|refine fun (K : V → List _ → _) hK=>?_|refine fun (_ : V → V)=>?_|refine fun (bb : Nat → Bool) K hK=>?_);simp (maxSteps:=1000000) (disch:=omega) only [go_sem,Int.reduceEq,↓reduceIte,reduceCtorEq,Nat.reduceEqDiff,Nat.reduceLT,Nat.reduceLeDiff,Nat.reduceAdd,Nat.reduceSub,Nat.reduceMul,Int.reduceToNat,Int.reduceLE,Int.reduceLT,E0,e1,e2,all_E,eD,mI_eq,hy,Sg3,St.updIf,ifc_nil,gt_ifc,go_ifc,ite_self,Option.none_or,Option.some_or];(try (revert hK;intro hK;(repeat' first|(refine And.intro ?_ ?_)|(intro hc;first|cases hc|((try rw [hc]);(try simp only [stH] at hc);(try (exfalso;omega)))));all_goals first|(refine hK _ _ ?_;clear hK K;simp only [stU])|exact hK|omega)))
        (refine Ends.of (nm []) (by first|exact .inl rfl|exact .inr rfl) ?_;simp (maxSteps:=1000000) (disch:=omega) only [go_sem,Int.reduceEq,↓reduceIte,reduceCtorEq,Nat.reduceEqDiff,Nat.reduceLT,Nat.reduceLeDiff,Nat.reduceAdd,Nat.reduceSub,Nat.reduceMul,Int.reduceToNat,Int.reduceLE,Int.reduceLT,E0,hz])
    · obtain rfl : k = l.length:=by omega
      have hz : decide (l = m) = true:=decide_eq_true (take_all ht hlm)
      repeat' first
 | refine AW.seq ?_
 | refine AW.block ?_
 | refine AW.regl E0_ok [0,1,4,5,10,14,25] ?_
 | (refine AW.regc (id:=6) E0_ok follows bb_overdubkeep_Same_api_Extent_6 (by kernel_rfl) [0,1,4,5,10,14,25] ?_)
 | refine then_n ?_
 | refine then_r ?_
 | refine then_x ?_
 | refine block_x ?_
 | refine block_o (by decide) ?_
 | refine block_n ?_
 | refine block_r ?_
 | refine AW.skip ?_
 | refine AW.ret ?_
 | refine AW.exit ?_
 | refine AW.cond rfl ?_ ?_
 | refine awl_none rfl ?_
 | refine awl_nil2 ?_
 | refine awc_none rfl ?_
 | exact each_nil
 | refine each_none rfl ?_ ?_
 | refine awc_leaf2 [some 17,some 18,some 19,some 20,some 21,some 22,some 23,some 24,some 25] cc_overdubkeep_Same_api_Extent_6 rfl (by kernel_rfl) (by kernel_rfl) ?_ ?_
 | (refine fun (hc : _ = _)=>?_;first|cases hc|((try rw [hc]);(try simp only [stH] at hc);(try (exfalso;omega)));(try ((first|show Awl _ _ _ _ _|show Awc _ _ _ _ _ _);simp only [stU])))
 | ((first|refine fun (K : V → List _ → _) hK=>?_|refine fun (_ : V → V)=>?_|refine fun (bb : Nat → Bool) K hK=>?_);simp (maxSteps:=1000000) (disch:=omega) only [go_sem,Int.reduceEq,↓reduceIte,reduceCtorEq,Nat.reduceEqDiff,Nat.reduceLT,Nat.reduceLeDiff,Nat.reduceAdd,Nat.reduceSub,Nat.reduceMul,Int.reduceToNat,Int.reduceLE,Int.reduceLT,E0,Sg3,St.updIf,ifc_nil,gt_ifc,go_ifc,ite_self,Option.none_or,Option.some_or];(try (revert hK;intro hK;(repeat' first|(refine And.intro ?_ ?_)|(intro hc;first|cases hc|((try rw [hc]);(try simp only [stH] at hc);(try (exfalso;omega)))));all_goals first|(refine hK _ _ ?_;clear hK K;simp only [stU])|exact hK|omega)))
      (refine Ends.of (nm []) (by first|exact .inl rfl|exact .inr rfl) ?_;simp (maxSteps:=1000000) (disch:=omega) only [go_sem,Int.reduceEq,↓reduceIte,reduceCtorEq,Nat.reduceEqDiff,Nat.reduceLT,Nat.reduceLeDiff,Nat.reduceAdd,Nat.reduceSub,Nat.reduceMul,Int.reduceToNat,Int.reduceLE,Int.reduceLT,E0,hz])
theorem ent_overdubkeep_Same_api_Extent : Ent Try.prog 26:=⟨_,Try.func26,rfl,by decide⟩
end Go.Proofs.Ytleahjfgedfgmaa.Am
end
section
set_option linter.unusedVariables false
set_option linter.unusedSimpArgs false
set_option maxRecDepth 10000
set_option maxHeartbeats 0
namespace Go.Proofs.Ytleahjfgedfgmaa.Am
open Go Go.RowKit Go.Proofs
noncomputable def H1 : Env:=⟨Try.prog,fun f ds out=>(f = 26 ∧ Sp_overdubkeep_Same_api_Extent ds out),Es,fun _=>false,fun f vs lent out=>False,fun f=>none,fun f=>false,false,fun f=>none⟩
theorem H1_sp : ∀ f ds out,H1.Sp f ds out → Ent H1.P f ∧ Good H1.P f (fun a b=>a = ds ∧ b = out):=by
  rintro f ds out ⟨rfl,h⟩
  exact ⟨ent_overdubkeep_Same_api_Extent,good_overdubkeep_Same_api_Extent.one h⟩
theorem H1_sm : ∀ f vs lent out,H1.Sm f vs lent out → Ent H1.P f ∧ GoodM H1.P f (fun a l b=>a = vs ∧ l = lent ∧ b = out):=fun _ _ _ _ h=>h.elim
theorem H1_at : ∀ f k,H1.At f = some k → AtomOk H1.P f k:=fun _ _ h=>nomatch h
theorem H1_ok : H1.Ok:=⟨H1_sp,Es_ok,H1_sm,H1_at⟩
def sameR (k t a b : Int) (l : List Xt) (k' t' a' b' : Int) (l' : List Xt) : Bool:=decide (k = k' ∧ t = t' ∧ a = a' ∧ b = b' ∧ l = l')
def rD (k t a b : Int) (l : List Xt) : D:=.agg [.v (.int .i64 k),.v (.int .i64 t),.v (.int .i64 a),.v (.int .i64 b),.list (l.map eD)]
theorem take_min {α : Type} (l : List α) (n : Int) : l.take (min (l.length : Int) n).toNat = l.take n.toNat:=by
  by_cases h : (l.length : Int) ≤ n
  · rw [show (min (l.length : Int) n).toNat = l.length by omega,List.take_length,List.take_of_length_le (by omega)]
  · rw [show (min (l.length : Int) n).toNat = n.toNat by omega]
theorem map_take' {α β : Type} (f : α → β) (l : List α) (n : Nat) : (l.map f).take n = (l.take n).map f:=List.map_take.symm
theorem map_drop' {α β : Type} (f : α → β) (l : List α) (n : Nat) : (l.map f).drop n = (l.drop n).map f:=List.map_drop.symm
def Sp_overdubkeep_Cut_api_Extent (ds : List D) (out : Out) : Prop:=∃ (l : List Xt) (n : Int),ds = [.list (l.map eD),.v (.int .i64 n)] ∧ 0 ≤ n ∧ l.length ≤ 9223372036854775807 ∧ out = ⟨.d (.list ((l.take n.toNat).map eD)),[]⟩
theorem good_overdubkeep_Cut_api_Extent : Good Try.prog 12 Sp_overdubkeep_Cut_api_Extent:=by
  refine good_body (E:=E0) (nt:=11) (rs:=#[.tmp 4]) Try.func12 rfl rfl rfl ?_
  rintro ds out ⟨l,n,rfl,h0,hl,rfl⟩
  refine ⟨by simp,?_⟩
  have hm1 : min (l.length : Int) n ≤ l.length:=by omega
  have hm2 : 0 ≤ min (l.length : Int) n:=by omega
  repeat' first
 | refine AW.seq ?_
 | refine AW.block ?_
 | refine AW.regl E0_ok [0,1,4] ?_
 | refine then_n ?_
 | refine then_r ?_
 | refine then_x ?_
 | refine block_x ?_
 | refine block_o (by decide) ?_
 | refine block_n ?_
 | refine block_r ?_
 | refine AW.skip ?_
 | refine AW.ret ?_
 | refine AW.exit ?_
 | refine AW.cond rfl ?_ ?_
 | refine awl_none rfl ?_
 | refine awl_nil2 ?_
 | (refine fun (hc : _ = _)=>?_;first|cases hc|((try rw [hc]);(try simp only [stH] at hc);(try (exfalso;omega)));(try (show Awl _ _ _ _ _;simp only [stU])))
 | ((first|refine fun (K : V → List _ → _) hK=>?_|refine fun (_ : V → V)=>?_);simp (maxSteps:=1000000) (disch:=omega) only [go_sem,Int.reduceEq,↓reduceIte,reduceCtorEq,Nat.reduceEqDiff,Nat.reduceLT,Nat.reduceLeDiff,Nat.reduceAdd,Nat.reduceSub,Nat.reduceMul,Int.reduceToNat,Int.reduceLE,Int.reduceLT,E0,cutOk,all_E,hm1,hm2];(try (revert hK;intro hK;(repeat' first|(refine And.intro ?_ ?_)|(intro hc;first|cases hc|((try rw [hc]);(try simp only [stH] at hc);(try (exfalso;omega)))));all_goals first|(refine hK _ _ ?_;clear hK K;simp only [stU])|exact hK|omega)))
  (refine Ends.of (nm []) (by first|exact .inl rfl|exact .inr rfl) ?_;simp (maxSteps:=1000000) (disch:=omega) only [go_sem,Int.reduceEq,↓reduceIte,reduceCtorEq,Nat.reduceEqDiff,Nat.reduceLT,Nat.reduceLeDiff,Nat.reduceAdd,Nat.reduceSub,Nat.reduceMul,Int.reduceToNat,Int.reduceLE,Int.reduceLT,E0,take_min,map_take'])
theorem ent_overdubkeep_Cut_api_Extent : Ent Try.prog 12:=⟨_,Try.func12,rfl,by decide⟩
def Sp_overdubkeep_Copy_api_Extent (ds : List D) (out : Out) : Prop:=∃ l : List Xt,ds = [.list (l.map eD)] ∧ l.length < 1000000000000 ∧ out = ⟨.sl 0 5 0 l.length true,[(0,.row 25 5 (l.map eD))]⟩
theorem good_overdubkeep_Copy_api_Extent : Good Try.prog 11 Sp_overdubkeep_Copy_api_Extent:=by
  refine good_body (E:=E0) (nt:=5) (rs:=#[.tmp 2]) Try.func11 rfl rfl rfl ?_
  rintro ds out ⟨l,rfl,hl,rfl⟩
  refine ⟨by simp,?_⟩
  repeat' first
 | refine AW.seq ?_
 | refine AW.block ?_
 | refine AW.regl E0_ok [0,2] ?_
 | refine then_n ?_
 | refine then_r ?_
 | refine then_x ?_
 | refine block_x ?_
 | refine block_o (by decide) ?_
 | refine block_n ?_
 | refine block_r ?_
 | refine AW.skip ?_
 | refine AW.ret ?_
 | refine AW.exit ?_
 | refine AW.cond rfl ?_ ?_
 | refine awl_none rfl ?_
 | refine awl_nil2 ?_
 | (refine fun (hc : _ = _)=>?_;first|cases hc|((try rw [hc]);(try simp only [stH] at hc);(try (exfalso;omega)));(try (show Awl _ _ _ _ _;simp only [stU])))
 | ((first|refine fun (K : V → List _ → _) hK=>?_|refine fun (_ : V → V)=>?_);simp (maxSteps:=1000000) (disch:=omega) only [go_sem,Int.reduceEq,↓reduceIte,reduceCtorEq,Nat.reduceEqDiff,Nat.reduceLT,Nat.reduceLeDiff,Nat.reduceAdd,Nat.reduceSub,Nat.reduceMul,Int.reduceToNat,Int.reduceLE,Int.reduceLT,E0,all_E];(try (revert hK;intro hK;(repeat' first|(refine And.intro ?_ ?_)|(intro hc;first|cases hc|((try rw [hc]);(try simp only [stH] at hc);(try (exfalso;omega)))));all_goals first|(refine hK _ _ ?_;clear hK K;simp only [stU])|exact hK|omega)))
  (refine Ends.of (nm [(0,4)]) (by first|exact .inl rfl|exact .inr rfl) ?_;simp (maxSteps:=1000000) (disch:=omega) only [go_sem,Int.reduceEq,↓reduceIte,reduceCtorEq,Nat.reduceEqDiff,Nat.reduceLT,Nat.reduceLeDiff,Nat.reduceAdd,Nat.reduceSub,Nat.reduceMul,Int.reduceToNat,Int.reduceLE,Int.reduceLT,E0])
theorem ent_overdubkeep_Copy_api_Extent : Ent Try.prog 11:=⟨_,Try.func11,rfl,by decide⟩
end Go.Proofs.Ytleahjfgedfgmaa.Am
end
