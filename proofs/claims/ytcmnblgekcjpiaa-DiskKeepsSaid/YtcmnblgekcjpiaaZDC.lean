import Derived.Test.YtcmnblgekcjpiaaZDF
set_option linter.unusedVariables false
set_option linter.unusedSimpArgs false
set_option maxRecDepth 10000
set_option maxHeartbeats 0
namespace Go.Proofs.Ytcmnblgekcjpiaa.Am
open Go Go.RowKit Go.Proofs
def bD (b : Bool) : D:=.v (.bool b)
theorem nth_L (l : List Bool) (k : Nat) (h : k < l.length) : nth (l.map bD) k = .v (.bool (l.getD k false)):=by
  simp [nth,List.getD_eq_getElem?_getD,h,bD]
theorem all_L (l : List Bool) : (∀ d ∈ l.map bD,d.cells.length = 1) = True:=by
  simp only [eq_iff_iff,iff_true]
  intro d hd
  obtain ⟨z,_,rfl⟩:=List.mem_map.1 hd
  rfl
theorem bD_inj (l m : List Bool) : (l.map bD = m.map bD) = (l = m):=list_map_inj bD (fun a b h=>by simpa [bD] using h) l m
theorem nil_bD (l : List Bool) : ([] = l.map bD) = (l = []):=by cases l <;> simp
def kpC (keep : List Bool) (k : List (List Int)) (l : List (Int × List Int)) : Nat → List (List Int)
  | 0=>k
  | n + 1=>if keep.getD n false = true then putW (kpC keep k l n) (l.getD n (0,[])) else kpC keep k l n
theorem kpC_len (keep : List Bool) (k : List (List Int)) (l : List (Int × List Int)) (n : Nat) : (kpC keep k l n).length = k.length:=by
  induction n with
  | zero=>rfl
  | succ n ih=>simp only [kpC];split <;> simp [putW,ih]
theorem kpC_sec {keep : List Bool} {k : List (List Int)} (hk : ∀ s ∈ k,s.length = 128) {l : List (Int × List Int)} (hl : ∀ w ∈ l,w.2.length = 128) {n : Nat} (hn : n ≤ l.length) : ∀ s ∈ kpC keep k l n,s.length = 128:=by
  induction n with
  | zero=>exact hk
  | succ n ih =>
    simp only [kpC]
    split
    · intro s hs
      rcases List.mem_or_eq_of_mem_set hs with h1|rfl
      · exact ih (by omega) s h1
      · exact hl _ (by rw [List.getD_eq_getElem?_getD,List.getElem?_eq_getElem (by omega)];exact List.getElem_mem _)
    · exact ih (by omega)
def crD (d : Dk) (keep : List Bool) : Dk:={ d with kept:=kpC keep d.kept d.wt d.wt.length,wt:=[],dead:=false,stops:=false }
def Sm_disk_Disk_Crash (vs : List V) (lent : List (Nat × Ob)) (out : Out) : Prop:=∃ (d : Dk) (keep : List Bool),lent = lentD 902 d ∧ vs = [.ptr 1000000 0,.d (.list (keep.map bD))] ∧ okD d ∧ keep.length ≤ 9223372036854775807 ∧ out = ⟨.tup [],lentN (crD d keep)⟩
noncomputable def D5 : Env:=⟨Try.prog,fun f ds out=>False,Es,fun _=>false,fun f vs lent out=>False,fun f=>none,fun f=>false,false,fun f=>none⟩
theorem D5_sp : ∀ f ds out,D5.Sp f ds out → Ent D5.P f ∧ Good D5.P f (fun a b=>a = ds ∧ b = out):=fun _ _ _ h=>h.elim
theorem D5_sm : ∀ f vs lent out,D5.Sm f vs lent out → Ent D5.P f ∧ GoodM D5.P f (fun a l b=>a = vs ∧ l = lent ∧ b = out):=fun _ _ _ _ h=>h.elim
theorem D5_at : ∀ f k,D5.At f = some k → AtomOk D5.P f k:=fun _ _ h=>nomatch h
theorem D5_ok : D5.Ok:=⟨D5_sp,Es_ok,D5_sm,D5_at⟩
def bb_disk_Disk_Crash_4 : List Nat:=[0,1,3,7,0,16,0,64,255,511]
theorem goodM_disk_Disk_Crash : GoodM Try.prog 18 Sm_disk_Disk_Crash:=by
  refine goodM_body (E:=D5) (nt:=45) (rs:=#[]) Try.func18 rfl rfl rfl ?_
  rintro vs lent out ⟨d,keep,rfl,rfl,hok,hkl,rfl⟩
  refine ⟨by simp,?_⟩
  obtain ⟨kept,wt,dead,stops,at_,rd,wr,fl⟩:=d
  obtain ⟨k0,k1,kl,wl,wn,a0,a1⟩:=hok
  simp only at k0 k1 kl wl wn a0 a1
  repeat' first
 | refine AW.seq ?_
 | refine AW.block ?_
 | refine AW.regl D5_ok [0,1,4,5,9,10,11,12,25] ?_
 | (refine AW.regq (id:=4) D5_ok follows bb_disk_Disk_Crash_4 (by kernel_rfl) [0,1,4,5,9,10,11,12,25] ?_)
 | refine then_n ?_
 | refine then_r ?_
 | refine then_x ?_
 | refine block_x ?_
 | refine block_o (by decide) ?_
 | refine block_n ?_
 | refine block_r ?_
 | refine AW.skip ?_
 | refine AW.ret ?_
 | refine AW.exit ?_
 | refine AW.cond rfl ?_ ?_
 | refine awl_none rfl ?_
 | refine awl_nil2 ?_
 | refine awl_some rfl rfl (Nat.le_of_ble_eq_true rfl) rfl rfl ?_ ?_
 | refine awc_none rfl ?_
 | refine awc_nilq (by kernel_rfl) (by kernel_rfl) ?_
 | (refine fun (hc : _ = _)=>?_;first|cases hc|((try rw [hc]);(try simp only [stH] at hc);(try (exfalso;omega)));(try ((first|show Awl _ _ _ _ _|show Awc _ _ _ _ _ _);simp only [stU])))
 | ((first|refine fun (K : V → List _ → _) hK=>?_|refine fun (_ : V → V)=>?_);simp (maxSteps:=1000000) (disch:=omega) only [go_sem,Int.reduceEq,↓reduceIte,reduceCtorEq,Nat.reduceEqDiff,Nat.reduceLT,Nat.reduceLeDiff,Nat.reduceAdd,Nat.reduceSub,Nat.reduceMul,Int.reduceToNat,Int.reduceLE,Int.reduceLT,D5,lentD,boxO,keptO,waitO,Sg3,St.updIf,ifc_nil,gt_ifc,go_ifc,ite_self,Option.none_or,Option.some_or];(try (revert hK;intro hK;(repeat' first|(refine And.intro ?_ ?_)|(intro hc;first|cases hc|((try rw [hc]);(try simp only [stH] at hc);(try (exfalso;omega)))));all_goals first|(refine hK _ _ ?_;clear hK K;simp only [stU])|exact hK|omega)))
  refine AW.loop_wk (fun k : Nat=>⟨[(0,.ptr 1000000 0),(1,.d (.list (keep.map bD))),(9,.sl 902 129 0 wt.length true),(10,.d (.v (.int .i64 wt.length))),(11,.d (.v (.int .i64 k)))],[(1000000,.box [.sl 1000001 128 0 kept.length true,.sl 902 129 0 wt.length true,.d (.v (.bool dead)),.d (.v (.bool stops)),.d (.v (.int .i64 at_)),.d (.v (.int .i64 rd)),.d (.v (.int .i64 wr)),.d (.v (.int .i64 fl))]),(1000001,.row 73 128 ((kpC keep kept wt k).map sD)),(902,.row 75 129 (wt.map wD))],45⟩)
    (fun k=>k ≤ wt.length) (fun k=>wt.length - k) 0 (Nat.zero_le _) (fun w0 oa a w hs=>Wk.sr (ρ:=nm []) (Wk.of ?_) hs) ?_
  · simp (maxSteps:=1000000) (disch:=omega) only [go_sem,Int.reduceEq,↓reduceIte,reduceCtorEq,Nat.reduceEqDiff,Nat.reduceLT,Nat.reduceLeDiff,Nat.reduceAdd,Nat.reduceSub,Nat.reduceMul,Int.reduceToNat,Int.reduceLE,Int.reduceLT,D5,kpC]
  intro k hk
  have hKl:=kpC_len keep kept wt k
  by_cases hk1 : k < wt.length
  · have e1:=nth_W wt k hk1
    have hwk:=wl _ (show wt.getD k (0,[]) ∈ wt by rw [List.getD_eq_getElem?_getD,List.getElem?_eq_getElem hk1];exact List.getElem_mem hk1)
    have hKs:=kpC_sec (keep:=keep) kl (l:=wt) (fun w hw=>(wl w hw).1) (n:=k) (by omega)
    have hsu : kpC keep kept wt (k + 1) = if keep.getD k false = true then putW (kpC keep kept wt k) (wt.getD k (0,[])) else kpC keep kept wt k:=rfl
    obtain ⟨⟨wi,ws⟩,hw⟩ : ∃ w,wt.getD k (0,[]) = w:=⟨_,rfl⟩
    rw [hw] at e1 hwk hsu
    simp only at e1 hwk
    obtain ⟨hw1,hw2,hw3⟩:=hwk
    obtain ⟨q,rfl⟩ : ∃ q : Nat,wi = q:=⟨wi.toNat,by omega⟩
    obtain ⟨K,hK⟩ : ∃ K,kpC keep kept wt k = K:=⟨_,rfl⟩
    rw [hK] at hKl hsu hKs
    have hq : q < K.length:=by omega
    have e0:=nth_S K q hq
    have hol : (K.getD q []).length = 128:=hKs _ (by rw [List.getD_eq_getElem?_getD,List.getElem?_eq_getElem hq];exact List.getElem_mem hq)
    obtain ⟨old,hold⟩ : ∃ old,K.getD q [] = old:=⟨_,rfl⟩
    rw [hold] at e0 hol
    have t1:=take_sec hw1
    have t2:=drop_secB hol
    have t3:=toDs_B ws
    have t4:=pu_B ws
    have t5:=set_S K q ws
    by_cases hkk : k < keep.length
    · have e2:=nth_L keep k hkk
      cases hb : keep.getD k false with
      | true =>
        rw [hb,if_pos rfl] at hsu
        rw [hb] at e2
        repeat' ((first
 | refine AW.seq ?_
 | refine AW.block ?_
 | refine AW.regl D5_ok [0,1,4,5,9,10,11,12,25] ?_
 | (refine AW.regq (id:=4) D5_ok follows bb_disk_Disk_Crash_4 (by kernel_rfl) [0,1,4,5,9,10,11,12,25] ?_)
 | refine then_n ?_
 | refine then_r ?_
 | refine then_x ?_
 | refine block_x ?_
 | refine block_o (by decide) ?_
 | refine block_n ?_
 | refine block_r ?_
 | refine AW.skip ?_
 | refine AW.ret ?_
 | refine AW.exit ?_
 | refine AW.cond rfl ?_ ?_
 | refine awl_none rfl ?_
 | refine awl_nil2 ?_
 | refine awl_some rfl rfl (Nat.le_of_ble_eq_true rfl) rfl rfl ?_ ?_
 | refine awc_none rfl ?_
 | refine awc_nilq (by kernel_rfl) (by kernel_rfl) ?_
 | (refine fun (hc : _ = _)=>?_;first|cases hc|((try rw [hc]);(try simp only [stH] at hc);(try (exfalso;omega)));(try ((first|show Awl _ _ _ _ _|show Awc _ _ _ _ _ _);simp only [stU])))
 | ((first|refine fun (K : V → List _ → _) hK=>?_|refine fun (_ : V → V)=>?_);simp (maxSteps:=1000000) (disch:=omega) only [go_sem,Int.reduceEq,↓reduceIte,reduceCtorEq,Nat.reduceEqDiff,Nat.reduceLT,Nat.reduceLeDiff,Nat.reduceAdd,Nat.reduceSub,Nat.reduceMul,Int.reduceToNat,Int.reduceLE,Int.reduceLT,D5,hK,e1,e0,e2,hw1,hol,t1,t2,t3,t4,t5,hKl,all_L,List.all_replicate,List.map_replicate,List.length_replicate,List.drop_replicate,List.replicate_zero,Nat.sub_self,Sg3,St.updIf,ifc_nil,gt_ifc,go_ifc,ite_self,Option.none_or,Option.some_or];(try (revert hK;intro hK;(repeat' first|(refine And.intro ?_ ?_)|(intro hc;first|cases hc|((try rw [hc]);(try simp only [stH] at hc);(try (exfalso;omega)))));all_goals first|(refine hK _ _ ?_;clear hK K;simp only [stU])|exact hK|omega)))) <;> (fail_if_success (show False;skip)))
        refine ⟨k + 1,by omega,by omega,nm [],Wk.of ?_⟩
        simp (maxSteps:=1000000) (disch:=omega) only [go_sem,Int.reduceEq,↓reduceIte,reduceCtorEq,Nat.reduceEqDiff,Nat.reduceLT,Nat.reduceLeDiff,Nat.reduceAdd,Nat.reduceSub,Nat.reduceMul,Int.reduceToNat,Int.reduceLE,Int.reduceLT,D5,hsu]
        rfl
      | false =>
        rw [hb,if_neg (by simp)] at hsu
        rw [hb] at e2
        repeat' ((first
 | refine AW.seq ?_
 | refine AW.block ?_
 | refine AW.regl D5_ok [0,1,4,5,9,10,11,12,25] ?_
 | (refine AW.regq (id:=4) D5_ok follows bb_disk_Disk_Crash_4 (by kernel_rfl) [0,1,4,5,9,10,11,12,25] ?_)
 | refine then_n ?_
 | refine then_r ?_
 | refine then_x ?_
 | refine block_x ?_
 | refine block_o (by decide) ?_
 | refine block_n ?_
 | refine block_r ?_
 | refine AW.skip ?_
 | refine AW.ret ?_
 | refine AW.exit ?_
 | refine AW.cond rfl ?_ ?_
 | refine awl_none rfl ?_
 | refine awl_nil2 ?_
 | refine awl_some rfl rfl (Nat.le_of_ble_eq_true rfl) rfl rfl ?_ ?_
 | refine awc_none rfl ?_
 | refine awc_nilq (by kernel_rfl) (by kernel_rfl) ?_
 | (refine fun (hc : _ = _)=>?_;first|cases hc|((try rw [hc]);(try simp only [stH] at hc);(try (exfalso;omega)));(try ((first|show Awl _ _ _ _ _|show Awc _ _ _ _ _ _);simp only [stU])))
 | ((first|refine fun (K : V → List _ → _) hK=>?_|refine fun (_ : V → V)=>?_);simp (maxSteps:=1000000) (disch:=omega) only [go_sem,Int.reduceEq,↓reduceIte,reduceCtorEq,Nat.reduceEqDiff,Nat.reduceLT,Nat.reduceLeDiff,Nat.reduceAdd,Nat.reduceSub,Nat.reduceMul,Int.reduceToNat,Int.reduceLE,Int.reduceLT,D5,hK,e1,e2,hw1,all_L,t1,List.all_replicate,List.map_replicate,List.length_replicate,List.drop_replicate,List.replicate_zero,Nat.sub_self,Sg3,St.updIf,ifc_nil,gt_ifc,go_ifc,ite_self,Option.none_or,Option.some_or];(try (revert hK;intro hK;(repeat' first|(refine And.intro ?_ ?_)|(intro hc;first|cases hc|((try rw [hc]);(try simp only [stH] at hc);(try (exfalso;omega)))));all_goals first|(refine hK _ _ ?_;clear hK K;simp only [stU])|exact hK|omega)))) <;> (fail_if_success (show False;skip)))
        refine ⟨k + 1,by omega,by omega,nm [],Wk.of ?_⟩
        simp (maxSteps:=1000000) (disch:=omega) only [go_sem,Int.reduceEq,↓reduceIte,reduceCtorEq,Nat.reduceEqDiff,Nat.reduceLT,Nat.reduceLeDiff,Nat.reduceAdd,Nat.reduceSub,Nat.reduceMul,Int.reduceToNat,Int.reduceLE,Int.reduceLT,D5,hsu]
        rfl
    · have hb : keep.getD k false = false:=by simp [List.getD_eq_getElem?_getD,List.getElem?_eq_none (by omega : keep.length ≤ k)]
      rw [hb,if_neg (by simp)] at hsu
      repeat' ((first
 | refine AW.seq ?_
 | refine AW.block ?_
 | refine AW.regl D5_ok [0,1,4,5,9,10,11,12,25] ?_
 | (refine AW.regq (id:=4) D5_ok follows bb_disk_Disk_Crash_4 (by kernel_rfl) [0,1,4,5,9,10,11,12,25] ?_)
 | refine then_n ?_
 | refine then_r ?_
 | refine then_x ?_
 | refine block_x ?_
 | refine block_o (by decide) ?_
 | refine block_n ?_
 | refine block_r ?_
 | refine AW.skip ?_
 | refine AW.ret ?_
 | refine AW.exit ?_
 | refine AW.cond rfl ?_ ?_
 | refine awl_none rfl ?_
 | refine awl_nil2 ?_
 | refine awl_some rfl rfl (Nat.le_of_ble_eq_true rfl) rfl rfl ?_ ?_
 | refine awc_none rfl ?_
 | refine awc_nilq (by kernel_rfl) (by kernel_rfl) ?_
 | (refine fun (hc : _ = _)=>?_;first|cases hc|((try rw [hc]);(try simp only [stH] at hc);(try (exfalso;omega)));(try ((first|show Awl _ _ _ _ _|show Awc _ _ _ _ _ _);simp only [stU])))
 | ((first|refine fun (K : V → List _ → _) hK=>?_|refine fun (_ : V → V)=>?_);simp (maxSteps:=1000000) (disch:=omega) only [go_sem,Int.reduceEq,↓reduceIte,reduceCtorEq,Nat.reduceEqDiff,Nat.reduceLT,Nat.reduceLeDiff,Nat.reduceAdd,Nat.reduceSub,Nat.reduceMul,Int.reduceToNat,Int.reduceLE,Int.reduceLT,D5,hK,e1,hw1,all_L,t1,List.all_replicate,List.map_replicate,List.length_replicate,List.drop_replicate,List.replicate_zero,Nat.sub_self,Sg3,St.updIf,ifc_nil,gt_ifc,go_ifc,ite_self,Option.none_or,Option.some_or];(try (revert hK;intro hK;(repeat' first|(refine And.intro ?_ ?_)|(intro hc;first|cases hc|((try rw [hc]);(try simp only [stH] at hc);(try (exfalso;omega)))));all_goals first|(refine hK _ _ ?_;clear hK K;simp only [stU])|exact hK|omega)))) <;> (fail_if_success (show False;skip)))
      refine ⟨k + 1,by omega,by omega,nm [],Wk.of ?_⟩
      simp (maxSteps:=1000000) (disch:=omega) only [go_sem,Int.reduceEq,↓reduceIte,reduceCtorEq,Nat.reduceEqDiff,Nat.reduceLT,Nat.reduceLeDiff,Nat.reduceAdd,Nat.reduceSub,Nat.reduceMul,Int.reduceToNat,Int.reduceLE,Int.reduceLT,D5,hsu]
      rfl
  · obtain rfl : k = wt.length:=by omega
    repeat' ((first
 | refine AW.seq ?_
 | refine AW.block ?_
 | refine AW.regl D5_ok [0,1,4,5,9,10,11,12,25] ?_
 | (refine AW.regq (id:=4) D5_ok follows bb_disk_Disk_Crash_4 (by kernel_rfl) [0,1,4,5,9,10,11,12,25] ?_)
 | refine then_n ?_
 | refine then_r ?_
 | refine then_x ?_
 | refine block_x ?_
 | refine block_o (by decide) ?_
 | refine block_n ?_
 | refine block_r ?_
 | refine AW.skip ?_
 | refine AW.ret ?_
 | refine AW.exit ?_
 | refine AW.cond rfl ?_ ?_
 | refine awl_none rfl ?_
 | refine awl_nil2 ?_
 | refine awl_some rfl rfl (Nat.le_of_ble_eq_true rfl) rfl rfl ?_ ?_
 | refine awc_none rfl ?_
 | refine awc_nilq (by kernel_rfl) (by kernel_rfl) ?_
 | (refine fun (hc : _ = _)=>?_;first|cases hc|((try rw [hc]);(try simp only [stH] at hc);(try (exfalso;omega)));(try ((first|show Awl _ _ _ _ _|show Awc _ _ _ _ _ _);simp only [stU])))
 | ((first|refine fun (K : V → List _ → _) hK=>?_|refine fun (_ : V → V)=>?_);simp (maxSteps:=1000000) (disch:=omega) only [go_sem,Int.reduceEq,↓reduceIte,reduceCtorEq,Nat.reduceEqDiff,Nat.reduceLT,Nat.reduceLeDiff,Nat.reduceAdd,Nat.reduceSub,Nat.reduceMul,Int.reduceToNat,Int.reduceLE,Int.reduceLT,D5,Sg3,St.updIf,ifc_nil,gt_ifc,go_ifc,ite_self,Option.none_or,Option.some_or];(try (revert hK;intro hK;(repeat' first|(refine And.intro ?_ ?_)|(intro hc;first|cases hc|((try rw [hc]);(try simp only [stH] at hc);(try (exfalso;omega)))));all_goals first|(refine hK _ _ ?_;clear hK K;simp only [stU])|exact hK|omega)))) <;> (fail_if_success (show False;skip)))
    refine Ends.weak (fun w0 oa a w hs=>nilB_sr 1000000 50 1 75 129 rfl rfl rfl (by decide) hs) ?_
    (refine Ends.of (nm [(2,50),(1000000,1000000),(1000001,1000001)]) (by first|exact .inl rfl|exact .inr rfl) ?_;simp (maxSteps:=1000000) (disch:=omega) only [go_sem,Int.reduceEq,↓reduceIte,reduceCtorEq,Nat.reduceEqDiff,Nat.reduceLT,Nat.reduceLeDiff,Nat.reduceAdd,Nat.reduceSub,Nat.reduceMul,Int.reduceToNat,Int.reduceLE,Int.reduceLT,D5,hKl,crD,lentN,boxO,keptO,waitO,List.set_cons_succ,List.set_cons_zero])
theorem ent_disk_Disk_Crash : Ent Try.prog 18:=⟨_,Try.func18,rfl,by decide⟩
def Sm_disk_Disk_Len (vs : List V) (lent : List (Nat × Ob)) (out : Out) : Prop:=∃ d : Dk,lent = lentD 1000002 d ∧ vs = [.ptr 1000000 0] ∧ out = ⟨.d (.v (.int .i64 d.kept.length)),lentD 1000002 d⟩
theorem goodM_disk_Disk_Len : GoodM Try.prog 46 Sm_disk_Disk_Len:=by
  refine goodM_body (E:=D5) (nt:=8) (rs:=#[.tmp 2]) Try.func46 rfl rfl rfl ?_
  rintro vs lent out ⟨d,rfl,rfl,rfl⟩
  refine ⟨by simp,?_⟩
  repeat' first
 | refine AW.seq ?_
 | refine AW.block ?_
 | refine AW.regl D5_ok [0,2] ?_
 | refine then_n ?_
 | refine then_r ?_
 | refine then_x ?_
 | refine block_x ?_
 | refine block_o (by decide) ?_
 | refine block_n ?_
 | refine block_r ?_
 | refine AW.skip ?_
 | refine AW.ret ?_
 | refine AW.exit ?_
 | refine AW.cond rfl ?_ ?_
 | refine awl_none rfl ?_
 | refine awl_nil2 ?_
 | (refine fun (hc : _ = _)=>?_;first|cases hc|((try rw [hc]);(try simp only [stH] at hc);(try (exfalso;omega)));(try (show Awl _ _ _ _ _;simp only [stU])))
 | ((first|refine fun (K : V → List _ → _) hK=>?_|refine fun (_ : V → V)=>?_);simp (maxSteps:=1000000) (disch:=omega) only [go_sem,Int.reduceEq,↓reduceIte,reduceCtorEq,Nat.reduceEqDiff,Nat.reduceLT,Nat.reduceLeDiff,Nat.reduceAdd,Nat.reduceSub,Nat.reduceMul,Int.reduceToNat,Int.reduceLE,Int.reduceLT,D5,lentD,boxO,keptO,waitO];(try (revert hK;intro hK;(repeat' first|(refine And.intro ?_ ?_)|(intro hc;first|cases hc|((try rw [hc]);(try simp only [stH] at hc);(try (exfalso;omega)))));all_goals first|(refine hK _ _ ?_;clear hK K;simp only [stU])|exact hK|omega)))
  all_goals (refine Ends.of (nm [(1000000,1000000),(1000001,1000001),(1000002,1000002)]) (by first|exact .inl rfl|exact .inr rfl) ?_;simp (maxSteps:=1000000) (disch:=omega) only [go_sem,Int.reduceEq,↓reduceIte,reduceCtorEq,Nat.reduceEqDiff,Nat.reduceLT,Nat.reduceLeDiff,Nat.reduceAdd,Nat.reduceSub,Nat.reduceMul,Int.reduceToNat,Int.reduceLE,Int.reduceLT,D5,lentD,boxO,keptO,waitO])
theorem ent_disk_Disk_Len : Ent Try.prog 46:=⟨_,Try.func46,rfl,by decide⟩
def imgL (k : List (List Int)) : List Int:=k.flatten
theorem imgL_len {k : List (List Int)} (h : ∀ s ∈ k,s.length = 128) : (imgL k).length = k.length * 128:=by
  induction k with
  | nil=>rfl
  | cons a r ih =>
    simp only [imgL,List.flatten_cons,List.length_append,List.length_cons] at ih ⊢
    rw [ih fun s hs=>h s (List.mem_cons_of_mem _ hs),h a (List.mem_cons_self ..)];omega
theorem imgL_snoc {k : List (List Int)} {n : Nat} (h : n < k.length) : imgL (k.take (n + 1)) = imgL (k.take n) ++ k.getD n []:=by
  unfold imgL
  rw [List.take_succ_eq_append_getElem h,List.getD_eq_getElem?_getD,List.getElem?_eq_getElem h,List.flatten_append]
  simp only [List.flatten_cons,List.flatten_nil,List.append_nil,Option.getD_some]
def Sm_disk_Disk_Image (vs : List V) (lent : List (Nat × Ob)) (out : Out) : Prop:=∃ d : Dk,lent = lentD 1000002 d ∧ vs = [.ptr 1000000 0] ∧ okD d ∧ out = ⟨.sl 0 1 0 (imgL d.kept).length true,(0,.row 5 1 ((imgL d.kept).map mB)) :: lentD 1000002 d⟩
theorem goodM_disk_Disk_Image : GoodM Try.prog 15 Sm_disk_Disk_Image:=by
  refine goodM_body (E:=D5) (nt:=20) (rs:=#[.tmp 2]) Try.func15 rfl rfl rfl ?_
  rintro vs lent out ⟨d,rfl,rfl,hok,rfl⟩
  refine ⟨by simp,?_⟩
  obtain ⟨kept,wt,dead,stops,at_,rd,wr,fl⟩:=d
  obtain ⟨k0,k1,kl,wl,wn,a0,a1⟩:=hok
  simp only at k0 k1 kl wl wn a0 a1
  repeat' first
 | refine AW.seq ?_
 | refine AW.block ?_
 | refine AW.regl D5_ok [0,2,3,5,9,10,11,12] ?_
 | refine then_n ?_
 | refine then_r ?_
 | refine then_x ?_
 | refine block_x ?_
 | refine block_o (by decide) ?_
 | refine block_n ?_
 | refine block_r ?_
 | refine AW.skip ?_
 | refine AW.ret ?_
 | refine AW.exit ?_
 | refine AW.cond rfl ?_ ?_
 | refine awl_none rfl ?_
 | refine awl_nil2 ?_
 | (refine fun (hc : _ = _)=>?_;first|cases hc|((try rw [hc]);(try simp only [stH] at hc);(try (exfalso;omega)));(try (show Awl _ _ _ _ _;simp only [stU])))
 | ((first|refine fun (K : V → List _ → _) hK=>?_|refine fun (_ : V → V)=>?_);simp (maxSteps:=1000000) (disch:=omega) only [go_sem,Int.reduceEq,↓reduceIte,reduceCtorEq,Nat.reduceEqDiff,Nat.reduceLT,Nat.reduceLeDiff,Nat.reduceAdd,Nat.reduceSub,Nat.reduceMul,Int.reduceToNat,Int.reduceLE,Int.reduceLT,D5,lentD,boxO,keptO,waitO];(try (revert hK;intro hK;(repeat' first|(refine And.intro ?_ ?_)|(intro hc;first|cases hc|((try rw [hc]);(try simp only [stH] at hc);(try (exfalso;omega)))));all_goals first|(refine hK _ _ ?_;clear hK K;simp only [stU])|exact hK|omega)))
  refine AW.loop_wk (fun n : Nat=>⟨[(0,.ptr 1000000 0),(3,.sl 100 1 0 (imgL (kept.take n)).length true),(9,.sl 1000001 128 0 kept.length true),(10,.d (.v (.int .i64 kept.length))),(11,.d (.v (.int .i64 n)))],(100,.row 5 1 ((imgL (kept.take n)).map mB)) :: lentD 1000002 ⟨kept,wt,dead,stops,at_,rd,wr,fl⟩,20⟩)
    (fun n=>n ≤ kept.length) (fun n=>kept.length - n) 0 (Nat.zero_le _) ?_ ?_
  · intro w0 oa a w hs
    refine Wk.sr (ρ:=nm []) (Wk.of ?_) (nil_sr 3 100 5 1 rfl (by simp) rfl (by decide) hs)
    have h0 : imgL [] = []:=rfl
    simp (maxSteps:=1000000) (disch:=omega) only [go_sem,Int.reduceEq,↓reduceIte,reduceCtorEq,Nat.reduceEqDiff,Nat.reduceLT,Nat.reduceLeDiff,Nat.reduceAdd,Nat.reduceSub,Nat.reduceMul,Int.reduceToNat,Int.reduceLE,Int.reduceLT,D5,h0,lentD,boxO,keptO,waitO]
  intro n hn
  have hil:=imgL_len (k:=kept.take n) fun s hs=>kl s (List.mem_of_mem_take hs)
  rw [List.length_take,Nat.min_eq_left hn] at hil
  by_cases hn1 : n < kept.length
  · have e0:=nth_S kept n hn1
    have hol : (kept.getD n []).length = 128:=kl _ (by rw [List.getD_eq_getElem?_getD,List.getElem?_eq_getElem hn1];exact List.getElem_mem hn1)
    have hsn:=imgL_snoc hn1
    obtain ⟨c,hc⟩ : ∃ c,kept.getD n [] = c:=⟨_,rfl⟩
    rw [hc] at e0 hol hsn
    obtain ⟨I,hI⟩ : ∃ I,imgL (kept.take n) = I:=⟨_,rfl⟩
    rw [hI] at hil hsn
    have t1:=take_sec hol
    have t3:=toDs_B c
    have hap : I.map mB ++ c.map mB = (I ++ c).map mB:=by simp
    have hal : (I ++ c).length = I.length + 128:=by simp [hol]
    repeat' ((first
 | refine AW.seq ?_
 | refine AW.block ?_
 | refine AW.regl D5_ok [0,2,3,5,9,10,11,12] ?_
 | refine then_n ?_
 | refine then_r ?_
 | refine then_x ?_
 | refine block_x ?_
 | refine block_o (by decide) ?_
 | refine block_n ?_
 | refine block_r ?_
 | refine AW.skip ?_
 | refine AW.ret ?_
 | refine AW.exit ?_
 | refine AW.cond rfl ?_ ?_
 | refine awl_none rfl ?_
 | refine awl_nil2 ?_
 | (refine fun (hc : _ = _)=>?_;first|cases hc|((try rw [hc]);(try simp only [stH] at hc);(try (exfalso;omega)));(try (show Awl _ _ _ _ _;simp only [stU])))
 | ((first|refine fun (K : V → List _ → _) hK=>?_|refine fun (_ : V → V)=>?_);simp (maxSteps:=1000000) (disch:=omega) only [go_sem,Int.reduceEq,↓reduceIte,reduceCtorEq,Nat.reduceEqDiff,Nat.reduceLT,Nat.reduceLeDiff,Nat.reduceAdd,Nat.reduceSub,Nat.reduceMul,Int.reduceToNat,Int.reduceLE,Int.reduceLT,D5,hI,e0,hol,t1,t3,hap,lentD,boxO,keptO,waitO,List.all_replicate,List.map_replicate,List.length_replicate,List.drop_replicate,List.replicate_zero,Nat.sub_self];(try (revert hK;intro hK;(repeat' first|(refine And.intro ?_ ?_)|(intro hc;first|cases hc|((try rw [hc]);(try simp only [stH] at hc);(try (exfalso;omega)))));all_goals first|(refine hK _ _ ?_;clear hK K;simp only [stU])|exact hK|omega)))) <;> (fail_if_success (show False;skip)))
    refine ⟨n + 1,by omega,by omega,nm [(100,17),(1000000,1000000),(1000001,1000001),(1000002,1000002)],Wk.of ?_⟩
    simp (maxSteps:=1000000) (disch:=omega) only [go_sem,Int.reduceEq,↓reduceIte,reduceCtorEq,Nat.reduceEqDiff,Nat.reduceLT,Nat.reduceLeDiff,Nat.reduceAdd,Nat.reduceSub,Nat.reduceMul,Int.reduceToNat,Int.reduceLE,Int.reduceLT,D5,hsn,hal,lentD,boxO,keptO,waitO]
    rfl
  · obtain rfl : n = kept.length:=by omega
    repeat' ((first
 | refine AW.seq ?_
 | refine AW.block ?_
 | refine AW.regl D5_ok [0,2,3,5,9,10,11,12] ?_
 | refine then_n ?_
 | refine then_r ?_
 | refine then_x ?_
 | refine block_x ?_
 | refine block_o (by decide) ?_
 | refine block_n ?_
 | refine block_r ?_
 | refine AW.skip ?_
 | refine AW.ret ?_
 | refine AW.exit ?_
 | refine AW.cond rfl ?_ ?_
 | refine awl_none rfl ?_
 | refine awl_nil2 ?_
 | (refine fun (hc : _ = _)=>?_;first|cases hc|((try rw [hc]);(try simp only [stH] at hc);(try (exfalso;omega)));(try (show Awl _ _ _ _ _;simp only [stU])))
 | ((first|refine fun (K : V → List _ → _) hK=>?_|refine fun (_ : V → V)=>?_);simp (maxSteps:=1000000) (disch:=omega) only [go_sem,Int.reduceEq,↓reduceIte,reduceCtorEq,Nat.reduceEqDiff,Nat.reduceLT,Nat.reduceLeDiff,Nat.reduceAdd,Nat.reduceSub,Nat.reduceMul,Int.reduceToNat,Int.reduceLE,Int.reduceLT,D5,lentD,boxO,keptO,waitO];(try (revert hK;intro hK;(repeat' first|(refine And.intro ?_ ?_)|(intro hc;first|cases hc|((try rw [hc]);(try simp only [stH] at hc);(try (exfalso;omega)))));all_goals first|(refine hK _ _ ?_;clear hK K;simp only [stU])|exact hK|omega)))) <;> (fail_if_success (show False;skip)))
    all_goals (refine Ends.of (nm [(0,100),(1000000,1000000),(1000001,1000001),(1000002,1000002)]) (by first|exact .inl rfl|exact .inr rfl) ?_;simp (maxSteps:=1000000) (disch:=omega) only [go_sem,Int.reduceEq,↓reduceIte,reduceCtorEq,Nat.reduceEqDiff,Nat.reduceLT,Nat.reduceLeDiff,Nat.reduceAdd,Nat.reduceSub,Nat.reduceMul,Int.reduceToNat,Int.reduceLE,Int.reduceLT,D5,List.take_length,lentD,boxO,keptO,waitO])
theorem ent_disk_Disk_Image : Ent Try.prog 15:=⟨_,Try.func15,rfl,by decide⟩
end Go.Proofs.Ytcmnblgekcjpiaa.Am
