import Derived.Test.YtcmnblgekcjpiaaZDW
set_option linter.unusedVariables false
set_option linter.unusedSimpArgs false
set_option maxRecDepth 10000
set_option maxHeartbeats 0
namespace Go.Proofs.Ytcmnblgekcjpiaa.Am
open Go Go.RowKit Go.Proofs
def putW (k : List (List Int)) (w : Int × List Int) : List (List Int):=k.set w.1.toNat w.2
def applyW (k : List (List Int)) (l : List (Int × List Int)) : List (List Int):=l.foldl putW k
theorem applyW_snoc (k : List (List Int)) (l : List (Int × List Int)) (w : Int × List Int) : applyW k (l ++ [w]) = putW (applyW k l) w:=by simp [applyW,List.foldl_append]
theorem applyW_len (k : List (List Int)) : ∀ l : List (Int × List Int),(applyW k l).length = k.length:=by
  intro l
  induction l generalizing k with
  | nil=>rfl
  | cons w l ih=>show (applyW (putW k w) l).length = k.length;rw [ih];simp [putW]
theorem applyW_sec {k : List (List Int)} (hk : ∀ s ∈ k,s.length = 128) : ∀ {l : List (Int × List Int)},(∀ w ∈ l,w.2.length = 128) → ∀ s ∈ applyW k l,s.length = 128:=by
  intro l
  induction l generalizing k with
  | nil=>exact fun _=>hk
  | cons w l ih =>
    intro h
    refine ih (k:=putW k w) (fun s hs=>?_) fun x hx=>h x (List.mem_cons_of_mem _ hx)
    rcases List.mem_or_eq_of_mem_set hs with h1|rfl
    · exact hk s h1
    · exact h w (List.mem_cons_self ..)
theorem set_S (k : List (List Int)) (q : Nat) (s : List Int) : (k.map sD).set q (.agg (s.map mB)) = (putW k ((q : Int),s)).map sD:=by
  simp [putW,List.map_set,sD]
theorem pu_B (l : List Int) : ((l.map mB).map V.d).all pu1 = true:=by simp [pu1]
theorem drop_secB {s : List Int} (h : s.length = 128) : (s.map mB).drop 128 = []:=List.drop_eq_nil_of_le (by simp [h])
theorem put_len (k : List (List Int)) (w : Int × List Int) : (putW k w).length = k.length:=by simp [putW]
def flD (d : Dk) : Dk:={ d with kept:=applyW d.kept d.wt,wt:=[],dead:=false,fl:=IntKind.i64.wrap (d.fl + 1) }
def flushOut (d : Dk) : Out:=if deadN d = true then ⟨.d (.v (.int .i64 9)),lentN { d with dead:=true }⟩ else ⟨.d (.v (.int .i64 0)),lentN (flD d)⟩
def Sm_disk_Disk_Flush (vs : List V) (lent : List (Nat × Ob)) (out : Out) : Prop:=∃ d : Dk,lent = lentD 902 d ∧ vs = [.ptr 1000000 0] ∧ okD d ∧ out = flushOut d
noncomputable def D4 : Env:=⟨Try.prog,fun f ds out=>False,Es,fun _=>false,fun f vs lent out=>(f = 34 ∧ Sm_disk_Disk_step vs lent out) ∨ (f = 35 ∧ Sm_sync_atomic_Int64_Add vs lent out),fun f=>if f = 34 then some [1000000,1000001,1000002] else if f = 35 then some [1000000,1000001,1000002] else none,fun f=>false,false,fun f=>none⟩
theorem D4_sp : ∀ f ds out,D4.Sp f ds out → Ent D4.P f ∧ Good D4.P f (fun a b=>a = ds ∧ b = out):=fun _ _ _ h=>h.elim
theorem D4_sm : ∀ f vs lent out,D4.Sm f vs lent out → Ent D4.P f ∧ GoodM D4.P f (fun a l b=>a = vs ∧ l = lent ∧ b = out):=by
  rintro f vs lent out (⟨rfl,h⟩|⟨rfl,h⟩)
  · exact ⟨ent_disk_Disk_step,goodM_disk_Disk_step.one h⟩
  · exact ⟨ent_sync_atomic_Int64_Add,goodM_sync_atomic_Int64_Add.one h⟩
theorem D4_at : ∀ f k,D4.At f = some k → AtomOk D4.P f k:=fun _ _ h=>nomatch h
theorem D4_ok : D4.Ok:=⟨D4_sp,Es_ok,D4_sm,D4_at⟩
def bb_disk_Disk_Flush_6 : List Nat:=[0,1,3,7,0,16,0,64,255,511]
theorem goodM_disk_Disk_Flush : GoodM Try.prog 11 Sm_disk_Disk_Flush:=by
  refine goodM_body (E:=D4) (nt:=34) (rs:=#[.tmp 2]) Try.func11 rfl rfl rfl ?_
  rintro vs lent out ⟨d,rfl,rfl,hok,rfl⟩
  refine ⟨by simp,?_⟩
  obtain ⟨kept,wt,dead,stops,at_,rd,wr,fl⟩:=d
  obtain ⟨k0,k1,kl,wl,wn,a0,a1⟩:=hok
  simp only at k0 k1 kl wl wn a0 a1
  by_cases hd : deadN ⟨kept,wt,dead,stops,at_,rd,wr,fl⟩ = true
  · have hout : flushOut ⟨kept,wt,dead,stops,at_,rd,wr,fl⟩ = ⟨.d (.v (.int .i64 9)),lentN ⟨kept,wt,true,stops,at_,rd,wr,fl⟩⟩:=by unfold flushOut;rw [if_pos hd]
    have hdd : (dead || (stops && decide (at_ = 0))) = true:=hd
    repeat' first
 | refine AW.seq ?_
 | refine AW.block ?_
 | refine AW.regl D4_ok [0,2,4,7,11,12,13,14] ?_
 | (refine AW.regq (id:=6) D4_ok follows bb_disk_Disk_Flush_6 (by kernel_rfl) [0,2,4,7,11,12,13,14] ?_)
 | refine then_n ?_
 | refine then_r ?_
 | refine then_x ?_
 | refine block_x ?_
 | refine block_o (by decide) ?_
 | refine block_n ?_
 | refine block_r ?_
 | refine AW.skip ?_
 | refine AW.ret ?_
 | refine AW.exit ?_
 | refine AW.cond rfl ?_ ?_
 | refine awl_none rfl ?_
 | refine awl_nil2 ?_
 | refine awc_none rfl ?_
 | refine awc_nilq (by kernel_rfl) (by kernel_rfl) ?_
 | (refine fun (hc : _ = _)=>?_;first|cases hc|((try rw [hc]);(try simp only [stH] at hc);(try (exfalso;omega)));(try ((first|show Awl _ _ _ _ _|show Awc _ _ _ _ _ _);simp only [stU])))
 | ((first|refine fun (K : V → List _ → _) hK=>?_|refine fun (_ : V → V)=>?_);simp (maxSteps:=1000000) (disch:=omega) only [go_sem,Int.reduceEq,↓reduceIte,reduceCtorEq,Nat.reduceEqDiff,Nat.reduceLT,Nat.reduceLeDiff,Nat.reduceAdd,Nat.reduceSub,Nat.reduceMul,Int.reduceToNat,Int.reduceLE,Int.reduceLT,D4,Sm_disk_Disk_step,Sm_sync_atomic_Int64_Add,lentD,boxO,keptO,waitO,rawD,rawB,V.d.injEq,V.sl.injEq,V.ptr.injEq,Ob.box.injEq,Ob.row.injEq,hdd,Sg3,St.updIf,ifc_nil,gt_ifc,go_ifc,ite_self,Option.none_or,Option.some_or];(try (revert hK;intro hK;(repeat' first|(refine And.intro ?_ ?_)|(intro hc;first|cases hc|((try rw [hc]);(try simp only [stH] at hc);(try (exfalso;omega)))));all_goals first|(refine hK _ _ ?_;clear hK K;simp only [stU])|exact hK|omega)))
    all_goals (refine Ends.of (nm [(2,902),(1000000,1000000),(1000001,1000001)]) (by first|exact .inl rfl|exact .inr rfl) ?_;simp (maxSteps:=1000000) (disch:=omega) only [go_sem,Int.reduceEq,↓reduceIte,reduceCtorEq,Nat.reduceEqDiff,Nat.reduceLT,Nat.reduceLeDiff,Nat.reduceAdd,Nat.reduceSub,Nat.reduceMul,Int.reduceToNat,Int.reduceLE,Int.reduceLT,D4,Sm_disk_Disk_step,Sm_sync_atomic_Int64_Add,hout,lentN,boxO,keptO,waitO,rawD,rawB])
  have hout : flushOut ⟨kept,wt,dead,stops,at_,rd,wr,fl⟩ = ⟨.d (.v (.int .i64 0)),lentN (flD ⟨kept,wt,dead,stops,at_,rd,wr,fl⟩)⟩:=by unfold flushOut;rw [if_neg hd]
  have hdd : (dead || (stops && decide (at_ = 0))) = false:=by simpa [deadN] using hd
  refine AW.w4 ⟨[(0,.ptr 1000000 0)],[(1000000,.box [.sl 1000001 128 0 kept.length true,.sl 50 129 0 0 true,.d (.v (.bool false)),.d (.v (.bool stops)),.d (.v (.int .i64 at_)),.d (.v (.int .i64 rd)),.d (.v (.int .i64 wr)),.d (.v (.int .i64 fl))]),(1000001,.row 73 128 ((applyW kept wt).map sD)),(50,.row 75 129 [])],34⟩ ?_ ?_
  · repeat' first
 | refine AW.seq ?_
 | refine AW.block ?_
 | refine AW.regl D4_ok [0,2,4,7,11,12,13,14] ?_
 | (refine AW.regq (id:=6) D4_ok follows bb_disk_Disk_Flush_6 (by kernel_rfl) [0,2,4,7,11,12,13,14] ?_)
 | refine then_n ?_
 | refine then_r ?_
 | refine then_x ?_
 | refine block_x ?_
 | refine block_o (by decide) ?_
 | refine block_n ?_
 | refine block_r ?_
 | refine AW.skip ?_
 | refine AW.ret ?_
 | refine AW.exit ?_
 | refine AW.cond rfl ?_ ?_
 | refine awl_none rfl ?_
 | refine awl_nil2 ?_
 | refine awc_none rfl ?_
 | refine awc_nilq (by kernel_rfl) (by kernel_rfl) ?_
 | (refine fun (hc : _ = _)=>?_;first|cases hc|((try rw [hc]);(try simp only [stH] at hc);(try (exfalso;omega)));(try ((first|show Awl _ _ _ _ _|show Awc _ _ _ _ _ _);simp only [stU])))
 | ((first|refine fun (K : V → List _ → _) hK=>?_|refine fun (_ : V → V)=>?_);simp (maxSteps:=1000000) (disch:=omega) only [go_sem,Int.reduceEq,↓reduceIte,reduceCtorEq,Nat.reduceEqDiff,Nat.reduceLT,Nat.reduceLeDiff,Nat.reduceAdd,Nat.reduceSub,Nat.reduceMul,Int.reduceToNat,Int.reduceLE,Int.reduceLT,D4,Sm_disk_Disk_step,Sm_sync_atomic_Int64_Add,lentD,boxO,keptO,waitO,rawD,rawB,V.d.injEq,V.sl.injEq,V.ptr.injEq,Ob.box.injEq,Ob.row.injEq,hdd,Sg3,St.updIf,ifc_nil,gt_ifc,go_ifc,ite_self,Option.none_or,Option.some_or];(try (revert hK;intro hK;(repeat' first|(refine And.intro ?_ ?_)|(intro hc;first|cases hc|((try rw [hc]);(try simp only [stH] at hc);(try (exfalso;omega)))));all_goals first|(refine hK _ _ ?_;clear hK K;simp only [stU])|exact hK|omega)))
    refine AW.loop_wk (fun k : Nat=>⟨[(0,.ptr 1000000 0),(11,.sl 902 129 0 wt.length true),(12,.d (.v (.int .i64 wt.length))),(13,.d (.v (.int .i64 k)))],[(1000000,.box [.sl 1000001 128 0 kept.length true,.sl 902 129 0 wt.length true,.d (.v (.bool false)),.d (.v (.bool stops)),.d (.v (.int .i64 at_)),.d (.v (.int .i64 rd)),.d (.v (.int .i64 wr)),.d (.v (.int .i64 fl))]),(1000001,.row 73 128 ((applyW kept (wt.take k)).map sD)),(902,.row 75 129 (wt.map wD))],34⟩)
      (fun k=>k ≤ wt.length) (fun k=>wt.length - k) 0 (Nat.zero_le _) (fun w0 oa a w hs=>Wk.sr (ρ:=nm []) (Wk.of ?_) hs) ?_
    · have h0 : applyW kept [] = kept:=rfl
      simp (maxSteps:=1000000) (disch:=omega) only [go_sem,Int.reduceEq,↓reduceIte,reduceCtorEq,Nat.reduceEqDiff,Nat.reduceLT,Nat.reduceLeDiff,Nat.reduceAdd,Nat.reduceSub,Nat.reduceMul,Int.reduceToNat,Int.reduceLE,Int.reduceLT,D4,Sm_disk_Disk_step,Sm_sync_atomic_Int64_Add,h0]
    intro k hk
    have hKl:=applyW_len kept (wt.take k)
    by_cases hk1 : k < wt.length
    · have e1:=nth_W wt k hk1
      have hwk:=wl _ (show wt.getD k (0,[]) ∈ wt by rw [List.getD_eq_getElem?_getD,List.getElem?_eq_getElem hk1];exact List.getElem_mem hk1)
      have hsn : applyW kept (wt.take (k + 1)) = putW (applyW kept (wt.take k)) (wt.getD k (0,[])):=by rw [wt_take hk1,applyW_snoc]
      have hKs:=applyW_sec kl (l:=wt.take k) fun w hw=>(wl w (List.mem_of_mem_take hw)).1
      obtain ⟨⟨wi,ws⟩,hw⟩ : ∃ w,wt.getD k (0,[]) = w:=⟨_,rfl⟩
      rw [hw] at e1 hwk hsn
      simp only at e1 hwk
      obtain ⟨hw1,hw2,hw3⟩:=hwk
      obtain ⟨q,rfl⟩ : ∃ q : Nat,wi = q:=⟨wi.toNat,by omega⟩
      obtain ⟨K,hK⟩ : ∃ K,applyW kept (wt.take k) = K:=⟨_,rfl⟩
      rw [hK] at hKl hsn hKs
      have hq : q < K.length:=by omega
      have e0:=nth_S K q hq
      have hol : (K.getD q []).length = 128:=hKs _ (by rw [List.getD_eq_getElem?_getD,List.getElem?_eq_getElem hq];exact List.getElem_mem hq)
      obtain ⟨old,hold⟩ : ∃ old,K.getD q [] = old:=⟨_,rfl⟩
      rw [hold] at e0 hol
      have t1:=take_sec hw1
      have t2:=drop_secB hol
      have t3:=toDs_B ws
      have t4:=pu_B ws
      have t5:=set_S K q ws
      repeat' ((first
 | refine AW.seq ?_
 | refine AW.block ?_
 | refine AW.regl D4_ok [0,2,4,7,11,12,13,14] ?_
 | (refine AW.regq (id:=6) D4_ok follows bb_disk_Disk_Flush_6 (by kernel_rfl) [0,2,4,7,11,12,13,14] ?_)
 | refine then_n ?_
 | refine then_r ?_
 | refine then_x ?_
 | refine block_x ?_
 | refine block_o (by decide) ?_
 | refine block_n ?_
 | refine block_r ?_
 | refine AW.skip ?_
 | refine AW.ret ?_
 | refine AW.exit ?_
 | refine AW.cond rfl ?_ ?_
 | refine awl_none rfl ?_
 | refine awl_nil2 ?_
 | refine awc_none rfl ?_
 | refine awc_nilq (by kernel_rfl) (by kernel_rfl) ?_
 | (refine fun (hc : _ = _)=>?_;first|cases hc|((try rw [hc]);(try simp only [stH] at hc);(try (exfalso;omega)));(try ((first|show Awl _ _ _ _ _|show Awc _ _ _ _ _ _);simp only [stU])))
 | ((first|refine fun (K : V → List _ → _) hK=>?_|refine fun (_ : V → V)=>?_);simp (maxSteps:=1000000) (disch:=omega) only [go_sem,Int.reduceEq,↓reduceIte,reduceCtorEq,Nat.reduceEqDiff,Nat.reduceLT,Nat.reduceLeDiff,Nat.reduceAdd,Nat.reduceSub,Nat.reduceMul,Int.reduceToNat,Int.reduceLE,Int.reduceLT,D4,Sm_disk_Disk_step,Sm_sync_atomic_Int64_Add,hK,e1,e0,hw1,hol,t1,t2,t3,t4,t5,hKl,List.all_replicate,List.map_replicate,List.length_replicate,List.drop_replicate,List.replicate_zero,Nat.sub_self,Sg3,St.updIf,ifc_nil,gt_ifc,go_ifc,ite_self,Option.none_or,Option.some_or];(try (revert hK;intro hK;(repeat' first|(refine And.intro ?_ ?_)|(intro hc;first|cases hc|((try rw [hc]);(try simp only [stH] at hc);(try (exfalso;omega)))));all_goals first|(refine hK _ _ ?_;clear hK K;simp only [stU])|exact hK|omega)))) <;> (fail_if_success (show False;skip)))
      refine ⟨k + 1,by omega,by omega,nm [],Wk.of ?_⟩
      simp (maxSteps:=1000000) (disch:=omega) only [go_sem,Int.reduceEq,↓reduceIte,reduceCtorEq,Nat.reduceEqDiff,Nat.reduceLT,Nat.reduceLeDiff,Nat.reduceAdd,Nat.reduceSub,Nat.reduceMul,Int.reduceToNat,Int.reduceLE,Int.reduceLT,D4,Sm_disk_Disk_step,Sm_sync_atomic_Int64_Add,hsn]
      rfl
    · obtain rfl : k = wt.length:=by omega
      repeat' ((first
 | refine AW.seq ?_
 | refine AW.block ?_
 | refine AW.regl D4_ok [0,2,4,7,11,12,13,14] ?_
 | (refine AW.regq (id:=6) D4_ok follows bb_disk_Disk_Flush_6 (by kernel_rfl) [0,2,4,7,11,12,13,14] ?_)
 | refine then_n ?_
 | refine then_r ?_
 | refine then_x ?_
 | refine block_x ?_
 | refine block_o (by decide) ?_
 | refine block_n ?_
 | refine block_r ?_
 | refine AW.skip ?_
 | refine AW.ret ?_
 | refine AW.exit ?_
 | refine AW.cond rfl ?_ ?_
 | refine awl_none rfl ?_
 | refine awl_nil2 ?_
 | refine awc_none rfl ?_
 | refine awc_nilq (by kernel_rfl) (by kernel_rfl) ?_
 | (refine fun (hc : _ = _)=>?_;first|cases hc|((try rw [hc]);(try simp only [stH] at hc);(try (exfalso;omega)));(try ((first|show Awl _ _ _ _ _|show Awc _ _ _ _ _ _);simp only [stU])))
 | ((first|refine fun (K : V → List _ → _) hK=>?_|refine fun (_ : V → V)=>?_);simp (maxSteps:=1000000) (disch:=omega) only [go_sem,Int.reduceEq,↓reduceIte,reduceCtorEq,Nat.reduceEqDiff,Nat.reduceLT,Nat.reduceLeDiff,Nat.reduceAdd,Nat.reduceSub,Nat.reduceMul,Int.reduceToNat,Int.reduceLE,Int.reduceLT,D4,Sm_disk_Disk_step,Sm_sync_atomic_Int64_Add,List.take_length,Sg3,St.updIf,ifc_nil,gt_ifc,go_ifc,ite_self,Option.none_or,Option.some_or];(try (revert hK;intro hK;(repeat' first|(refine And.intro ?_ ?_)|(intro hc;first|cases hc|((try rw [hc]);(try simp only [stH] at hc);(try (exfalso;omega)))));all_goals first|(refine hK _ _ ?_;clear hK K;simp only [stU])|exact hK|omega)))) <;> (fail_if_success (show False;skip)))
      refine ⟨fun w0 oa a w hs=>Wk.sr (ρ:=nm []) (Wk.of ?_) (nilB_sr 1000000 50 1 75 129 rfl rfl rfl (by decide) hs)⟩
      simp (maxSteps:=1000000) (disch:=omega) only [go_sem,Int.reduceEq,↓reduceIte,reduceCtorEq,Nat.reduceEqDiff,Nat.reduceLT,Nat.reduceLeDiff,Nat.reduceAdd,Nat.reduceSub,Nat.reduceMul,Int.reduceToNat,Int.reduceLE,Int.reduceLT,D4,Sm_disk_Disk_step,Sm_sync_atomic_Int64_Add,List.set_cons_succ,List.set_cons_zero,List.take_length]
  repeat' first
 | refine AW.seq ?_
 | refine AW.block ?_
 | refine AW.regl D4_ok [0,2,4,7,11,12,13,14] ?_
 | (refine AW.regq (id:=6) D4_ok follows bb_disk_Disk_Flush_6 (by kernel_rfl) [0,2,4,7,11,12,13,14] ?_)
 | refine then_n ?_
 | refine then_r ?_
 | refine then_x ?_
 | refine block_x ?_
 | refine block_o (by decide) ?_
 | refine block_n ?_
 | refine block_r ?_
 | refine AW.skip ?_
 | refine AW.ret ?_
 | refine AW.exit ?_
 | refine AW.cond rfl ?_ ?_
 | refine awl_none rfl ?_
 | refine awl_nil2 ?_
 | refine awc_none rfl ?_
 | refine awc_nilq (by kernel_rfl) (by kernel_rfl) ?_
 | (refine fun (hc : _ = _)=>?_;first|cases hc|((try rw [hc]);(try simp only [stH] at hc);(try (exfalso;omega)));(try ((first|show Awl _ _ _ _ _|show Awc _ _ _ _ _ _);simp only [stU])))
 | ((first|refine fun (K : V → List _ → _) hK=>?_|refine fun (_ : V → V)=>?_);simp (maxSteps:=1000000) (disch:=omega) only [go_sem,Int.reduceEq,↓reduceIte,reduceCtorEq,Nat.reduceEqDiff,Nat.reduceLT,Nat.reduceLeDiff,Nat.reduceAdd,Nat.reduceSub,Nat.reduceMul,Int.reduceToNat,Int.reduceLE,Int.reduceLT,D4,Sm_disk_Disk_step,Sm_sync_atomic_Int64_Add,rawD,rawB,V.d.injEq,V.sl.injEq,V.ptr.injEq,Ob.box.injEq,Ob.row.injEq,Sg3,St.updIf,ifc_nil,gt_ifc,go_ifc,ite_self,Option.none_or,Option.some_or];(try (revert hK;intro hK;(repeat' first|(refine And.intro ?_ ?_)|(intro hc;first|cases hc|((try rw [hc]);(try simp only [stH] at hc);(try (exfalso;omega)))));all_goals first|(refine hK _ _ ?_;clear hK K;simp only [stU])|exact hK|omega)))
  have hal:=applyW_len kept wt
  all_goals (refine Ends.of (nm [(2,50),(1000000,1000000),(1000001,1000001)]) (by first|exact .inl rfl|exact .inr rfl) ?_;simp (maxSteps:=1000000) (disch:=omega) only [go_sem,Int.reduceEq,↓reduceIte,reduceCtorEq,Nat.reduceEqDiff,Nat.reduceLT,Nat.reduceLeDiff,Nat.reduceAdd,Nat.reduceSub,Nat.reduceMul,Int.reduceToNat,Int.reduceLE,Int.reduceLT,D4,Sm_disk_Disk_step,Sm_sync_atomic_Int64_Add,hout,hal,flD,lentN,boxO,keptO,waitO,rawD,rawB])
theorem ent_disk_Disk_Flush : Ent Try.prog 11:=⟨_,Try.func11,rfl,by decide⟩
noncomputable def D3 : Env:=⟨Try.prog,fun f ds out=>False,Es,fun _=>false,fun f vs lent out=>False,fun f=>none,fun f=>false,false,fun f=>none⟩
theorem D3_sp : ∀ f ds out,D3.Sp f ds out → Ent D3.P f ∧ Good D3.P f (fun a b=>a = ds ∧ b = out):=fun _ _ _ h=>h.elim
theorem D3_sm : ∀ f vs lent out,D3.Sm f vs lent out → Ent D3.P f ∧ GoodM D3.P f (fun a l b=>a = vs ∧ l = lent ∧ b = out):=fun _ _ _ _ h=>h.elim
theorem D3_at : ∀ f k,D3.At f = some k → AtomOk D3.P f k:=fun _ _ h=>nomatch h
theorem D3_ok : D3.Ok:=⟨D3_sp,Es_ok,D3_sm,D3_at⟩
def Sm_disk_Disk_Waiting (vs : List V) (lent : List (Nat × Ob)) (out : Out) : Prop:=∃ d : Dk,lent = lentD 1000002 d ∧ vs = [.ptr 1000000 0] ∧ out = ⟨.d (.v (.int .i64 d.wt.length)),lentD 1000002 d⟩
theorem goodM_disk_Disk_Waiting : GoodM Try.prog 12 Sm_disk_Disk_Waiting:=by
  refine goodM_body (E:=D3) (nt:=8) (rs:=#[.tmp 2]) Try.func12 rfl rfl rfl ?_
  rintro vs lent out ⟨d,rfl,rfl,rfl⟩
  refine ⟨by simp,?_⟩
  repeat' first
 | refine AW.seq ?_
 | refine AW.block ?_
 | refine AW.regl D3_ok [0,2] ?_
 | refine then_n ?_
 | refine then_r ?_
 | refine then_x ?_
 | refine block_x ?_
 | refine block_o (by decide) ?_
 | refine block_n ?_
 | refine block_r ?_
 | refine AW.skip ?_
 | refine AW.ret ?_
 | refine AW.exit ?_
 | refine AW.cond rfl ?_ ?_
 | refine awl_none rfl ?_
 | refine awl_nil2 ?_
 | (refine fun (hc : _ = _)=>?_;first|cases hc|((try rw [hc]);(try simp only [stH] at hc);(try (exfalso;omega)));(try (show Awl _ _ _ _ _;simp only [stU])))
 | ((first|refine fun (K : V → List _ → _) hK=>?_|refine fun (_ : V → V)=>?_);simp (maxSteps:=1000000) (disch:=omega) only [go_sem,Int.reduceEq,↓reduceIte,reduceCtorEq,Nat.reduceEqDiff,Nat.reduceLT,Nat.reduceLeDiff,Nat.reduceAdd,Nat.reduceSub,Nat.reduceMul,Int.reduceToNat,Int.reduceLE,Int.reduceLT,D3,lentD,boxO,keptO,waitO];(try (revert hK;intro hK;(repeat' first|(refine And.intro ?_ ?_)|(intro hc;first|cases hc|((try rw [hc]);(try simp only [stH] at hc);(try (exfalso;omega)))));all_goals first|(refine hK _ _ ?_;clear hK K;simp only [stU])|exact hK|omega)))
  all_goals (refine Ends.of (nm [(1000000,1000000),(1000001,1000001),(1000002,1000002)]) (by first|exact .inl rfl|exact .inr rfl) ?_;simp (maxSteps:=1000000) (disch:=omega) only [go_sem,Int.reduceEq,↓reduceIte,reduceCtorEq,Nat.reduceEqDiff,Nat.reduceLT,Nat.reduceLeDiff,Nat.reduceAdd,Nat.reduceSub,Nat.reduceMul,Int.reduceToNat,Int.reduceLE,Int.reduceLT,D3,lentD,boxO,keptO,waitO])
theorem ent_disk_Disk_Waiting : Ent Try.prog 12:=⟨_,Try.func12,rfl,by decide⟩
def Sm_disk_Disk_Dead (vs : List V) (lent : List (Nat × Ob)) (out : Out) : Prop:=∃ d : Dk,lent = lentD 1000002 d ∧ vs = [.ptr 1000000 0] ∧ out = ⟨.d (.v (.bool d.dead)),lentD 1000002 d⟩
theorem goodM_disk_Disk_Dead : GoodM Try.prog 21 Sm_disk_Disk_Dead:=by
  refine goodM_body (E:=D3) (nt:=7) (rs:=#[.tmp 2]) Try.func21 rfl rfl rfl ?_
  rintro vs lent out ⟨d,rfl,rfl,rfl⟩
  refine ⟨by simp,?_⟩
  repeat' first
 | refine AW.seq ?_
 | refine AW.block ?_
 | refine AW.regl D3_ok [0,2] ?_
 | refine then_n ?_
 | refine then_r ?_
 | refine then_x ?_
 | refine block_x ?_
 | refine block_o (by decide) ?_
 | refine block_n ?_
 | refine block_r ?_
 | refine AW.skip ?_
 | refine AW.ret ?_
 | refine AW.exit ?_
 | refine AW.cond rfl ?_ ?_
 | refine awl_none rfl ?_
 | refine awl_nil2 ?_
 | (refine fun (hc : _ = _)=>?_;first|cases hc|((try rw [hc]);(try simp only [stH] at hc);(try (exfalso;omega)));(try (show Awl _ _ _ _ _;simp only [stU])))
 | ((first|refine fun (K : V → List _ → _) hK=>?_|refine fun (_ : V → V)=>?_);simp (maxSteps:=1000000) (disch:=omega) only [go_sem,Int.reduceEq,↓reduceIte,reduceCtorEq,Nat.reduceEqDiff,Nat.reduceLT,Nat.reduceLeDiff,Nat.reduceAdd,Nat.reduceSub,Nat.reduceMul,Int.reduceToNat,Int.reduceLE,Int.reduceLT,D3,lentD,boxO,keptO,waitO];(try (revert hK;intro hK;(repeat' first|(refine And.intro ?_ ?_)|(intro hc;first|cases hc|((try rw [hc]);(try simp only [stH] at hc);(try (exfalso;omega)))));all_goals first|(refine hK _ _ ?_;clear hK K;simp only [stU])|exact hK|omega)))
  all_goals (refine Ends.of (nm [(1000000,1000000),(1000001,1000001),(1000002,1000002)]) (by first|exact .inl rfl|exact .inr rfl) ?_;simp (maxSteps:=1000000) (disch:=omega) only [go_sem,Int.reduceEq,↓reduceIte,reduceCtorEq,Nat.reduceEqDiff,Nat.reduceLT,Nat.reduceLeDiff,Nat.reduceAdd,Nat.reduceSub,Nat.reduceMul,Int.reduceToNat,Int.reduceLE,Int.reduceLT,D3,lentD,boxO,keptO,waitO])
theorem ent_disk_Disk_Dead : Ent Try.prog 21:=⟨_,Try.func21,rfl,by decide⟩
def stpD (d : Dk) (n : Int) : Dk:={ d with stops:=true,at_:=max 0 n }
def Sm_disk_Disk_Stop (vs : List V) (lent : List (Nat × Ob)) (out : Out) : Prop:=∃ (d : Dk) (n : Int),lent = lentD 1000002 d ∧ vs = [.ptr 1000000 0,.d (.v (.int .i64 n))] ∧ out = ⟨.tup [],lentD 1000002 (stpD d n)⟩
theorem goodM_disk_Disk_Stop : GoodM Try.prog 20 Sm_disk_Disk_Stop:=by
  refine goodM_body (E:=D3) (nt:=12) (rs:=#[]) Try.func20 rfl rfl rfl ?_
  rintro vs lent out ⟨d,n,rfl,rfl,rfl⟩
  refine ⟨by simp,?_⟩
  repeat' first
 | refine AW.seq ?_
 | refine AW.block ?_
 | refine AW.regl D3_ok [0,1] ?_
 | refine then_n ?_
 | refine then_r ?_
 | refine then_x ?_
 | refine block_x ?_
 | refine block_o (by decide) ?_
 | refine block_n ?_
 | refine block_r ?_
 | refine AW.skip ?_
 | refine AW.ret ?_
 | refine AW.exit ?_
 | refine AW.cond rfl ?_ ?_
 | refine awl_none rfl ?_
 | refine awl_nil2 ?_
 | (refine fun (hc : _ = _)=>?_;first|cases hc|((try rw [hc]);(try simp only [stH] at hc);(try (exfalso;omega)));(try (show Awl _ _ _ _ _;simp only [stU])))
 | ((first|refine fun (K : V → List _ → _) hK=>?_|refine fun (_ : V → V)=>?_);simp (maxSteps:=1000000) (disch:=omega) only [go_sem,Int.reduceEq,↓reduceIte,reduceCtorEq,Nat.reduceEqDiff,Nat.reduceLT,Nat.reduceLeDiff,Nat.reduceAdd,Nat.reduceSub,Nat.reduceMul,Int.reduceToNat,Int.reduceLE,Int.reduceLT,D3,lentD,boxO,keptO,waitO];(try (revert hK;intro hK;(repeat' first|(refine And.intro ?_ ?_)|(intro hc;first|cases hc|((try rw [hc]);(try simp only [stH] at hc);(try (exfalso;omega)))));all_goals first|(refine hK _ _ ?_;clear hK K;simp only [stU])|exact hK|omega)))
  all_goals (refine Ends.of (nm [(1000000,1000000),(1000001,1000001),(1000002,1000002)]) (by first|exact .inl rfl|exact .inr rfl) ?_;simp (maxSteps:=1000000) (disch:=omega) only [go_sem,Int.reduceEq,↓reduceIte,reduceCtorEq,Nat.reduceEqDiff,Nat.reduceLT,Nat.reduceLeDiff,Nat.reduceAdd,Nat.reduceSub,Nat.reduceMul,Int.reduceToNat,Int.reduceLE,Int.reduceLT,D3,stpD,lentD,boxO,keptO,waitO])
theorem ent_disk_Disk_Stop : Ent Try.prog 20:=⟨_,Try.func20,rfl,by decide⟩
end Go.Proofs.Ytcmnblgekcjpiaa.Am
