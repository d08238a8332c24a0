import Derived.Test.YtcmnblgekcjpiaaZDR
import Derived.Test.YtcmnblgekcjpiaaZZB
set_option linter.unusedVariables false
set_option linter.unusedSimpArgs false
set_option maxRecDepth 10000
set_option maxHeartbeats 0
namespace Go.Proofs.Ytcmnblgekcjpiaa.Am
open Go Go.RowKit Go.Proofs
def dk0 (n : Nat) : Dk:=⟨List.replicate n (List.replicate 128 0),[],false,false,0,0,0,0⟩
theorem dk0_ok {n : Nat} (h : 1 ≤ n) (h2 : n ≤ 4096) : okD (dk0 n):=⟨by simpa [dk0] using h,by simpa [dk0] using h2,by intro s hs;rw [List.eq_of_mem_replicate hs];simp,by simp [dk0],by simp [dk0],by simp [dk0],by simp [dk0]⟩
def Sp_disk_New (ds : List D) (out : Out) : Prop:=∃ n : Int,ds = [.v (.int .i64 n)] ∧ out = if 1 ≤ n ∧ n ≤ 4096 then ⟨.tup [.ptr 0 0,.d (.v (.int .i64 0))],[(0,boxO 1 2 (dk0 n.toNat)),(1,keptO (dk0 n.toNat)),(2,waitO (dk0 n.toNat))]⟩
  else ⟨.tup [.d (.v (.pointer none)),.d (.v (.int .i64 1))],[]⟩
theorem good_disk_New : Good Try.prog 9 Sp_disk_New:=by
  refine good_body (E:=D0) (nt:=14) (rs:=#[.tmp 2,.tmp 3]) Try.func9 rfl rfl rfl ?_
  rintro ds out ⟨n,rfl,rfl⟩
  refine ⟨by simp,?_⟩
  by_cases hn : 1 ≤ n ∧ n ≤ 4096
  · rw [if_pos hn]
    obtain ⟨m,rfl⟩ : ∃ m : Nat,n = m:=⟨n.toNat,by omega⟩
    have hzz : List.replicate m (D.agg (List.replicate 128 (D.v (.int .u8 0)))) = (List.replicate m (List.replicate 128 (0 : Int))).map sD:=by simp [sD,mB]
    repeat' first
 | refine AW.seq ?_
 | refine AW.block ?_
 | refine AW.regl D0_ok [0,2,3,9] ?_
 | refine then_n ?_
 | refine then_r ?_
 | refine then_x ?_
 | refine block_x ?_
 | refine block_o (by decide) ?_
 | refine block_n ?_
 | refine block_r ?_
 | refine AW.skip ?_
 | refine AW.ret ?_
 | refine AW.exit ?_
 | refine AW.cond rfl ?_ ?_
 | refine awl_none rfl ?_
 | refine awl_nil2 ?_
 | refine awl_some rfl rfl (Nat.le_of_ble_eq_true rfl) rfl rfl ?_ ?_
 | (refine fun (hc : _ = _)=>?_;first|cases hc|((try rw [hc]);(try simp only [stH] at hc);(try (exfalso;omega)));(try (show Awl _ _ _ _ _;simp only [stU])))
 | ((first|refine fun (K : V → List _ → _) hK=>?_|refine fun (_ : V → V)=>?_);simp (maxSteps:=1000000) (disch:=omega) only [go_sem,Int.reduceEq,↓reduceIte,reduceCtorEq,Nat.reduceEqDiff,Nat.reduceLT,Nat.reduceLeDiff,Nat.reduceAdd,Nat.reduceSub,Nat.reduceMul,Int.reduceToNat,Int.reduceLE,Int.reduceLT,D0,List.all_replicate,List.map_replicate,List.length_replicate,hzz];(try (revert hK;intro hK;(repeat' first|(refine And.intro ?_ ?_)|(intro hc;first|cases hc|((try rw [hc]);(try simp only [stH] at hc);(try (exfalso;omega)))));all_goals first|(refine hK _ _ ?_;clear hK K;simp only [stU])|exact hK|omega)))
    refine Ends.weak (fun w0 oa a w hs=>nilB_sr 13 100 1 75 129 rfl rfl rfl (by decide) hs) ?_
    (refine Ends.of (nm [(0,13),(1,11),(2,100)]) (by first|exact .inl rfl|exact .inr rfl) ?_;simp (maxSteps:=1000000) (disch:=omega) only [go_sem,Int.reduceEq,↓reduceIte,reduceCtorEq,Nat.reduceEqDiff,Nat.reduceLT,Nat.reduceLeDiff,Nat.reduceAdd,Nat.reduceSub,Nat.reduceMul,Int.reduceToNat,Int.reduceLE,Int.reduceLT,D0,dk0,boxO,keptO,waitO,List.set_cons_succ,List.set_cons_zero,List.length_replicate])
    simp
  · rw [if_neg hn]
    repeat' first
 | refine AW.seq ?_
 | refine AW.block ?_
 | refine AW.regl D0_ok [0,2,3,9] ?_
 | refine then_n ?_
 | refine then_r ?_
 | refine then_x ?_
 | refine block_x ?_
 | refine block_o (by decide) ?_
 | refine block_n ?_
 | refine block_r ?_
 | refine AW.skip ?_
 | refine AW.ret ?_
 | refine AW.exit ?_
 | refine AW.cond rfl ?_ ?_
 | refine awl_none rfl ?_
 | refine awl_nil2 ?_
 | refine awl_some rfl rfl (Nat.le_of_ble_eq_true rfl) rfl rfl ?_ ?_
 | (refine fun (hc : _ = _)=>?_;first|cases hc|((try rw [hc]);(try simp only [stH] at hc);(try (exfalso;omega)));(try (show Awl _ _ _ _ _;simp only [stU])))
 | ((first|refine fun (K : V → List _ → _) hK=>?_|refine fun (_ : V → V)=>?_);simp (maxSteps:=1000000) (disch:=omega) only [go_sem,Int.reduceEq,↓reduceIte,reduceCtorEq,Nat.reduceEqDiff,Nat.reduceLT,Nat.reduceLeDiff,Nat.reduceAdd,Nat.reduceSub,Nat.reduceMul,Int.reduceToNat,Int.reduceLE,Int.reduceLT,D0];(try (revert hK;intro hK;(repeat' first|(refine And.intro ?_ ?_)|(intro hc;first|cases hc|((try rw [hc]);(try simp only [stH] at hc);(try (exfalso;omega)))));all_goals first|(refine hK _ _ ?_;clear hK K;simp only [stU])|exact hK|omega)))
    all_goals (refine Ends.of (nm []) (by first|exact .inl rfl|exact .inr rfl) ?_;simp (maxSteps:=1000000) (disch:=omega) only [go_sem,Int.reduceEq,↓reduceIte,reduceCtorEq,Nat.reduceEqDiff,Nat.reduceLT,Nat.reduceLeDiff,Nat.reduceAdd,Nat.reduceSub,Nat.reduceMul,Int.reduceToNat,Int.reduceLE,Int.reduceLT,D0])
theorem ent_disk_New : Ent Try.prog 9:=⟨_,Try.func9,rfl,by decide⟩
noncomputable def D2 : Env:=⟨Try.prog,fun f ds out=>False,Es,fun _=>false,fun f vs lent out=>(f = 36 ∧ Sm_disk_Disk_may vs lent out) ∨ (f = 34 ∧ Sm_disk_Disk_step vs lent out) ∨ (f = 35 ∧ Sm_sync_atomic_Int64_Add vs lent out),fun f=>if f = 36 then some [1000000,1000001,1000002] else if f = 34 then some [1000000,1000001,1000002] else if f = 35 then some [1000000,1000001,1000002] else none,fun f=>false,false,fun f=>none⟩
theorem D2_sp : ∀ f ds out,D2.Sp f ds out → Ent D2.P f ∧ Good D2.P f (fun a b=>a = ds ∧ b = out):=fun _ _ _ h=>h.elim
theorem D2_sm : ∀ f vs lent out,D2.Sm f vs lent out → Ent D2.P f ∧ GoodM D2.P f (fun a l b=>a = vs ∧ l = lent ∧ b = out):=by
  rintro f vs lent out (⟨rfl,h⟩|⟨rfl,h⟩|⟨rfl,h⟩)
  · exact ⟨ent_disk_Disk_may,goodM_disk_Disk_may.one h⟩
  · exact ⟨ent_disk_Disk_step,goodM_disk_Disk_step.one h⟩
  · exact ⟨ent_sync_atomic_Int64_Add,goodM_sync_atomic_Int64_Add.one h⟩
theorem D2_at : ∀ f k,D2.At f = some k → AtomOk D2.P f k:=fun _ _ h=>nomatch h
theorem D2_ok : D2.Ok:=⟨D2_sp,Es_ok,D2_sm,D2_at⟩
def deadN (d : Dk) : Bool:=d.dead || (d.stops && decide (d.at_ = 0))
def wrD (d : Dk) (i : Int) (s : List Int) : Dk:={ d with wt:=d.wt ++ [(i,s)],dead:=false,at_:=if d.stops = true then d.at_ - 1 else d.at_,wr:=IntKind.i64.wrap (d.wr + 1) }
def lentN (d : Dk) : List (Nat × Ob):=[(1000000,boxO 1000001 2 d),(1000001,keptO d),(2,waitO d)]
def writeOut (d : Dk) (i : Int) (s : List Int) : Out:=if ¬ (0 ≤ i ∧ i < d.kept.length) ∨ ¬ s.length = 128 then ⟨.d (.v (.int .i64 1)),lentN d⟩ else if deadN d = true then ⟨.d (.v (.int .i64 9)),lentN { d with dead:=true }⟩ else ⟨.d (.v (.int .i64 0)),lentN (wrD d i s)⟩
def Sm_disk_Disk_Write (vs : List V) (lent : List (Nat × Ob)) (out : Out) : Prop:=∃ (d : Dk) (i : Int) (s : List Int),lent = lentD 902 d ∧ vs = [.ptr 1000000 0,.d (.v (.int .i64 i)),.d (.list (s.map mB))] ∧ okD d ∧ s.length ≤ 9223372036854775807 ∧ out = writeOut d i s
theorem snoc_W (l : List (Int × List Int)) (i : Int) (s : List Int) : l.map wD ++ [D.agg (.v (.int .i64 i) :: s.map mB)] = (l ++ [(i,s)]).map wD:=by simp [wD]
theorem all_W {l : List (Int × List Int)} (h : ∀ w ∈ l,w.2.length = 128) : (∀ d ∈ l.map wD,d.cells.length = 129) = True:=by
  simp only [eq_iff_iff,iff_true]
  intro d hd
  obtain ⟨w,hw,rfl⟩:=List.mem_map.1 hd
  simp [wD,D.cells,h w hw]
theorem all_mB1 (l : List Int) : (∀ d ∈ l.map mB,d.cells = [d]) = True:=by
  simp only [eq_iff_iff,iff_true]
  intro d hd
  obtain ⟨w,_,rfl⟩:=List.mem_map.1 hd
  rfl
def bb_disk_Disk_Write_7 : List Nat:=[0,0,2,6,14,0,0,64,192,480,992,2046,4095,8191,16383]
def cc_disk_Disk_Write_7 : List (List (Option Bool)):=[[some false,none,none,none,none,none,none,none,none,none,none,none,some false,some false,some false],[none,some false,some false,some false,some false,none,none,none,none,none,none,some false,some false,some false,some false],[none,some true,some false,some false,some false,none,none,none,none,none,none,some false,some false,some false,some false],[none,some true,some true,some false,some false,none,none,none,none,none,none,some false,some false,some false,some false],[none,some true,some true,some true,some false,none,none,none,none,none,none,some false,some false,some false,some false],[none,none,none,none,none,some false,none,none,none,some false,some false,some false,some false,some false,some false],[none,none,none,none,none,none,some false,some false,some false,some false,some false,some false,some false,some false,some false],[none,none,none,none,none,none,some true,some false,some false,some false,some false,some false,some false,some false,some false],[none,none,none,none,none,none,some true,some true,some false,some false,some false,some false,some false,some false,some false],[none,none,none,none,none,some true,some true,some true,some true,some false,some false,some false,some false,some false,some false],[none,none,none,none,none,some true,some true,some true,some true,some true,some false,some false,some false,some false,some false],[none,some true,some true,some true,some true,some true,some true,some true,some true,some true,some true,some false,some false,some false,some false],[some true,some true,some true,some true,some true,some true,some true,some true,some true,some true,some true,some true,some false,some false,some false],[some true,some true,some true,some true,some true,some true,some true,some true,some true,some true,some true,some true,some true,some false,some false],[some true,some true,some true,some true,some true,some true,some true,some true,some true,some true,some true,some true,some true,some true,some false]]
theorem goodM_disk_Disk_Write : GoodM Try.prog 13 Sm_disk_Disk_Write:=by
  refine goodM_body (E:=D2) (nt:=48) (rs:=#[.tmp 6]) Try.func13 rfl rfl rfl ?_
  rintro vs lent out ⟨d,i,s,rfl,rfl,hok,hsl,rfl⟩
  refine ⟨by simp,?_⟩
  obtain ⟨kept,wt,dead,stops,at_,rd,wr,fl⟩:=d
  obtain ⟨k0,k1,kl,wl,wn,a0,a1⟩:=hok
  simp only at k0 k1 kl wl wn a0 a1
  by_cases hi : 0 ≤ i ∧ i < kept.length
  case neg =>
    have hz : decide (0 ≤ i ∧ i < (kept.length : Int)) = false:=decide_eq_false hi
    have hout : writeOut ⟨kept,wt,dead,stops,at_,rd,wr,fl⟩ i s = ⟨.d (.v (.int .i64 1)),lentN ⟨kept,wt,dead,stops,at_,rd,wr,fl⟩⟩:=by unfold writeOut;rw [if_pos (.inl hi)]
    repeat' first
 | refine AW.seq ?_
 | refine AW.block ?_
 | refine AW.regl D2_ok [0,1,2,6,15,18,22] ?_
 | (refine AW.regc (id:=7) D2_ok follows bb_disk_Disk_Write_7 (by kernel_rfl) [0,1,2,6,15,18,22] ?_)
 | refine then_n ?_
 | refine then_r ?_
 | refine then_x ?_
 | refine block_x ?_
 | refine block_o (by decide) ?_
 | refine block_n ?_
 | refine block_r ?_
 | refine AW.skip ?_
 | refine AW.ret ?_
 | refine AW.exit ?_
 | refine AW.cond rfl ?_ ?_
 | refine awl_none rfl ?_
 | refine awl_nil2 ?_
 | refine awl_some rfl rfl (Nat.le_of_ble_eq_true rfl) rfl rfl ?_ ?_
 | refine awc_none rfl ?_
 | exact each_nil
 | refine each_none rfl ?_ ?_
 | refine awc_leaf2 [some 30,some 31,some 32,some 33,some 34,some 35,some 36,some 37,some 38,some 39,some 40,some 41,some 42,some 43,none] cc_disk_Disk_Write_7 rfl (by kernel_rfl) (by kernel_rfl) ?_ ?_
 | (refine fun (hc : _ = _)=>?_;first|cases hc|((try rw [hc]);(try simp only [stH] at hc);(try (exfalso;omega)));(try ((first|show Awl _ _ _ _ _|show Awc _ _ _ _ _ _);simp only [stU])))
 | ((first|refine fun (K : V → List _ → _) hK=>?_|refine fun (_ : V → V)=>?_|refine fun (bb : Nat → Bool) K hK=>?_);simp (maxSteps:=1000000) (disch:=omega) only [go_sem,Int.reduceEq,↓reduceIte,reduceCtorEq,Nat.reduceEqDiff,Nat.reduceLT,Nat.reduceLeDiff,Nat.reduceAdd,Nat.reduceSub,Nat.reduceMul,Int.reduceToNat,Int.reduceLE,Int.reduceLT,D2,Sm_disk_Disk_may,Sm_disk_Disk_step,Sm_sync_atomic_Int64_Add,lentD,boxO,keptO,waitO,rawD,rawB,V.d.injEq,V.sl.injEq,V.ptr.injEq,Ob.box.injEq,Ob.row.injEq,hz,Sg3,St.updIf,ifc_nil,gt_ifc,go_ifc,ite_self,Option.none_or,Option.some_or];(try (revert hK;intro hK;(repeat' first|(refine And.intro ?_ ?_)|(intro hc;first|cases hc|((try rw [hc]);(try simp only [stH] at hc);(try (exfalso;omega)))));all_goals first|(refine hK _ _ ?_;clear hK K;simp only [stU])|exact hK|omega)))
    all_goals (refine Ends.of (nm [(2,902),(1000000,1000000),(1000001,1000001)]) (by first|exact .inl rfl|exact .inr rfl) ?_;simp (maxSteps:=1000000) (disch:=omega) only [go_sem,Int.reduceEq,↓reduceIte,reduceCtorEq,Nat.reduceEqDiff,Nat.reduceLT,Nat.reduceLeDiff,Nat.reduceAdd,Nat.reduceSub,Nat.reduceMul,Int.reduceToNat,Int.reduceLE,Int.reduceLT,D2,Sm_disk_Disk_may,Sm_disk_Disk_step,Sm_sync_atomic_Int64_Add,hout,lentN,boxO,keptO,waitO,rawD,rawB])
  have hz : decide (0 ≤ i ∧ i < (kept.length : Int)) = true:=decide_eq_true hi
  by_cases hs : s.length = 128
  case neg =>
    have hs' : ¬ (s.length : Int) = 128:=by omega
    have hout : writeOut ⟨kept,wt,dead,stops,at_,rd,wr,fl⟩ i s = ⟨.d (.v (.int .i64 1)),lentN ⟨kept,wt,dead,stops,at_,rd,wr,fl⟩⟩:=by unfold writeOut;rw [if_pos (.inr hs)]
    repeat' first
 | refine AW.seq ?_
 | refine AW.block ?_
 | refine AW.regl D2_ok [0,1,2,6,15,18,22] ?_
 | (refine AW.regc (id:=7) D2_ok follows bb_disk_Disk_Write_7 (by kernel_rfl) [0,1,2,6,15,18,22] ?_)
 | refine then_n ?_
 | refine then_r ?_
 | refine then_x ?_
 | refine block_x ?_
 | refine block_o (by decide) ?_
 | refine block_n ?_
 | refine block_r ?_
 | refine AW.skip ?_
 | refine AW.ret ?_
 | refine AW.exit ?_
 | refine AW.cond rfl ?_ ?_
 | refine awl_none rfl ?_
 | refine awl_nil2 ?_
 | refine awl_some rfl rfl (Nat.le_of_ble_eq_true rfl) rfl rfl ?_ ?_
 | refine awc_none rfl ?_
 | exact each_nil
 | refine each_none rfl ?_ ?_
 | refine awc_leaf2 [some 30,some 31,some 32,some 33,some 34,some 35,some 36,some 37,some 38,some 39,some 40,some 41,some 42,some 43,none] cc_disk_Disk_Write_7 rfl (by kernel_rfl) (by kernel_rfl) ?_ ?_
 | (refine fun (hc : _ = _)=>?_;first|cases hc|((try rw [hc]);(try simp only [stH] at hc);(try (exfalso;omega)));(try ((first|show Awl _ _ _ _ _|show Awc _ _ _ _ _ _);simp only [stU])))
 | ((first|refine fun (K : V → List _ → _) hK=>?_|refine fun (_ : V → V)=>?_|refine fun (bb : Nat → Bool) K hK=>?_);simp (maxSteps:=1000000) (disch:=omega) only [go_sem,Int.reduceEq,↓reduceIte,reduceCtorEq,Nat.reduceEqDiff,Nat.reduceLT,Nat.reduceLeDiff,Nat.reduceAdd,Nat.reduceSub,Nat.reduceMul,Int.reduceToNat,Int.reduceLE,Int.reduceLT,D2,Sm_disk_Disk_may,Sm_disk_Disk_step,Sm_sync_atomic_Int64_Add,lentD,boxO,keptO,waitO,rawD,rawB,V.d.injEq,V.sl.injEq,V.ptr.injEq,Ob.box.injEq,Ob.row.injEq,hz,hs',Sg3,St.updIf,ifc_nil,gt_ifc,go_ifc,ite_self,Option.none_or,Option.some_or];(try (revert hK;intro hK;(repeat' first|(refine And.intro ?_ ?_)|(intro hc;first|cases hc|((try rw [hc]);(try simp only [stH] at hc);(try (exfalso;omega)))));all_goals first|(refine hK _ _ ?_;clear hK K;simp only [stU])|exact hK|omega)))
    all_goals (refine Ends.of (nm [(2,902),(1000000,1000000),(1000001,1000001)]) (by first|exact .inl rfl|exact .inr rfl) ?_;simp (maxSteps:=1000000) (disch:=omega) only [go_sem,Int.reduceEq,↓reduceIte,reduceCtorEq,Nat.reduceEqDiff,Nat.reduceLT,Nat.reduceLeDiff,Nat.reduceAdd,Nat.reduceSub,Nat.reduceMul,Int.reduceToNat,Int.reduceLE,Int.reduceLT,D2,Sm_disk_Disk_may,Sm_disk_Disk_step,Sm_sync_atomic_Int64_Add,hout,lentN,boxO,keptO,waitO,rawD,rawB])
  have t1:=take_sec hs
  have t2:=take_secB hs
  have hsn:=snoc_W wt i s
  have h1 : ¬ (¬ (0 ≤ i ∧ i < (kept.length : Int)) ∨ ¬ s.length = 128):=by rintro (h|h);exact h hi;exact h hs
  by_cases hd : deadN ⟨kept,wt,dead,stops,at_,rd,wr,fl⟩ = true
  · have hout : writeOut ⟨kept,wt,dead,stops,at_,rd,wr,fl⟩ i s = ⟨.d (.v (.int .i64 9)),lentN ⟨kept,wt,true,stops,at_,rd,wr,fl⟩⟩:=by unfold writeOut;rw [if_neg h1,if_pos hd]
    have hdd : (dead || (stops && decide (at_ = 0))) = true:=hd
    repeat' first
 | refine AW.seq ?_
 | refine AW.block ?_
 | refine AW.regl D2_ok [0,1,2,6,15,18,22] ?_
 | (refine AW.regc (id:=7) D2_ok follows bb_disk_Disk_Write_7 (by kernel_rfl) [0,1,2,6,15,18,22] ?_)
 | refine then_n ?_
 | refine then_r ?_
 | refine then_x ?_
 | refine block_x ?_
 | refine block_o (by decide) ?_
 | refine block_n ?_
 | refine block_r ?_
 | refine AW.skip ?_
 | refine AW.ret ?_
 | refine AW.exit ?_
 | refine AW.cond rfl ?_ ?_
 | refine awl_none rfl ?_
 | refine awl_nil2 ?_
 | refine awl_some rfl rfl (Nat.le_of_ble_eq_true rfl) rfl rfl ?_ ?_
 | refine awc_none rfl ?_
 | exact each_nil
 | refine each_none rfl ?_ ?_
 | refine awc_leaf2 [some 30,some 31,some 32,some 33,some 34,some 35,some 36,some 37,some 38,some 39,some 40,some 41,some 42,some 43,none] cc_disk_Disk_Write_7 rfl (by kernel_rfl) (by kernel_rfl) ?_ ?_
 | (refine fun (hc : _ = _)=>?_;first|cases hc|((try rw [hc]);(try simp only [stH] at hc);(try (exfalso;omega)));(try ((first|show Awl _ _ _ _ _|show Awc _ _ _ _ _ _);simp only [stU])))
 | ((first|refine fun (K : V → List _ → _) hK=>?_|refine fun (_ : V → V)=>?_|refine fun (bb : Nat → Bool) K hK=>?_);simp (maxSteps:=1000000) (disch:=omega) only [go_sem,Int.reduceEq,↓reduceIte,reduceCtorEq,Nat.reduceEqDiff,Nat.reduceLT,Nat.reduceLeDiff,Nat.reduceAdd,Nat.reduceSub,Nat.reduceMul,Int.reduceToNat,Int.reduceLE,Int.reduceLT,D2,Sm_disk_Disk_may,Sm_disk_Disk_step,Sm_sync_atomic_Int64_Add,lentD,boxO,keptO,waitO,rawD,rawB,V.d.injEq,V.sl.injEq,V.ptr.injEq,Ob.box.injEq,Ob.row.injEq,hz,hs,hdd,Sg3,St.updIf,ifc_nil,gt_ifc,go_ifc,ite_self,Option.none_or,Option.some_or];(try (revert hK;intro hK;(repeat' first|(refine And.intro ?_ ?_)|(intro hc;first|cases hc|((try rw [hc]);(try simp only [stH] at hc);(try (exfalso;omega)))));all_goals first|(refine hK _ _ ?_;clear hK K;simp only [stU])|exact hK|omega)))
    all_goals (refine Ends.of (nm [(2,902),(1000000,1000000),(1000001,1000001)]) (by first|exact .inl rfl|exact .inr rfl) ?_;simp (maxSteps:=1000000) (disch:=omega) only [go_sem,Int.reduceEq,↓reduceIte,reduceCtorEq,Nat.reduceEqDiff,Nat.reduceLT,Nat.reduceLeDiff,Nat.reduceAdd,Nat.reduceSub,Nat.reduceMul,Int.reduceToNat,Int.reduceLE,Int.reduceLT,D2,Sm_disk_Disk_may,Sm_disk_Disk_step,Sm_sync_atomic_Int64_Add,hout,lentN,boxO,keptO,waitO,rawD,rawB])
  · have hout : writeOut ⟨kept,wt,dead,stops,at_,rd,wr,fl⟩ i s = ⟨.d (.v (.int .i64 0)),lentN (wrD ⟨kept,wt,dead,stops,at_,rd,wr,fl⟩ i s)⟩:=by unfold writeOut;rw [if_neg h1,if_neg hd]
    have hdd : (dead || (stops && decide (at_ = 0))) = false:=by simpa [deadN] using hd
    have hdead : dead = false:=by simp only [deadN,Bool.not_eq_true,Bool.or_eq_false_iff] at hd;exact hd.1
    subst hdead
    have haw:=all_W (l:=wt) fun w hw=>(wl w hw).1
    have hw1 : (wt ++ [(i,s)]).length = wt.length + 1:=by simp
    cases stops with
    | true =>
      have hap : 0 < at_:=by
        simp only [deadN,Bool.true_and,Bool.not_eq_true,Bool.or_eq_false_iff,decide_eq_false_iff_not] at hd
        omega
      have hat : decide (at_ = 0) = false:=decide_eq_false (by omega)
      repeat' first
 | refine AW.seq ?_
 | refine AW.block ?_
 | refine AW.regl D2_ok [0,1,2,6,15,18,22] ?_
 | (refine AW.regc (id:=7) D2_ok follows bb_disk_Disk_Write_7 (by kernel_rfl) [0,1,2,6,15,18,22] ?_)
 | refine then_n ?_
 | refine then_r ?_
 | refine then_x ?_
 | refine block_x ?_
 | refine block_o (by decide) ?_
 | refine block_n ?_
 | refine block_r ?_
 | refine AW.skip ?_
 | refine AW.ret ?_
 | refine AW.exit ?_
 | refine AW.cond rfl ?_ ?_
 | refine awl_none rfl ?_
 | refine awl_nil2 ?_
 | refine awl_some rfl rfl (Nat.le_of_ble_eq_true rfl) rfl rfl ?_ ?_
 | refine awc_none rfl ?_
 | exact each_nil
 | refine each_none rfl ?_ ?_
 | refine awc_leaf2 [some 30,some 31,some 32,some 33,some 34,some 35,some 36,some 37,some 38,some 39,some 40,some 41,some 42,some 43,none] cc_disk_Disk_Write_7 rfl (by kernel_rfl) (by kernel_rfl) ?_ ?_
 | (refine fun (hc : _ = _)=>?_;first|cases hc|((try rw [hc]);(try simp only [stH] at hc);(try (exfalso;omega)));(try ((first|show Awl _ _ _ _ _|show Awc _ _ _ _ _ _);simp only [stU])))
 | ((first|refine fun (K : V → List _ → _) hK=>?_|refine fun (_ : V → V)=>?_|refine fun (bb : Nat → Bool) K hK=>?_);simp (maxSteps:=1000000) (disch:=omega) only [go_sem,Int.reduceEq,↓reduceIte,reduceCtorEq,Nat.reduceEqDiff,Nat.reduceLT,Nat.reduceLeDiff,Nat.reduceAdd,Nat.reduceSub,Nat.reduceMul,Int.reduceToNat,Int.reduceLE,Int.reduceLT,D2,Sm_disk_Disk_may,Sm_disk_Disk_step,Sm_sync_atomic_Int64_Add,lentD,boxO,keptO,waitO,rawD,rawB,V.d.injEq,V.sl.injEq,V.ptr.injEq,Ob.box.injEq,Ob.row.injEq,hz,hs,hat,t1,t2,hsn,all_mB1,hw1,toDs_Bh,ids_B,Bool.false_or,List.all_replicate,List.map_replicate,List.length_replicate,List.drop_replicate,List.replicate_zero,Nat.sub_self,Sg3,St.updIf,ifc_nil,gt_ifc,go_ifc,ite_self,Option.none_or,Option.some_or];(try (revert hK;intro hK;(repeat' first|(refine And.intro ?_ ?_)|(intro hc;first|cases hc|((try rw [hc]);(try simp only [stH] at hc);(try (exfalso;omega)))));all_goals first|(refine hK _ _ ?_;clear hK K;simp only [stU])|exact hK|omega)))
      all_goals (refine Ends.of (nm [(2,41),(1000000,1000000),(1000001,1000001)]) (by first|exact .inl rfl|exact .inr rfl) ?_;simp (maxSteps:=1000000) (disch:=omega) only [go_sem,Int.reduceEq,↓reduceIte,reduceCtorEq,Nat.reduceEqDiff,Nat.reduceLT,Nat.reduceLeDiff,Nat.reduceAdd,Nat.reduceSub,Nat.reduceMul,Int.reduceToNat,Int.reduceLE,Int.reduceLT,D2,Sm_disk_Disk_may,Sm_disk_Disk_step,Sm_sync_atomic_Int64_Add,hout,lentN,wrD,boxO,keptO,waitO,rawD,rawB,hw1])
    | false =>
      repeat' first
 | refine AW.seq ?_
 | refine AW.block ?_
 | refine AW.regl D2_ok [0,1,2,6,15,18,22] ?_
 | (refine AW.regc (id:=7) D2_ok follows bb_disk_Disk_Write_7 (by kernel_rfl) [0,1,2,6,15,18,22] ?_)
 | refine then_n ?_
 | refine then_r ?_
 | refine then_x ?_
 | refine block_x ?_
 | refine block_o (by decide) ?_
 | refine block_n ?_
 | refine block_r ?_
 | refine AW.skip ?_
 | refine AW.ret ?_
 | refine AW.exit ?_
 | refine AW.cond rfl ?_ ?_
 | refine awl_none rfl ?_
 | refine awl_nil2 ?_
 | refine awl_some rfl rfl (Nat.le_of_ble_eq_true rfl) rfl rfl ?_ ?_
 | refine awc_none rfl ?_
 | exact each_nil
 | refine each_none rfl ?_ ?_
 | refine awc_leaf2 [some 30,some 31,some 32,some 33,some 34,some 35,some 36,some 37,some 38,some 39,some 40,some 41,some 42,some 43,none] cc_disk_Disk_Write_7 rfl (by kernel_rfl) (by kernel_rfl) ?_ ?_
 | (refine fun (hc : _ = _)=>?_;first|cases hc|((try rw [hc]);(try simp only [stH] at hc);(try (exfalso;omega)));(try ((first|show Awl _ _ _ _ _|show Awc _ _ _ _ _ _);simp only [stU])))
 | ((first|refine fun (K : V → List _ → _) hK=>?_|refine fun (_ : V → V)=>?_|refine fun (bb : Nat → Bool) K hK=>?_);simp (maxSteps:=1000000) (disch:=omega) only [go_sem,Int.reduceEq,↓reduceIte,reduceCtorEq,Nat.reduceEqDiff,Nat.reduceLT,Nat.reduceLeDiff,Nat.reduceAdd,Nat.reduceSub,Nat.reduceMul,Int.reduceToNat,Int.reduceLE,Int.reduceLT,D2,Sm_disk_Disk_may,Sm_disk_Disk_step,Sm_sync_atomic_Int64_Add,lentD,boxO,keptO,waitO,rawD,rawB,V.d.injEq,V.sl.injEq,V.ptr.injEq,Ob.box.injEq,Ob.row.injEq,hz,hs,hdd,t1,t2,hsn,all_mB1,hw1,toDs_Bh,ids_B,Bool.false_or,List.all_replicate,List.map_replicate,List.length_replicate,List.drop_replicate,List.replicate_zero,Nat.sub_self,Sg3,St.updIf,ifc_nil,gt_ifc,go_ifc,ite_self,Option.none_or,Option.some_or];(try (revert hK;intro hK;(repeat' first|(refine And.intro ?_ ?_)|(intro hc;first|cases hc|((try rw [hc]);(try simp only [stH] at hc);(try (exfalso;omega)))));all_goals first|(refine hK _ _ ?_;clear hK K;simp only [stU])|exact hK|omega)))
      all_goals (refine Ends.of (nm [(2,41),(1000000,1000000),(1000001,1000001)]) (by first|exact .inl rfl|exact .inr rfl) ?_;simp (maxSteps:=1000000) (disch:=omega) only [go_sem,Int.reduceEq,↓reduceIte,reduceCtorEq,Nat.reduceEqDiff,Nat.reduceLT,Nat.reduceLeDiff,Nat.reduceAdd,Nat.reduceSub,Nat.reduceMul,Int.reduceToNat,Int.reduceLE,Int.reduceLT,D2,Sm_disk_Disk_may,Sm_disk_Disk_step,Sm_sync_atomic_Int64_Add,hout,lentN,wrD,boxO,keptO,waitO,rawD,rawB,hw1])
theorem ent_disk_Disk_Write : Ent Try.prog 13:=⟨_,Try.func13,rfl,by decide⟩
end Go.Proofs.Ytcmnblgekcjpiaa.Am
