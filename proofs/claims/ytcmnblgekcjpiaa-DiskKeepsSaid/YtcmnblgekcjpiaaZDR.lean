import Derived.Test.YtcmnblgekcjpiaaZDK
set_option linter.unusedVariables false
set_option linter.unusedSimpArgs false
set_option maxRecDepth 10000
set_option maxHeartbeats 0
namespace Go.Proofs.Ytcmnblgekcjpiaa.Am
open Go Go.RowKit Go.Proofs
def lastW (i : Int) (cur : List Int) (l : List (Int × List Int)) : List Int:=l.foldl (fun c w=>if w.1 = i then w.2 else c) cur
theorem lastW_snoc (i : Int) (cur : List Int) (l : List (Int × List Int)) (w : Int × List Int) : lastW i cur (l ++ [w]) = if w.1 = i then w.2 else lastW i cur l:=by simp [lastW,List.foldl_append]
theorem lastW_len {i : Int} : ∀ {l : List (Int × List Int)} {cur : List Int},cur.length = 128 → (∀ w ∈ l,w.2.length = 128) → (lastW i cur l).length = 128
  | [],_,h0,_=>h0
  | w :: l,cur,h0,h=>by
    have h1 : (if w.1 = i then w.2 else cur).length = 128:=by
      split
      · exact h w (List.mem_cons_self ..)
      · exact h0
    exact lastW_len (l:=l) h1 fun x hx=>h x (List.mem_cons_of_mem _ hx)
def readL (d : Dk) (i : Int) : List Int:=lastW i (d.kept.getD i.toNat []) d.wt
theorem ids_B (l : List Int) : ((l.map mB).map V.d).flatMap idsV = []:=by simp [idsV]
theorem toDs_Bh (hp : List (Nat × Ob)) (l : List Int) : toDs hp ((l.map mB).map V.d) = some (l.map mB):=by
  induction l with
  | nil=>rfl
  | cons a r ih=>simp only [List.map_cons,toDs,ih];rfl
theorem toDs_B (l : List Int) : toDs [] ((l.map mB).map V.d) = some (l.map mB):=by
  induction l with
  | nil=>rfl
  | cons a r ih=>simp only [List.map_cons,toDs,ih];rfl
theorem ren_B (ρ : Nat → Nat) (l : List Int) : ((l.map mB).map V.d).map (ren1 ρ) = (l.map mB).map V.d:=by simp [ren1]
theorem va_B (dom : Nat → Prop) (l : List Int) : (∀ x ∈ (l.map mB).map V.d,va1 tt dom x) = True:=by simp [va1,tt]
theorem take_sec {s : List Int} (h : s.length = 128) : ((s.map mB).map V.d).take 128 = (s.map mB).map V.d:=List.take_of_length_le (by simp [h])
theorem take_secB {s : List Int} (h : s.length = 128) : (s.map mB).take 128 = s.map mB:=List.take_of_length_le (by simp [h])
theorem nth_S (l : List (List Int)) (k : Nat) (h : k < l.length) : nth (l.map sD) k = .agg ((l.getD k []).map mB):=by
  simp [nth,List.getD_eq_getElem?_getD,h,sD]
theorem nth_W (l : List (Int × List Int)) (k : Nat) (h : k < l.length) : nth (l.map wD) k = .agg (.v (.int .i64 (l.getD k (0,[])).1) :: (l.getD k (0,[])).2.map mB):=by
  simp [nth,List.getD_eq_getElem?_getD,h,wD]
theorem wt_take {l : List (Int × List Int)} {k : Nat} (h : k < l.length) : l.take (k + 1) = l.take k ++ [l.getD k (0,[])]:=by
  rw [List.take_succ_eq_append_getElem h,List.getD_eq_getElem?_getD,List.getElem?_eq_getElem h];rfl
noncomputable def D1 : Env:=⟨Try.prog,fun f ds out=>False,Es,fun _=>false,fun f vs lent out=>(f = 36 ∧ Sm_disk_Disk_may vs lent out) ∨ (f = 35 ∧ Sm_sync_atomic_Int64_Add vs lent out),fun f=>if f = 36 then some [1000000,1000001,1000002] else if f = 35 then some [1000000,1000001,1000002] else none,fun f=>false,false,fun f=>none⟩
theorem D1_sp : ∀ f ds out,D1.Sp f ds out → Ent D1.P f ∧ Good D1.P f (fun a b=>a = ds ∧ b = out):=fun _ _ _ h=>h.elim
theorem D1_sm : ∀ f vs lent out,D1.Sm f vs lent out → Ent D1.P f ∧ GoodM D1.P f (fun a l b=>a = vs ∧ l = lent ∧ b = out):=by
  rintro f vs lent out (⟨rfl,h⟩|⟨rfl,h⟩)
  · exact ⟨ent_disk_Disk_may,goodM_disk_Disk_may.one h⟩
  · exact ⟨ent_sync_atomic_Int64_Add,goodM_sync_atomic_Int64_Add.one h⟩
theorem D1_at : ∀ f k,D1.At f = some k → AtomOk D1.P f k:=fun _ _ h=>nomatch h
theorem D1_ok : D1.Ok:=⟨D1_sp,Es_ok,D1_sm,D1_at⟩
def readOut (d : Dk) (i : Int) : Out:=if ¬ (0 ≤ i ∧ i < d.kept.length) then ⟨.tup [.nil,.d (.v (.int .i64 1))],lentD 1000002 d⟩ else if d.dead = true then ⟨.tup [.nil,.d (.v (.int .i64 9))],lentD 1000002 d⟩ else
  ⟨.tup [.sl 0 1 0 128 true,.d (.v (.int .i64 0))],(0,.row 5 1 ((readL d i).map mB)) :: lentD 1000002 { d with rd:=IntKind.i64.wrap (d.rd + 1) }⟩
def Sm_disk_Disk_Read (vs : List V) (lent : List (Nat × Ob)) (out : Out) : Prop:=∃ (d : Dk) (i : Int),lent = lentD 1000002 d ∧ vs = [.ptr 1000000 0,.d (.v (.int .i64 i))] ∧ okD d ∧ out = readOut d i
theorem goodM_disk_Disk_Read : GoodM Try.prog 16 Sm_disk_Disk_Read:=by
  refine goodM_body (E:=D1) (nt:=48) (rs:=#[.tmp 4,.tmp 5]) Try.func16 rfl rfl rfl ?_
  rintro vs lent out ⟨d,i,rfl,rfl,hok,rfl⟩
  refine ⟨by simp,?_⟩
  obtain ⟨kept,wt,dead,stops,at_,rd,wr,fl⟩:=d
  obtain ⟨k0,k1,kl,wl,wn,_,_⟩:=hok
  simp only at k0 k1 kl wl wn
  by_cases hi : 0 ≤ i ∧ i < kept.length
  case neg =>
    have hz : decide (0 ≤ i ∧ i < (kept.length : Int)) = false:=decide_eq_false hi
    have hout : readOut ⟨kept,wt,dead,stops,at_,rd,wr,fl⟩ i = ⟨.tup [.nil,.d (.v (.int .i64 1))],lentD 1000002 ⟨kept,wt,dead,stops,at_,rd,wr,fl⟩⟩:=by unfold readOut;rw [if_pos hi]
    repeat' first
 | refine AW.seq ?_
 | refine AW.block ?_
 | refine AW.regl D1_ok [0,1,4,5,6,8,9,14,29,30,31,32,38] ?_
 | refine then_n ?_
 | refine then_r ?_
 | refine then_x ?_
 | refine block_x ?_
 | refine block_o (by decide) ?_
 | refine block_n ?_
 | refine block_r ?_
 | refine AW.skip ?_
 | refine AW.ret ?_
 | refine AW.exit ?_
 | refine AW.cond rfl ?_ ?_
 | refine awl_none rfl ?_
 | refine awl_nil2 ?_
 | (refine fun (hc : _ = _)=>?_;first|cases hc|((try rw [hc]);(try simp only [stH] at hc);(try (exfalso;omega)));(try (show Awl _ _ _ _ _;simp only [stU])))
 | ((first|refine fun (K : V → List _ → _) hK=>?_|refine fun (_ : V → V)=>?_);simp (maxSteps:=1000000) (disch:=omega) only [go_sem,Int.reduceEq,↓reduceIte,reduceCtorEq,Nat.reduceEqDiff,Nat.reduceLT,Nat.reduceLeDiff,Nat.reduceAdd,Nat.reduceSub,Nat.reduceMul,Int.reduceToNat,Int.reduceLE,Int.reduceLT,D1,Sm_disk_Disk_may,Sm_sync_atomic_Int64_Add,lentD,boxO,keptO,waitO,rawD,rawB,V.d.injEq,V.sl.injEq,V.ptr.injEq,Ob.box.injEq,Ob.row.injEq,hz];(try (revert hK;intro hK;(repeat' first|(refine And.intro ?_ ?_)|(intro hc;first|cases hc|((try rw [hc]);(try simp only [stH] at hc);(try (exfalso;omega)))));all_goals first|(refine hK _ _ ?_;clear hK K;simp only [stU])|exact hK|omega)))
    all_goals (refine Ends.of (nm [(1000000,1000000),(1000001,1000001),(1000002,1000002)]) (by first|exact .inl rfl|exact .inr rfl) ?_;simp (maxSteps:=1000000) (disch:=omega) only [go_sem,Int.reduceEq,↓reduceIte,reduceCtorEq,Nat.reduceEqDiff,Nat.reduceLT,Nat.reduceLeDiff,Nat.reduceAdd,Nat.reduceSub,Nat.reduceMul,Int.reduceToNat,Int.reduceLE,Int.reduceLT,D1,Sm_disk_Disk_may,Sm_sync_atomic_Int64_Add,hout,lentD,boxO,keptO,waitO,rawD,rawB])
  have hz : decide (0 ≤ i ∧ i < (kept.length : Int)) = true:=decide_eq_true hi
  obtain ⟨n,rfl⟩ : ∃ n : Nat,i = n:=⟨i.toNat,by omega⟩
  have hn : n < kept.length:=by omega
  cases dead with
  | true =>
    have hout : readOut ⟨kept,wt,true,stops,at_,rd,wr,fl⟩ n = ⟨.tup [.nil,.d (.v (.int .i64 9))],lentD 1000002 ⟨kept,wt,true,stops,at_,rd,wr,fl⟩⟩:=by unfold readOut;rw [if_neg (by simpa using hi),if_pos rfl]
    repeat' first
 | refine AW.seq ?_
 | refine AW.block ?_
 | refine AW.regl D1_ok [0,1,4,5,6,8,9,14,29,30,31,32,38] ?_
 | refine then_n ?_
 | refine then_r ?_
 | refine then_x ?_
 | refine block_x ?_
 | refine block_o (by decide) ?_
 | refine block_n ?_
 | refine block_r ?_
 | refine AW.skip ?_
 | refine AW.ret ?_
 | refine AW.exit ?_
 | refine AW.cond rfl ?_ ?_
 | refine awl_none rfl ?_
 | refine awl_nil2 ?_
 | (refine fun (hc : _ = _)=>?_;first|cases hc|((try rw [hc]);(try simp only [stH] at hc);(try (exfalso;omega)));(try (show Awl _ _ _ _ _;simp only [stU])))
 | ((first|refine fun (K : V → List _ → _) hK=>?_|refine fun (_ : V → V)=>?_);simp (maxSteps:=1000000) (disch:=omega) only [go_sem,Int.reduceEq,↓reduceIte,reduceCtorEq,Nat.reduceEqDiff,Nat.reduceLT,Nat.reduceLeDiff,Nat.reduceAdd,Nat.reduceSub,Nat.reduceMul,Int.reduceToNat,Int.reduceLE,Int.reduceLT,D1,Sm_disk_Disk_may,Sm_sync_atomic_Int64_Add,lentD,boxO,keptO,waitO,rawD,rawB,V.d.injEq,V.sl.injEq,V.ptr.injEq,Ob.box.injEq,Ob.row.injEq,hz];(try (revert hK;intro hK;(repeat' first|(refine And.intro ?_ ?_)|(intro hc;first|cases hc|((try rw [hc]);(try simp only [stH] at hc);(try (exfalso;omega)))));all_goals first|(refine hK _ _ ?_;clear hK K;simp only [stU])|exact hK|omega)))
    all_goals (refine Ends.of (nm [(1000000,1000000),(1000001,1000001),(1000002,1000002)]) (by first|exact .inl rfl|exact .inr rfl) ?_;simp (maxSteps:=1000000) (disch:=omega) only [go_sem,Int.reduceEq,↓reduceIte,reduceCtorEq,Nat.reduceEqDiff,Nat.reduceLT,Nat.reduceLeDiff,Nat.reduceAdd,Nat.reduceSub,Nat.reduceMul,Int.reduceToNat,Int.reduceLE,Int.reduceLT,D1,Sm_disk_Disk_may,Sm_sync_atomic_Int64_Add,hout,lentD,boxO,keptO,waitO,rawD,rawB])
  | false =>
    have hout : readOut ⟨kept,wt,false,stops,at_,rd,wr,fl⟩ n = ⟨.tup [.sl 0 1 0 128 true,.d (.v (.int .i64 0))],(0,.row 5 1 ((readL ⟨kept,wt,false,stops,at_,rd,wr,fl⟩ n).map mB)) :: lentD 1000002 ⟨kept,wt,false,stops,at_,IntKind.i64.wrap (rd + 1),wr,fl⟩⟩:=by unfold readOut;rw [if_neg (by simpa using hi),if_neg (by simp)]
    have e0:=nth_S kept n hn
    have hkn : (kept.getD n []).length = 128:=kl _ (by rw [List.getD_eq_getElem?_getD,List.getElem?_eq_getElem hn];exact List.getElem_mem hn)
    have hrl : readL ⟨kept,wt,false,stops,at_,rd,wr,fl⟩ n = lastW n (kept.getD n []) wt:=by simp [readL]
    have hll:=fun l (h : ∀ w ∈ l,w ∈ wt)=>lastW_len (i:=n) (l:=l) hkn fun w hw=>(wl w (h w hw)).1
    obtain ⟨cur,hcur⟩ : ∃ cur,kept.getD n [] = cur:=⟨_,rfl⟩
    rw [hcur] at e0 hkn hrl hll
    have t1:=take_sec hkn
    repeat' first
 | refine AW.seq ?_
 | refine AW.block ?_
 | refine AW.regl D1_ok [0,1,4,5,6,8,9,14,29,30,31,32,38] ?_
 | refine then_n ?_
 | refine then_r ?_
 | refine then_x ?_
 | refine block_x ?_
 | refine block_o (by decide) ?_
 | refine block_n ?_
 | refine block_r ?_
 | refine AW.skip ?_
 | refine AW.ret ?_
 | refine AW.exit ?_
 | refine AW.cond rfl ?_ ?_
 | refine awl_none rfl ?_
 | refine awl_nil2 ?_
 | (refine fun (hc : _ = _)=>?_;first|cases hc|((try rw [hc]);(try simp only [stH] at hc);(try (exfalso;omega)));(try (show Awl _ _ _ _ _;simp only [stU])))
 | ((first|refine fun (K : V → List _ → _) hK=>?_|refine fun (_ : V → V)=>?_);simp (maxSteps:=1000000) (disch:=omega) only [go_sem,Int.reduceEq,↓reduceIte,reduceCtorEq,Nat.reduceEqDiff,Nat.reduceLT,Nat.reduceLeDiff,Nat.reduceAdd,Nat.reduceSub,Nat.reduceMul,Int.reduceToNat,Int.reduceLE,Int.reduceLT,D1,Sm_disk_Disk_may,Sm_sync_atomic_Int64_Add,lentD,boxO,keptO,waitO,rawD,rawB,V.d.injEq,V.sl.injEq,V.ptr.injEq,Ob.box.injEq,Ob.row.injEq,hz,e0,hkn,t1,List.all_replicate,List.map_replicate,List.length_replicate,List.drop_replicate,List.replicate_zero,Nat.sub_self];(try (revert hK;intro hK;(repeat' first|(refine And.intro ?_ ?_)|(intro hc;first|cases hc|((try rw [hc]);(try simp only [stH] at hc);(try (exfalso;omega)))));all_goals first|(refine hK _ _ ?_;clear hK K;simp only [stU])|exact hK|omega)))
    refine AW.loop_wk (fun k : Nat=>⟨[(0,.ptr 1000000 0),(1,.d (.v (.int .i64 n))),(6,.ptr 6 0),(29,.sl 1000002 129 0 wt.length true),(30,.d (.v (.int .i64 wt.length))),(31,.d (.v (.int .i64 k)))],(6,.box (((lastW n cur (wt.take k)).map mB).map V.d)) :: lentD 1000002 ⟨kept,wt,false,stops,at_,rd,wr,fl⟩,48⟩)
      (fun k=>k ≤ wt.length) (fun k=>wt.length - k) 0 (Nat.zero_le _) (fun w0 oa a w hs=>Wk.sr (ρ:=nm []) (Wk.of ?_) hs) ?_
    · have h0 : lastW n cur [] = cur:=rfl
      simp (maxSteps:=1000000) (disch:=omega) only [go_sem,Int.reduceEq,↓reduceIte,reduceCtorEq,Nat.reduceEqDiff,Nat.reduceLT,Nat.reduceLeDiff,Nat.reduceAdd,Nat.reduceSub,Nat.reduceMul,Int.reduceToNat,Int.reduceLE,Int.reduceLT,D1,Sm_disk_Disk_may,Sm_sync_atomic_Int64_Add,h0,ren_B,va_B,lentD,boxO,keptO,waitO]
      simp
    intro k hk
    have hcl:=hll (wt.take k) fun w hw=>List.mem_of_mem_take hw
    have hvc : ∀ l : List Int,(∀ x ∈ (l.map mB).map V.d,va1 tt (inDom (lentD 1000002 ⟨kept,wt,false,stops,at_,rd,wr,fl⟩)) x) = True:=fun l=>by simp [va1,tt]
    by_cases hk1 : k < wt.length
    · have e1:=nth_W wt k hk1
      have hwk : (wt.getD k (0,[])).2.length = 128:=(wl _ (by rw [List.getD_eq_getElem?_getD,List.getElem?_eq_getElem hk1];exact List.getElem_mem hk1)).1
      have hsn : lastW n cur (wt.take (k + 1)) = if (wt.getD k (0,[])).1 = n then (wt.getD k (0,[])).2 else lastW n cur (wt.take k):=by rw [wt_take hk1,lastW_snoc]
      obtain ⟨⟨wi,ws⟩,hw⟩ : ∃ w,wt.getD k (0,[]) = w:=⟨_,rfl⟩
      rw [hw] at e1 hwk hsn
      simp only at e1 hwk hsn
      obtain ⟨c,hc⟩ : ∃ c,lastW n cur (wt.take k) = c:=⟨_,rfl⟩
      rw [hc] at hcl hsn
      have t1:=take_sec hwk
      have t2:=take_sec hcl
      by_cases hwi : wi = n
      · rw [if_pos hwi] at hsn
        repeat' ((first
 | refine AW.seq ?_
 | refine AW.block ?_
 | refine AW.regl D1_ok [0,1,4,5,6,8,9,14,29,30,31,32,38] ?_
 | refine then_n ?_
 | refine then_r ?_
 | refine then_x ?_
 | refine block_x ?_
 | refine block_o (by decide) ?_
 | refine block_n ?_
 | refine block_r ?_
 | refine AW.skip ?_
 | refine AW.ret ?_
 | refine AW.exit ?_
 | refine AW.cond rfl ?_ ?_
 | refine awl_none rfl ?_
 | refine awl_nil2 ?_
 | (refine fun (hc : _ = _)=>?_;first|cases hc|((try rw [hc]);(try simp only [stH] at hc);(try (exfalso;omega)));(try (show Awl _ _ _ _ _;simp only [stU])))
 | ((first|refine fun (K : V → List _ → _) hK=>?_|refine fun (_ : V → V)=>?_);simp (maxSteps:=1000000) (disch:=omega) only [go_sem,Int.reduceEq,↓reduceIte,reduceCtorEq,Nat.reduceEqDiff,Nat.reduceLT,Nat.reduceLeDiff,Nat.reduceAdd,Nat.reduceSub,Nat.reduceMul,Int.reduceToNat,Int.reduceLE,Int.reduceLT,D1,Sm_disk_Disk_may,Sm_sync_atomic_Int64_Add,lentD,boxO,keptO,waitO,hc,e1,hwk,hcl,t1,t2,hwi,List.all_replicate,List.map_replicate,List.length_replicate,List.drop_replicate,List.replicate_zero,Nat.sub_self];(try (revert hK;intro hK;(repeat' first|(refine And.intro ?_ ?_)|(intro hc;first|cases hc|((try rw [hc]);(try simp only [stH] at hc);(try (exfalso;omega)))));all_goals first|(refine hK _ _ ?_;clear hK K;simp only [stU])|exact hK|omega)))) <;> (fail_if_success (show False;skip)))
        refine ⟨k + 1,by omega,by omega,nm [],Wk.of ?_⟩
        simp (maxSteps:=1000000) (disch:=omega) only [go_sem,Int.reduceEq,↓reduceIte,reduceCtorEq,Nat.reduceEqDiff,Nat.reduceLT,Nat.reduceLeDiff,Nat.reduceAdd,Nat.reduceSub,Nat.reduceMul,Int.reduceToNat,Int.reduceLE,Int.reduceLT,D1,Sm_disk_Disk_may,Sm_sync_atomic_Int64_Add,lentD,boxO,keptO,waitO,ren_B,hsn]
        simp [hcl]
      · rw [if_neg hwi] at hsn
        repeat' ((first
 | refine AW.seq ?_
 | refine AW.block ?_
 | refine AW.regl D1_ok [0,1,4,5,6,8,9,14,29,30,31,32,38] ?_
 | refine then_n ?_
 | refine then_r ?_
 | refine then_x ?_
 | refine block_x ?_
 | refine block_o (by decide) ?_
 | refine block_n ?_
 | refine block_r ?_
 | refine AW.skip ?_
 | refine AW.ret ?_
 | refine AW.exit ?_
 | refine AW.cond rfl ?_ ?_
 | refine awl_none rfl ?_
 | refine awl_nil2 ?_
 | (refine fun (hc : _ = _)=>?_;first|cases hc|((try rw [hc]);(try simp only [stH] at hc);(try (exfalso;omega)));(try (show Awl _ _ _ _ _;simp only [stU])))
 | ((first|refine fun (K : V → List _ → _) hK=>?_|refine fun (_ : V → V)=>?_);simp (maxSteps:=1000000) (disch:=omega) only [go_sem,Int.reduceEq,↓reduceIte,reduceCtorEq,Nat.reduceEqDiff,Nat.reduceLT,Nat.reduceLeDiff,Nat.reduceAdd,Nat.reduceSub,Nat.reduceMul,Int.reduceToNat,Int.reduceLE,Int.reduceLT,D1,Sm_disk_Disk_may,Sm_sync_atomic_Int64_Add,lentD,boxO,keptO,waitO,hc,e1,hwk,hcl,t1,t2,hwi,List.all_replicate,List.map_replicate,List.length_replicate,List.drop_replicate,List.replicate_zero,Nat.sub_self];(try (revert hK;intro hK;(repeat' first|(refine And.intro ?_ ?_)|(intro hc;first|cases hc|((try rw [hc]);(try simp only [stH] at hc);(try (exfalso;omega)))));all_goals first|(refine hK _ _ ?_;clear hK K;simp only [stU])|exact hK|omega)))) <;> (fail_if_success (show False;skip)))
        refine ⟨k + 1,by omega,by omega,nm [],Wk.of ?_⟩
        simp (maxSteps:=1000000) (disch:=omega) only [go_sem,Int.reduceEq,↓reduceIte,reduceCtorEq,Nat.reduceEqDiff,Nat.reduceLT,Nat.reduceLeDiff,Nat.reduceAdd,Nat.reduceSub,Nat.reduceMul,Int.reduceToNat,Int.reduceLE,Int.reduceLT,D1,Sm_disk_Disk_may,Sm_sync_atomic_Int64_Add,lentD,boxO,keptO,waitO,ren_B,hsn]
        simp
    · obtain rfl : k = wt.length:=by omega
      rw [List.take_length,← hrl] at hcl
      have t1:=take_sec hcl
      have t3:=toDs_B (readL ⟨kept,wt,false,stops,at_,rd,wr,fl⟩ n)
      rw [List.take_length,← hrl]
      generalize readL ⟨kept,wt,false,stops,at_,rd,wr,fl⟩ n = c at *
      repeat' ((first
 | refine AW.seq ?_
 | refine AW.block ?_
 | refine AW.regl D1_ok [0,1,4,5,6,8,9,14,29,30,31,32,38] ?_
 | refine then_n ?_
 | refine then_r ?_
 | refine then_x ?_
 | refine block_x ?_
 | refine block_o (by decide) ?_
 | refine block_n ?_
 | refine block_r ?_
 | refine AW.skip ?_
 | refine AW.ret ?_
 | refine AW.exit ?_
 | refine AW.cond rfl ?_ ?_
 | refine awl_none rfl ?_
 | refine awl_nil2 ?_
 | (refine fun (hc : _ = _)=>?_;first|cases hc|((try rw [hc]);(try simp only [stH] at hc);(try (exfalso;omega)));(try (show Awl _ _ _ _ _;simp only [stU])))
 | ((first|refine fun (K : V → List _ → _) hK=>?_|refine fun (_ : V → V)=>?_);simp (maxSteps:=1000000) (disch:=omega) only [go_sem,Int.reduceEq,↓reduceIte,reduceCtorEq,Nat.reduceEqDiff,Nat.reduceLT,Nat.reduceLeDiff,Nat.reduceAdd,Nat.reduceSub,Nat.reduceMul,Int.reduceToNat,Int.reduceLE,Int.reduceLT,D1,Sm_disk_Disk_may,Sm_sync_atomic_Int64_Add,lentD,boxO,keptO,waitO,rawD,rawB,V.d.injEq,V.sl.injEq,V.ptr.injEq,Ob.box.injEq,Ob.row.injEq,hcl,t1,t3];(try (revert hK;intro hK;(repeat' first|(refine And.intro ?_ ?_)|(intro hc;first|cases hc|((try rw [hc]);(try simp only [stH] at hc);(try (exfalso;omega)))));all_goals first|(refine hK _ _ ?_;clear hK K;simp only [stU])|exact hK|omega)))) <;> (fail_if_success (show False;skip)))
      all_goals (refine Ends.of (nm [(0,47),(1000000,1000000),(1000001,1000001),(1000002,1000002)]) (by first|exact .inl rfl|exact .inr rfl) ?_;simp (maxSteps:=1000000) (disch:=omega) only [go_sem,Int.reduceEq,↓reduceIte,reduceCtorEq,Nat.reduceEqDiff,Nat.reduceLT,Nat.reduceLeDiff,Nat.reduceAdd,Nat.reduceSub,Nat.reduceMul,Int.reduceToNat,Int.reduceLE,Int.reduceLT,D1,Sm_disk_Disk_may,Sm_sync_atomic_Int64_Add,hout,lentD,boxO,keptO,waitO,rawD,rawB])
theorem ent_disk_Disk_Read : Ent Try.prog 16:=⟨_,Try.func16,rfl,by decide⟩
end Go.Proofs.Ytcmnblgekcjpiaa.Am
