import Derived.Test.YtcmnblgekcjpiaaZQ2
set_option linter.unusedVariables false
set_option linter.unusedSimpArgs false
set_option maxRecDepth 10000
set_option maxHeartbeats 0
namespace Go.Proofs.Ytcmnblgekcjpiaa.Am
open Go Go.RowKit Go.Proofs
theorem kpC_congr (keep : List Bool) (k : List (List Int)) {l m : List (Int × List Int)} : ∀ n : Nat,(∀ i < n,l.getD i (0,[]) = m.getD i (0,[])) → kpC keep k l n = kpC keep k m n
  | 0,_=>rfl
  | n + 1,h=>by
    simp only [kpC]
    rw [kpC_congr keep k n fun i hi=>h i (by omega),h n (by omega)]
theorem kpC_snoc (keep : List Bool) (k : List (List Int)) (l : List (Int × List Int)) (w : Int × List Int) : kpC keep k (l ++ [w]) (l ++ [w]).length = if keep.getD l.length false = true then putW (kpC keep k l l.length) w else kpC keep k l l.length:=by
  rw [List.length_append,List.length_singleton,kpC]
  rw [kpC_congr keep k (l:=l ++ [w]) (m:=l) l.length fun i hi=>by simp [List.getD_eq_getElem?_getD,List.getElem?_append_left hi]]
  rw [show (l ++ [w]).getD l.length (0,[]) = w by simp [List.getD_eq_getElem?_getD]]
structure invK (d : Dk) (keep : List Bool) (want now : List Int) (n : Nat) : Prop where
  ok : okD d
  dd : d.dead = false
  st : d.stops = false
  kl : d.kept.length = 4
  wl : d.wt.length = n
  w4 : want.length = 4
  n4 : now.length = 4
  kw : ∀ j : Nat,j < 4 → ((kpC keep d.kept d.wt d.wt.length).getD j []).getD 0 0 = want.getD j 0
  rn : ∀ j : Nat,j < 4 → (readL d j).getD 0 0 = now.getD j 0
theorem invK_0 (keep : List Bool) : invK (dk0 4) keep (List.replicate 4 0) (List.replicate 4 0) 0:=by
  refine ⟨dk0_ok (by omega) (by omega),rfl,rfl,rfl,rfl,rfl,rfl,fun j hj=>?_,fun j hj=>?_⟩
  all_goals rcases (show j = 0 ∨ j = 1 ∨ j = 2 ∨ j = 3 by omega) with rfl|rfl|rfl|rfl <;> rfl
theorem fl_get {d : Dk} (h : okD d) (j : Nat) : (flD d).kept.getD j [] = readL d j:=by
  show (applyW d.kept d.wt).getD j [] = _
  rw [applyW_get fun w hw=>⟨(h.wl w hw).2.1,(h.wl w hw).2.2⟩]
  simp [readL]
theorem invK_fl {d : Dk} {keep keep' : List Bool} {want now : List Int} {n : Nat} (h : invK d keep want now n) : invK (flD d) keep' now now 0:=by
  refine ⟨fl_ok h.ok,rfl,h.st,by show (applyW _ _).length = 4;rw [applyW_len,h.kl],rfl,h.n4,h.n4,fun j hj=>?_,fun j hj=>?_⟩
  · show ((flD d).kept.getD j []).getD 0 0 = _
    rw [fl_get h.ok];exact h.rn j hj
  · show (lastW _ ((flD d).kept.getD ((j : Int)).toNat []) []).getD 0 0 = _
    rw [Int.toNat_natCast,fl_get h.ok];exact h.rn j hj
theorem invK_wr {d : Dk} {keep : List Bool} {want now : List Int} {n i : Nat} {x : Int} (h : invK d keep want now n) (hn : n < 100000) (hi : i < 4) : invK (wrD d i (fullL [x])) keep (if keep.getD n false = true then want.set i x else want) (now.set i x) (n + 1):=by
  have hd : deadN d = false:=by simp [deadN,h.dd,h.st]
  have hwl:=h.wl
  refine ⟨wr_ok h.ok ⟨by omega,by rw [h.kl];omega⟩ (fullL_len _) (by omega) hd,rfl,h.st,h.kl,by simp [wrD];omega,by split <;> simp [h.w4],by simp [h.n4],fun j hj=>?_,fun j hj=>?_⟩
  · show ((kpC keep d.kept (d.wt ++ [((i : Int),fullL [x])]) (d.wt ++ [((i : Int),fullL [x])]).length).getD j []).getD 0 0 = _
    rw [kpC_snoc,hwl]
    split
    · unfold putW
      have:=kpC_len keep d.kept d.wt n
      rw [Int.toNat_natCast,getD_set_i _ _ _ _ (by rw [this,h.kl];exact hi),List.getD_eq_getElem?_getD (l:=want.set i x),List.getElem?_set]
      by_cases hij : i = j
      · subst hij
        simp [h.w4,hi,fullL]
      · have:=h.kw j hj
        rw [hwl] at this
        rw [if_neg hij,if_neg hij,this,List.getD_eq_getElem?_getD]
    · have:=h.kw j hj
      rw [hwl] at this
      exact this
  · have e : readL (wrD d i (fullL [x])) j = if (i : Int) = (j : Int) then fullL [x] else readL d j:=by
      show lastW (j : Int) _ (d.wt ++ [((i : Int),fullL [x])]) = _
      rw [lastW_snoc];rfl
    rw [e,List.getD_eq_getElem?_getD (l:=now.set i x),List.getElem?_set]
    by_cases hij : i = j
    · subst hij
      simp [h.n4,hi,fullL]
    · rw [if_neg (by omega),if_neg hij,h.rn j hj,List.getD_eq_getElem?_getD]
structure invV (d : Dk) (v : List Int) (n : Nat) : Prop where
  ok : okD d
  dd : d.dead = false
  kl : d.kept.length = 4
  wl : d.wt.length = n
  v4 : v.length = 4
  rn : ∀ j : Nat,j < 4 → (readL d j).getD 0 0 = v.getD j 0
theorem invK_rd {d : Dk} {keep : List Bool} {want now : List Int} {n : Nat} (h : invK d keep want now n) : invK (rdD d) keep want now n:=⟨rd_ok h.ok,h.dd,h.st,h.kl,h.wl,h.w4,h.n4,h.kw,h.rn⟩
theorem invV_rd {d : Dk} {v : List Int} {n : Nat} (h : invV d v n) : invV (rdD d) v n:=⟨rd_ok h.ok,h.dd,h.kl,h.wl,h.v4,h.rn⟩
theorem invV_cr {d : Dk} {keep : List Bool} {want now : List Int} {n : Nat} (h : invK d keep want now n) : invV (crD d keep) want 0:=by
  refine ⟨cr_ok h.ok,rfl,by show (kpC _ _ _ _).length = 4;rw [kpC_len,h.kl],rfl,h.w4,fun j hj=>?_⟩
  show (lastW _ ((kpC keep d.kept d.wt d.wt.length).getD ((j : Int)).toNat []) []).getD 0 0 = _
  rw [Int.toNat_natCast];exact h.kw j hj
theorem readL_len {d : Dk} (h : okD d) {j : Nat} (hj : j < d.kept.length) : (readL d j).length = 128 :=
  lastW_len (h.kl _ (by rw [Int.toNat_natCast,List.getD_eq_getElem?_getD,List.getElem?_eq_getElem hj];exact List.getElem_mem _)) fun w hw=>(h.wl w hw).1
noncomputable def Q4 : Env:=⟨Try.prog,fun f ds out=>(f = 10 ∧ Sp_overdubkeep_Within ds out) ∨ (f = 9 ∧ Sp_disk_New ds out) ∨ (f = 14 ∧ Sp_overdublaw10_full ds out) ∨ (f = 19 ∧ Sp_overdubkeep_Cut_bool ds out) ∨ (f = 17 ∧ Sp_overdublaw10_wakes ds out),Es,fun _=>false,fun f vs lent out=>(f = 13 ∧ Sm_disk_Disk_Write vs lent out) ∨ (f = 16 ∧ Sm_disk_Disk_Read vs lent out) ∨ (f = 11 ∧ Sm_disk_Disk_Flush vs lent out) ∨ (f = 12 ∧ Sm_disk_Disk_Waiting vs lent out) ∨ (f = 18 ∧ Sm_disk_Disk_Crash vs lent out),fun f=>if f = 13 then some [1000000,1000001,902] else if f = 16 then some [1000000,1000001,1000002] else if f = 11 then some [1000000,1000001,902] else if f = 12 then some [1000000,1000001,1000002] else if f = 18 then some [1000000,1000001,902] else none,fun f=>false,false,fun f=>none⟩
theorem Q4_sp : ∀ f ds out,Q4.Sp f ds out → Ent Q4.P f ∧ Good Q4.P f (fun a b=>a = ds ∧ b = out):=by
  rintro f ds out (⟨rfl,h⟩|⟨rfl,h⟩|⟨rfl,h⟩|⟨rfl,h⟩|⟨rfl,h⟩)
  · exact ⟨ent_overdubkeep_Within,good_overdubkeep_Within.one h⟩
  · exact ⟨ent_disk_New,good_disk_New.one h⟩
  · exact ⟨ent_overdublaw10_full,good_overdublaw10_full.one h⟩
  · exact ⟨ent_overdubkeep_Cut_bool,good_overdubkeep_Cut_bool.one h⟩
  · exact ⟨ent_overdublaw10_wakes,good_overdublaw10_wakes.one h⟩
theorem Q4_sm : ∀ f vs lent out,Q4.Sm f vs lent out → Ent Q4.P f ∧ GoodM Q4.P f (fun a l b=>a = vs ∧ l = lent ∧ b = out):=by
  rintro f vs lent out (⟨rfl,h⟩|⟨rfl,h⟩|⟨rfl,h⟩|⟨rfl,h⟩|⟨rfl,h⟩)
  · exact ⟨ent_disk_Disk_Write,goodM_disk_Disk_Write.one h⟩
  · exact ⟨ent_disk_Disk_Read,goodM_disk_Disk_Read.one h⟩
  · exact ⟨ent_disk_Disk_Flush,goodM_disk_Disk_Flush.one h⟩
  · exact ⟨ent_disk_Disk_Waiting,goodM_disk_Disk_Waiting.one h⟩
  · exact ⟨ent_disk_Disk_Crash,goodM_disk_Disk_Crash.one h⟩
theorem Q4_at : ∀ f k,Q4.At f = some k → AtomOk Q4.P f k:=fun _ _ h=>nomatch h
theorem Q4_ok : Q4.Ok:=⟨Q4_sp,Es_ok,Q4_sm,Q4_at⟩
def kA (f t : List Int) (kp : List Bool) (k : Nat) (d : Dk) (want : List Int) : St:=⟨[(0,.d (.list (f.map mI))),(1,.d (.list (t.map mI))),(2,.d (.list (kp.map bD))),(7,.ptr 22 0),(9,.ptr 9 0),(10,.d (.v (.int .i64 k)))],[(22,boxO 1022 200 d),(1022,keptO d),(200,waitO d),(9,.box ((want.map mB).map V.d))],170⟩
def kB (t : List Int) (kp : List Bool) (k : Nat) (d : Dk) (want now : List Int) : St:=⟨[(1,.d (.list (t.map mI))),(2,.d (.list (kp.map bD))),(7,.ptr 22 0),(9,.ptr 9 0),(12,.ptr 12 0),(13,.d (.v (.int .i64 k)))],[(22,boxO 1022 200 d),(1022,keptO d),(200,waitO d),(9,.box ((want.map mB).map V.d)),(12,.box ((now.map mB).map V.d))],170⟩
def kC (kp : List Bool) (k : Nat) (d : Dk) (want now : List Int) : St:=⟨[(2,.d (.list (kp.map bD))),(7,.ptr 22 0),(9,.ptr 9 0),(12,.ptr 12 0),(108,.d (.v (.int .i64 k)))],[(22,boxO 1022 200 d),(1022,keptO d),(200,waitO d),(9,.box ((want.map mB).map V.d)),(12,.box ((now.map mB).map V.d))],170⟩
def kE (k : Nat) (d : Dk) (want : List Int) : St:=⟨[(7,.ptr 22 0),(9,.ptr 9 0),(138,.d (.v (.int .i64 k)))],[(22,boxO 1022 200 d),(1022,keptO d),(200,waitO d),(9,.box ((want.map mB).map V.d))],170⟩
def Sp_overdublaw10_DiskKeeps (ds : List D) (out : Out) : Prop:=∃ (f t : List Int) (kp : List Bool),ds = [.list (f.map mI),.list (t.map mI),.list (kp.map bD)] ∧ f.length ≤ 9223372036854775807 ∧ t.length ≤ 9223372036854775807 ∧ kp.length ≤ 9223372036854775807 ∧ out = ⟨.d (.v (.bool true)),[]⟩
def bb_overdublaw10_DiskKeeps_28 : List Nat:=[0,1,3,7,15,31,63,127,255,511,1023,255,2303,6399,16383,32767]
def bb_overdublaw10_DiskKeeps_36 : List Nat:=[0,1,3,7,15,31,63,127,255,511,1023,255,2303,6399,16383,32767]
theorem good_overdublaw10_DiskKeeps : Good Try.prog 4 Sp_overdublaw10_DiskKeeps:=by
  refine good_body (E:=Q4) (nt:=170) (rs:=#[.tmp 6]) Try.func4 rfl rfl rfl ?_
  rintro ds out ⟨f,t,kp,rfl,hfl,htl,hkl,rfl⟩
  refine ⟨by simp,?_⟩
  refine AW.mx5 (fun p : Nat × Dk × List Int=>kA f t kp p.1 p.2.1 p.2.2) (fun p=>invK p.2.1 [] (List.replicate 4 0) p.2.2 p.1) ?_ ?_
  · repeat' ((first
 | refine AW.seq ?_
 | refine AW.block ?_
 | refine AW.regl Q4_ok [0,1,2,6,7,8,9,10,11,12,13,14,15,16,17,18,19,20,30,38,54,62,71,87,102,108,109,132,138,139,162] ?_
 | (refine AW.regq (id:=28) Q4_ok follows bb_overdublaw10_DiskKeeps_28 (by kernel_rfl) [0,1,2,6,7,8,9,10,11,12,13,14,15,16,17,18,19,20,30,38,54,62,71,87,102,108,109,132,138,139,162] ?_)
 | (refine AW.regq (id:=36) Q4_ok follows bb_overdublaw10_DiskKeeps_36 (by kernel_rfl) [0,1,2,6,7,8,9,10,11,12,13,14,15,16,17,18,19,20,30,38,54,62,71,87,102,108,109,132,138,139,162] ?_)
 | refine then_n ?_
 | refine then_r ?_
 | refine then_x ?_
 | refine block_x ?_
 | refine block_o (by decide) ?_
 | refine block_n ?_
 | refine block_r ?_
 | refine AW.skip ?_
 | refine AW.ret ?_
 | refine AW.exit ?_
 | refine AW.cond rfl ?_ ?_
 | refine awl_none rfl ?_
 | refine awl_nil2 ?_
 | refine awl_some rfl rfl (Nat.le_of_ble_eq_true rfl) rfl rfl ?_ ?_
 | refine awc_none rfl ?_
 | refine awc_some rfl rfl (Nat.le_of_ble_eq_true rfl) rfl rfl ?_ ?_
 | refine awc_nilq (by kernel_rfl) (by kernel_rfl) ?_
 | (refine fun (hc : _ = _)=>?_;first|cases hc|((try rw [hc]);(try simp only [stH] at hc);(try (exfalso;omega)));(try ((first|show Awl _ _ _ _ _|show Awc _ _ _ _ _ _);simp only [stU])))
 | ((first|refine fun (K : V → List _ → _) hK=>?_|refine fun (_ : V → V)=>?_);simp (maxSteps:=1000000) (disch:=omega) only [go_sem,Int.reduceEq,↓reduceIte,reduceCtorEq,Nat.reduceEqDiff,Nat.reduceLT,Nat.reduceLeDiff,Nat.reduceAdd,Nat.reduceSub,Nat.reduceMul,Int.reduceToNat,Int.reduceLE,Int.reduceLT,Q4,Sp_disk_New,Sp_overdubkeep_Within,Sp_overdublaw10_full,Sm_disk_Disk_Write,Sm_disk_Disk_Flush,Sm_disk_Disk_Read,Sp_overdubkeep_Cut_bool,Sm_disk_Disk_Crash,Sm_disk_Disk_Waiting,Sp_overdublaw10_wakes,lentD,lent_and,V.d.injEq,V.ptr.injEq,Sg3,St.updIf,ifc_nil,gt_ifc,go_ifc,ite_self,Option.none_or,Option.some_or];(try (revert hK;intro hK;(repeat' first|(refine And.intro ?_ ?_)|(intro hc;first|cases hc|((try rw [hc]);(try simp only [stH] at hc);(try (exfalso;omega)))));all_goals first|(refine hK _ _ ?_;clear hK K;simp only [stU])|exact hK|omega)))) <;> (fail_if_success (show False;skip)))
    refine AW.loop_wk (fun p : Nat × Dk × List Int=>kA f t kp p.1 p.2.1 p.2.2) (fun p=>p.1 ≤ min f.length 8 ∧ invK p.2.1 [] (List.replicate 4 0) p.2.2 p.1) (fun p=>8 - p.1) (0,dk0 4,List.replicate 4 0) ⟨Nat.zero_le _,invK_0 _⟩ (fun w0 oa a w hs=>Wk.sr (ρ:=nm [(22,22),(1022,1022),(200,2022),(9,9)]) (Wk.of ?_) hs) ?_
    · simp (maxSteps:=1000000) (disch:=omega) only [go_sem,Int.reduceEq,↓reduceIte,reduceCtorEq,Nat.reduceEqDiff,Nat.reduceLT,Nat.reduceLeDiff,Nat.reduceAdd,Nat.reduceSub,Nat.reduceMul,Int.reduceToNat,Int.reduceLE,Int.reduceLT,Q4,Sp_disk_New,Sp_overdubkeep_Within,Sp_overdublaw10_full,Sm_disk_Disk_Write,Sm_disk_Disk_Flush,Sm_disk_Disk_Read,Sp_overdubkeep_Cut_bool,Sm_disk_Disk_Crash,Sm_disk_Disk_Waiting,Sp_overdublaw10_wakes,kA,ren_B,List.forall_mem_map]
      all_goals rfl
    rintro ⟨k,d,want⟩ ⟨hk,hi⟩
    simp only at hk hi
    have o0 : okD d = True:=eq_true hi.ok
    by_cases hk1 : k < min f.length 8
    · have e0:=nth_I f k (by omega)
      have hwx:=within_rngC (v:=f.getD k 0) (n:=4) (by omega)
      obtain ⟨q,hq⟩ : ∃ q : Nat,within (f.getD k 0) 4 = q:=⟨(within (f.getD k 0) 4).toNat,by omega⟩
      have hq4 : q < 4:=by omega
      clear hwx
      have hw8 : IntKind.u8.wrap (1 + (k : Int)) = (k : Int) + 1:=by rw [wrap_u8];omega
      have hst:=fullL_take [(k : Int) + 1]
      have hsl:=fullL_len [(k : Int) + 1]
      have h2:=invK_wr (i:=q) (x:=(k : Int) + 1) hi (by omega) hq4
      have h2 : invK (wrD d q (fullL [(k : Int) + 1])) [] (List.replicate 4 0) (want.set q ((k : Int) + 1)) (k + 1):=h2
      have hwo:=write_ok (d:=d) (i:=(q : Int)) (s:=fullL [(k : Int) + 1]) ⟨by omega,by rw [hi.kl];omega⟩ hsl (by simp [deadN,hi.dd,hi.st])
      have hb:=box_set (l:=want) (j:=q) ((k : Int) + 1) (by rw [hi.n4];omega)
      have hn4:=hi.n4
      obtain ⟨S,hS⟩ : ∃ S,fullL [(k : Int) + 1] = S:=⟨_,rfl⟩
      rw [hS] at hst hsl hwo h2
      obtain ⟨d1,hd1⟩ : ∃ d1,wrD d q S = d1:=⟨_,rfl⟩
      rw [hd1] at hwo h2
      repeat' ((first
 | refine AW.seq ?_
 | refine AW.block ?_
 | refine AW.regl Q4_ok [0,1,2,6,7,8,9,10,11,12,13,14,15,16,17,18,19,20,30,38,54,62,71,87,102,108,109,132,138,139,162] ?_
 | (refine AW.regq (id:=28) Q4_ok follows bb_overdublaw10_DiskKeeps_28 (by kernel_rfl) [0,1,2,6,7,8,9,10,11,12,13,14,15,16,17,18,19,20,30,38,54,62,71,87,102,108,109,132,138,139,162] ?_)
 | (refine AW.regq (id:=36) Q4_ok follows bb_overdublaw10_DiskKeeps_36 (by kernel_rfl) [0,1,2,6,7,8,9,10,11,12,13,14,15,16,17,18,19,20,30,38,54,62,71,87,102,108,109,132,138,139,162] ?_)
 | refine then_n ?_
 | refine then_r ?_
 | refine then_x ?_
 | refine block_x ?_
 | refine block_o (by decide) ?_
 | refine block_n ?_
 | refine block_r ?_
 | refine AW.skip ?_
 | refine AW.ret ?_
 | refine AW.exit ?_
 | refine AW.cond rfl ?_ ?_
 | refine awl_none rfl ?_
 | refine awl_nil2 ?_
 | refine awl_some rfl rfl (Nat.le_of_ble_eq_true rfl) rfl rfl ?_ ?_
 | refine awc_none rfl ?_
 | refine awc_some rfl rfl (Nat.le_of_ble_eq_true rfl) rfl rfl ?_ ?_
 | refine awc_nilq (by kernel_rfl) (by kernel_rfl) ?_
 | (refine fun (hc : _ = _)=>?_;first|cases hc|((try rw [hc]);(try simp only [stH] at hc);(try (exfalso;omega)));(try ((first|show Awl _ _ _ _ _|show Awc _ _ _ _ _ _);simp only [stU])))
 | ((first|refine fun (K : V → List _ → _) hK=>?_|refine fun (_ : V → V)=>?_);simp (maxSteps:=1000000) (disch:=omega) only [go_sem,Int.reduceEq,↓reduceIte,reduceCtorEq,Nat.reduceEqDiff,Nat.reduceLT,Nat.reduceLeDiff,Nat.reduceAdd,Nat.reduceSub,Nat.reduceMul,Int.reduceToNat,Int.reduceLE,Int.reduceLT,Q4,Sp_disk_New,Sp_overdubkeep_Within,Sp_overdublaw10_full,Sm_disk_Disk_Write,Sm_disk_Disk_Flush,Sm_disk_Disk_Read,Sp_overdubkeep_Cut_bool,Sm_disk_Disk_Crash,Sm_disk_Disk_Waiting,Sp_overdublaw10_wakes,kA,e0,hq,hwo,o0,hb,hn4,hw8,one_mB,hS,hst,hsl,lentN,lentD,lent_and,all_I,mB_inj,V.d.injEq,V.ptr.injEq,Nat.mul_one,Sg3,St.updIf,ifc_nil,gt_ifc,go_ifc,ite_self,Option.none_or,Option.some_or];(try (revert hK;intro hK;(repeat' first|(refine And.intro ?_ ?_)|(intro hc;first|cases hc|((try rw [hc]);(try simp only [stH] at hc);(try (exfalso;omega)))));all_goals first|(refine hK _ _ ?_;clear hK K;simp only [stU])|exact hK|omega)))) <;> (fail_if_success (show False;skip)))
      refine ⟨(k + 1,d1,want.set q ((k : Int) + 1)),by dsimp only;omega,h2,by dsimp only;omega,nm [(22,22),(1022,1022),(200,2053),(9,9)],Wk.of ?_⟩
      simp (maxSteps:=1000000) (disch:=omega) only [go_sem,Int.reduceEq,↓reduceIte,reduceCtorEq,Nat.reduceEqDiff,Nat.reduceLT,Nat.reduceLeDiff,Nat.reduceAdd,Nat.reduceSub,Nat.reduceMul,Int.reduceToNat,Int.reduceLE,Int.reduceLT,Q4,Sp_disk_New,Sp_overdubkeep_Within,Sp_overdublaw10_full,Sm_disk_Disk_Write,Sm_disk_Disk_Flush,Sm_disk_Disk_Read,Sp_overdubkeep_Cut_bool,Sm_disk_Disk_Crash,Sm_disk_Disk_Waiting,Sp_overdublaw10_wakes,kA,ren_B,List.forall_mem_map]
      rfl
    repeat' ((first
 | refine AW.seq ?_
 | refine AW.block ?_
 | refine AW.regl Q4_ok [0,1,2,6,7,8,9,10,11,12,13,14,15,16,17,18,19,20,30,38,54,62,71,87,102,108,109,132,138,139,162] ?_
 | (refine AW.regq (id:=28) Q4_ok follows bb_overdublaw10_DiskKeeps_28 (by kernel_rfl) [0,1,2,6,7,8,9,10,11,12,13,14,15,16,17,18,19,20,30,38,54,62,71,87,102,108,109,132,138,139,162] ?_)
 | (refine AW.regq (id:=36) Q4_ok follows bb_overdublaw10_DiskKeeps_36 (by kernel_rfl) [0,1,2,6,7,8,9,10,11,12,13,14,15,16,17,18,19,20,30,38,54,62,71,87,102,108,109,132,138,139,162] ?_)
 | refine then_n ?_
 | refine then_r ?_
 | refine then_x ?_
 | refine block_x ?_
 | refine block_o (by decide) ?_
 | refine block_n ?_
 | refine block_r ?_
 | refine AW.skip ?_
 | refine AW.ret ?_
 | refine AW.exit ?_
 | refine AW.cond rfl ?_ ?_
 | refine awl_none rfl ?_
 | refine awl_nil2 ?_
 | refine awl_some rfl rfl (Nat.le_of_ble_eq_true rfl) rfl rfl ?_ ?_
 | refine awc_none rfl ?_
 | refine awc_some rfl rfl (Nat.le_of_ble_eq_true rfl) rfl rfl ?_ ?_
 | refine awc_nilq (by kernel_rfl) (by kernel_rfl) ?_
 | (refine fun (hc : _ = _)=>?_;first|cases hc|((try rw [hc]);(try simp only [stH] at hc);(try (exfalso;omega)));(try ((first|show Awl _ _ _ _ _|show Awc _ _ _ _ _ _);simp only [stU])))
 | ((first|refine fun (K : V → List _ → _) hK=>?_|refine fun (_ : V → V)=>?_);simp (maxSteps:=1000000) (disch:=omega) only [go_sem,Int.reduceEq,↓reduceIte,reduceCtorEq,Nat.reduceEqDiff,Nat.reduceLT,Nat.reduceLeDiff,Nat.reduceAdd,Nat.reduceSub,Nat.reduceMul,Int.reduceToNat,Int.reduceLE,Int.reduceLT,Q4,Sp_disk_New,Sp_overdubkeep_Within,Sp_overdublaw10_full,Sm_disk_Disk_Write,Sm_disk_Disk_Flush,Sm_disk_Disk_Read,Sp_overdubkeep_Cut_bool,Sm_disk_Disk_Crash,Sm_disk_Disk_Waiting,Sp_overdublaw10_wakes,kA,Sg3,St.updIf,ifc_nil,gt_ifc,go_ifc,ite_self,Option.none_or,Option.some_or];(try (revert hK;intro hK;(repeat' first|(refine And.intro ?_ ?_)|(intro hc;first|cases hc|((try rw [hc]);(try simp only [stH] at hc);(try (exfalso;omega)))));all_goals first|(refine hK _ _ ?_;clear hK K;simp only [stU])|exact hK|omega)))) <;> (fail_if_success (show False;skip)))
    all_goals refine ⟨(k,d,want),hi,nm [(22,22),(1022,1022),(200,200),(9,9)],Wk.of ?_⟩
    all_goals simp (maxSteps:=1000000) (disch:=omega) only [go_sem,Int.reduceEq,↓reduceIte,reduceCtorEq,Nat.reduceEqDiff,Nat.reduceLT,Nat.reduceLeDiff,Nat.reduceAdd,Nat.reduceSub,Nat.reduceMul,Int.reduceToNat,Int.reduceLE,Int.reduceLT,Q4,Sp_disk_New,Sp_overdubkeep_Within,Sp_overdublaw10_full,Sm_disk_Disk_Write,Sm_disk_Disk_Flush,Sm_disk_Disk_Read,Sp_overdubkeep_Cut_bool,Sm_disk_Disk_Crash,Sm_disk_Disk_Waiting,Sp_overdublaw10_wakes,kA,ren_B,List.forall_mem_map]
    all_goals rfl
  rintro ⟨k,d,want⟩ hi
  simp only at hi
  have o0 : okD d = True:=eq_true hi.ok
  have hfo : flushOut d = ⟨.d (.v (.int .i64 0)),lentN (flD d)⟩:=flush_ok (by simp [deadN,hi.dd,hi.st])
  have hif:=invK_fl (keep':=kp.take 10) hi
  have t4 : ((want.map mB).map V.d).take 4 = (want.map mB).map V.d:=List.take_of_length_le (by simp [hi.n4])
  have hn4:=hi.n4
  obtain ⟨d1,hd1⟩ : ∃ d1,flD d = d1:=⟨_,rfl⟩
  rw [hd1] at hfo hif
  refine AW.mx3 (fun p : Nat × Dk × List Int × List Int=>kB t kp p.1 p.2.1 p.2.2.1 p.2.2.2) (fun p=>invK p.2.1 (kp.take 10) p.2.2.1 p.2.2.2 p.1) ?_ ?_
  · repeat' ((first
 | refine AW.seq ?_
 | refine AW.block ?_
 | refine AW.regl Q4_ok [0,1,2,6,7,8,9,10,11,12,13,14,15,16,17,18,19,20,30,38,54,62,71,87,102,108,109,132,138,139,162] ?_
 | (refine AW.regq (id:=28) Q4_ok follows bb_overdublaw10_DiskKeeps_28 (by kernel_rfl) [0,1,2,6,7,8,9,10,11,12,13,14,15,16,17,18,19,20,30,38,54,62,71,87,102,108,109,132,138,139,162] ?_)
 | (refine AW.regq (id:=36) Q4_ok follows bb_overdublaw10_DiskKeeps_36 (by kernel_rfl) [0,1,2,6,7,8,9,10,11,12,13,14,15,16,17,18,19,20,30,38,54,62,71,87,102,108,109,132,138,139,162] ?_)
 | refine then_n ?_
 | refine then_r ?_
 | refine then_x ?_
 | refine block_x ?_
 | refine block_o (by decide) ?_
 | refine block_n ?_
 | refine block_r ?_
 | refine AW.skip ?_
 | refine AW.ret ?_
 | refine AW.exit ?_
 | refine AW.cond rfl ?_ ?_
 | refine awl_none rfl ?_
 | refine awl_nil2 ?_
 | refine awl_some rfl rfl (Nat.le_of_ble_eq_true rfl) rfl rfl ?_ ?_
 | refine awc_none rfl ?_
 | refine awc_some rfl rfl (Nat.le_of_ble_eq_true rfl) rfl rfl ?_ ?_
 | refine awc_nilq (by kernel_rfl) (by kernel_rfl) ?_
 | (refine fun (hc : _ = _)=>?_;first|cases hc|((try rw [hc]);(try simp only [stH] at hc);(try (exfalso;omega)));(try ((first|show Awl _ _ _ _ _|show Awc _ _ _ _ _ _);simp only [stU])))
 | ((first|refine fun (K : V → List _ → _) hK=>?_|refine fun (_ : V → V)=>?_);simp (maxSteps:=1000000) (disch:=omega) only [go_sem,Int.reduceEq,↓reduceIte,reduceCtorEq,Nat.reduceEqDiff,Nat.reduceLT,Nat.reduceLeDiff,Nat.reduceAdd,Nat.reduceSub,Nat.reduceMul,Int.reduceToNat,Int.reduceLE,Int.reduceLT,Q4,Sp_disk_New,Sp_overdubkeep_Within,Sp_overdublaw10_full,Sm_disk_Disk_Write,Sm_disk_Disk_Flush,Sm_disk_Disk_Read,Sp_overdubkeep_Cut_bool,Sm_disk_Disk_Crash,Sm_disk_Disk_Waiting,Sp_overdublaw10_wakes,kA,hfo,o0,hn4,t4,List.drop_replicate,List.replicate_zero,List.append_nil,lentN,lentD,lent_and,V.d.injEq,V.ptr.injEq,Sg3,St.updIf,ifc_nil,gt_ifc,go_ifc,ite_self,Option.none_or,Option.some_or];(try (revert hK;intro hK;(repeat' first|(refine And.intro ?_ ?_)|(intro hc;first|cases hc|((try rw [hc]);(try simp only [stH] at hc);(try (exfalso;omega)))));all_goals first|(refine hK _ _ ?_;clear hK K;simp only [stU])|exact hK|omega)))) <;> (fail_if_success (show False;skip)))
    refine AW.loop_wk (fun p : Nat × Dk × List Int × List Int=>kB t kp p.1 p.2.1 p.2.2.1 p.2.2.2) (fun p=>p.1 ≤ min t.length 10 ∧ invK p.2.1 (kp.take 10) p.2.2.1 p.2.2.2 p.1) (fun p=>10 - p.1) (0,d1,want,want) ⟨Nat.zero_le _,hif⟩ (fun w0 oa a w hs=>Wk.sr (ρ:=nm [(22,22),(1022,1022),(200,2061),(9,9),(12,12)]) (Wk.of ?_) hs) ?_
    · simp (maxSteps:=1000000) (disch:=omega) only [go_sem,Int.reduceEq,↓reduceIte,reduceCtorEq,Nat.reduceEqDiff,Nat.reduceLT,Nat.reduceLeDiff,Nat.reduceAdd,Nat.reduceSub,Nat.reduceMul,Int.reduceToNat,Int.reduceLE,Int.reduceLT,Q4,Sp_disk_New,Sp_overdubkeep_Within,Sp_overdublaw10_full,Sm_disk_Disk_Write,Sm_disk_Disk_Flush,Sm_disk_Disk_Read,Sp_overdubkeep_Cut_bool,Sm_disk_Disk_Crash,Sm_disk_Disk_Waiting,Sp_overdublaw10_wakes,kB,ren_B,List.forall_mem_map]
      all_goals rfl
    clear o0 hfo hif t4 hn4 hi hd1
    rintro ⟨k,d,want,now⟩ ⟨hk,hi⟩
    simp only at hk hi
    have o0 : okD d = True:=eq_true hi.ok
    by_cases hk1 : k < min t.length 10
    · have e0:=nth_I t k (by omega)
      have hwx:=within_rngC (v:=t.getD k 0) (n:=4) (by omega)
      obtain ⟨q,hq⟩ : ∃ q : Nat,within (t.getD k 0) 4 = q:=⟨(within (t.getD k 0) 4).toNat,by omega⟩
      have hq4 : q < 4:=by omega
      clear hwx
      have hw8 : IntKind.u8.wrap (101 + (k : Int)) = 101 + (k : Int):=by rw [wrap_u8];omega
      have hst:=fullL_take [101 + (k : Int)]
      have hsl:=fullL_len [101 + (k : Int)]
      have h2:=invK_wr (i:=q) (x:=101 + (k : Int)) hi (by omega) hq4
      have hwo:=write_ok (d:=d) (i:=(q : Int)) (s:=fullL [101 + (k : Int)]) ⟨by omega,by rw [hi.kl];omega⟩ hsl (by simp [deadN,hi.dd,hi.st])
      have hb:=box_set (l:=now) (j:=q) (101 + (k : Int)) (by rw [hi.n4];omega)
      have hb2:=box_set (l:=want) (j:=q) (101 + (k : Int)) (by rw [hi.w4];omega)
      have hn4:=hi.n4
      have hw4:=hi.w4
      obtain ⟨S,hS⟩ : ∃ S,fullL [101 + (k : Int)] = S:=⟨_,rfl⟩
      rw [hS] at hst hsl hwo h2
      obtain ⟨d1,hd1⟩ : ∃ d1,wrD d q S = d1:=⟨_,rfl⟩
      rw [hd1] at hwo h2
      have htk : (kp.take 10).getD k false = kp.getD k false:=by
        simp only [List.getD_eq_getElem?_getD,List.getElem?_take];rw [if_pos (by omega)]
      rw [htk] at h2
      by_cases hkk : k < kp.length
      · have e2:=nth_L kp k hkk
        cases hkb : kp.getD k false with
        | true =>
          rw [hkb] at e2
          rw [hkb,if_pos rfl] at h2
          repeat' ((first
 | refine AW.seq ?_
 | refine AW.block ?_
 | refine AW.regl Q4_ok [0,1,2,6,7,8,9,10,11,12,13,14,15,16,17,18,19,20,30,38,54,62,71,87,102,108,109,132,138,139,162] ?_
 | (refine AW.regq (id:=28) Q4_ok follows bb_overdublaw10_DiskKeeps_28 (by kernel_rfl) [0,1,2,6,7,8,9,10,11,12,13,14,15,16,17,18,19,20,30,38,54,62,71,87,102,108,109,132,138,139,162] ?_)
 | (refine AW.regq (id:=36) Q4_ok follows bb_overdublaw10_DiskKeeps_36 (by kernel_rfl) [0,1,2,6,7,8,9,10,11,12,13,14,15,16,17,18,19,20,30,38,54,62,71,87,102,108,109,132,138,139,162] ?_)
 | refine then_n ?_
 | refine then_r ?_
 | refine then_x ?_
 | refine block_x ?_
 | refine block_o (by decide) ?_
 | refine block_n ?_
 | refine block_r ?_
 | refine AW.skip ?_
 | refine AW.ret ?_
 | refine AW.exit ?_
 | refine AW.cond rfl ?_ ?_
 | refine awl_none rfl ?_
 | refine awl_nil2 ?_
 | refine awl_some rfl rfl (Nat.le_of_ble_eq_true rfl) rfl rfl ?_ ?_
 | refine awc_none rfl ?_
 | refine awc_some rfl rfl (Nat.le_of_ble_eq_true rfl) rfl rfl ?_ ?_
 | refine awc_nilq (by kernel_rfl) (by kernel_rfl) ?_
 | (refine fun (hc : _ = _)=>?_;first|cases hc|((try rw [hc]);(try simp only [stH] at hc);(try (exfalso;omega)));(try ((first|show Awl _ _ _ _ _|show Awc _ _ _ _ _ _);simp only [stU])))
 | ((first|refine fun (K : V → List _ → _) hK=>?_|refine fun (_ : V → V)=>?_);simp (maxSteps:=1000000) (disch:=omega) only [go_sem,Int.reduceEq,↓reduceIte,reduceCtorEq,Nat.reduceEqDiff,Nat.reduceLT,Nat.reduceLeDiff,Nat.reduceAdd,Nat.reduceSub,Nat.reduceMul,Int.reduceToNat,Int.reduceLE,Int.reduceLT,Q4,Sp_disk_New,Sp_overdubkeep_Within,Sp_overdublaw10_full,Sm_disk_Disk_Write,Sm_disk_Disk_Flush,Sm_disk_Disk_Read,Sp_overdubkeep_Cut_bool,Sm_disk_Disk_Crash,Sm_disk_Disk_Waiting,Sp_overdublaw10_wakes,kB,e0,e2,hq,hwo,o0,hb,hb2,hn4,hw4,hw8,one_mB,hS,hst,hsl,lentN,lentD,lent_and,all_I,all_L,mB_inj,V.d.injEq,V.ptr.injEq,Nat.mul_one,Sg3,St.updIf,ifc_nil,gt_ifc,go_ifc,ite_self,Option.none_or,Option.some_or];(try (revert hK;intro hK;(repeat' first|(refine And.intro ?_ ?_)|(intro hc;first|cases hc|((try rw [hc]);(try simp only [stH] at hc);(try (exfalso;omega)))));all_goals first|(refine hK _ _ ?_;clear hK K;simp only [stU])|exact hK|omega)))) <;> (fail_if_success (show False;skip)))
          refine ⟨(k + 1,d1,want.set q (101 + (k : Int)),now.set q (101 + (k : Int))),by dsimp only;omega,h2,by dsimp only;omega,nm [(22,22),(1022,1022),(200,2086),(9,9),(12,12)],Wk.of ?_⟩
          simp (maxSteps:=1000000) (disch:=omega) only [go_sem,Int.reduceEq,↓reduceIte,reduceCtorEq,Nat.reduceEqDiff,Nat.reduceLT,Nat.reduceLeDiff,Nat.reduceAdd,Nat.reduceSub,Nat.reduceMul,Int.reduceToNat,Int.reduceLE,Int.reduceLT,Q4,Sp_disk_New,Sp_overdubkeep_Within,Sp_overdublaw10_full,Sm_disk_Disk_Write,Sm_disk_Disk_Flush,Sm_disk_Disk_Read,Sp_overdubkeep_Cut_bool,Sm_disk_Disk_Crash,Sm_disk_Disk_Waiting,Sp_overdublaw10_wakes,kB,ren_B,List.forall_mem_map]
          rfl
        | false =>
          rw [hkb] at e2
          rw [hkb,if_neg (by simp)] at h2
          repeat' ((first
 | refine AW.seq ?_
 | refine AW.block ?_
 | refine AW.regl Q4_ok [0,1,2,6,7,8,9,10,11,12,13,14,15,16,17,18,19,20,30,38,54,62,71,87,102,108,109,132,138,139,162] ?_
 | (refine AW.regq (id:=28) Q4_ok follows bb_overdublaw10_DiskKeeps_28 (by kernel_rfl) [0,1,2,6,7,8,9,10,11,12,13,14,15,16,17,18,19,20,30,38,54,62,71,87,102,108,109,132,138,139,162] ?_)
 | (refine AW.regq (id:=36) Q4_ok follows bb_overdublaw10_DiskKeeps_36 (by kernel_rfl) [0,1,2,6,7,8,9,10,11,12,13,14,15,16,17,18,19,20,30,38,54,62,71,87,102,108,109,132,138,139,162] ?_)
 | refine then_n ?_
 | refine then_r ?_
 | refine then_x ?_
 | refine block_x ?_
 | refine block_o (by decide) ?_
 | refine block_n ?_
 | refine block_r ?_
 | refine AW.skip ?_
 | refine AW.ret ?_
 | refine AW.exit ?_
 | refine AW.cond rfl ?_ ?_
 | refine awl_none rfl ?_
 | refine awl_nil2 ?_
 | refine awl_some rfl rfl (Nat.le_of_ble_eq_true rfl) rfl rfl ?_ ?_
 | refine awc_none rfl ?_
 | refine awc_some rfl rfl (Nat.le_of_ble_eq_true rfl) rfl rfl ?_ ?_
 | refine awc_nilq (by kernel_rfl) (by kernel_rfl) ?_
 | (refine fun (hc : _ = _)=>?_;first|cases hc|((try rw [hc]);(try simp only [stH] at hc);(try (exfalso;omega)));(try ((first|show Awl _ _ _ _ _|show Awc _ _ _ _ _ _);simp only [stU])))
 | ((first|refine fun (K : V → List _ → _) hK=>?_|refine fun (_ : V → V)=>?_);simp (maxSteps:=1000000) (disch:=omega) only [go_sem,Int.reduceEq,↓reduceIte,reduceCtorEq,Nat.reduceEqDiff,Nat.reduceLT,Nat.reduceLeDiff,Nat.reduceAdd,Nat.reduceSub,Nat.reduceMul,Int.reduceToNat,Int.reduceLE,Int.reduceLT,Q4,Sp_disk_New,Sp_overdubkeep_Within,Sp_overdublaw10_full,Sm_disk_Disk_Write,Sm_disk_Disk_Flush,Sm_disk_Disk_Read,Sp_overdubkeep_Cut_bool,Sm_disk_Disk_Crash,Sm_disk_Disk_Waiting,Sp_overdublaw10_wakes,kB,e0,e2,hq,hwo,o0,hb,hb2,hn4,hw4,hw8,one_mB,hS,hst,hsl,lentN,lentD,lent_and,all_I,all_L,mB_inj,V.d.injEq,V.ptr.injEq,Nat.mul_one,Sg3,St.updIf,ifc_nil,gt_ifc,go_ifc,ite_self,Option.none_or,Option.some_or];(try (revert hK;intro hK;(repeat' first|(refine And.intro ?_ ?_)|(intro hc;first|cases hc|((try rw [hc]);(try simp only [stH] at hc);(try (exfalso;omega)))));all_goals first|(refine hK _ _ ?_;clear hK K;simp only [stU])|exact hK|omega)))) <;> (fail_if_success (show False;skip)))
          refine ⟨(k + 1,d1,want,now.set q (101 + (k : Int))),by dsimp only;omega,h2,by dsimp only;omega,nm [(22,22),(1022,1022),(200,2086),(9,9),(12,12)],Wk.of ?_⟩
          simp (maxSteps:=1000000) (disch:=omega) only [go_sem,Int.reduceEq,↓reduceIte,reduceCtorEq,Nat.reduceEqDiff,Nat.reduceLT,Nat.reduceLeDiff,Nat.reduceAdd,Nat.reduceSub,Nat.reduceMul,Int.reduceToNat,Int.reduceLE,Int.reduceLT,Q4,Sp_disk_New,Sp_overdubkeep_Within,Sp_overdublaw10_full,Sm_disk_Disk_Write,Sm_disk_Disk_Flush,Sm_disk_Disk_Read,Sp_overdubkeep_Cut_bool,Sm_disk_Disk_Crash,Sm_disk_Disk_Waiting,Sp_overdublaw10_wakes,kB,ren_B,List.forall_mem_map]
          rfl
      · have hkb : kp.getD k false = false:=by simp [List.getD_eq_getElem?_getD,List.getElem?_eq_none (by omega : kp.length ≤ k)]
        rw [hkb,if_neg (by simp)] at h2
        repeat' ((first
 | refine AW.seq ?_
 | refine AW.block ?_
 | refine AW.regl Q4_ok [0,1,2,6,7,8,9,10,11,12,13,14,15,16,17,18,19,20,30,38,54,62,71,87,102,108,109,132,138,139,162] ?_
 | (refine AW.regq (id:=28) Q4_ok follows bb_overdublaw10_DiskKeeps_28 (by kernel_rfl) [0,1,2,6,7,8,9,10,11,12,13,14,15,16,17,18,19,20,30,38,54,62,71,87,102,108,109,132,138,139,162] ?_)
 | (refine AW.regq (id:=36) Q4_ok follows bb_overdublaw10_DiskKeeps_36 (by kernel_rfl) [0,1,2,6,7,8,9,10,11,12,13,14,15,16,17,18,19,20,30,38,54,62,71,87,102,108,109,132,138,139,162] ?_)
 | refine then_n ?_
 | refine then_r ?_
 | refine then_x ?_
 | refine block_x ?_
 | refine block_o (by decide) ?_
 | refine block_n ?_
 | refine block_r ?_
 | refine AW.skip ?_
 | refine AW.ret ?_
 | refine AW.exit ?_
 | refine AW.cond rfl ?_ ?_
 | refine awl_none rfl ?_
 | refine awl_nil2 ?_
 | refine awl_some rfl rfl (Nat.le_of_ble_eq_true rfl) rfl rfl ?_ ?_
 | refine awc_none rfl ?_
 | refine awc_some rfl rfl (Nat.le_of_ble_eq_true rfl) rfl rfl ?_ ?_
 | refine awc_nilq (by kernel_rfl) (by kernel_rfl) ?_
 | (refine fun (hc : _ = _)=>?_;first|cases hc|((try rw [hc]);(try simp only [stH] at hc);(try (exfalso;omega)));(try ((first|show Awl _ _ _ _ _|show Awc _ _ _ _ _ _);simp only [stU])))
 | ((first|refine fun (K : V → List _ → _) hK=>?_|refine fun (_ : V → V)=>?_);simp (maxSteps:=1000000) (disch:=omega) only [go_sem,Int.reduceEq,↓reduceIte,reduceCtorEq,Nat.reduceEqDiff,Nat.reduceLT,Nat.reduceLeDiff,Nat.reduceAdd,Nat.reduceSub,Nat.reduceMul,Int.reduceToNat,Int.reduceLE,Int.reduceLT,Q4,Sp_disk_New,Sp_overdubkeep_Within,Sp_overdublaw10_full,Sm_disk_Disk_Write,Sm_disk_Disk_Flush,Sm_disk_Disk_Read,Sp_overdubkeep_Cut_bool,Sm_disk_Disk_Crash,Sm_disk_Disk_Waiting,Sp_overdublaw10_wakes,kB,e0,hq,hwo,o0,hb,hb2,hn4,hw4,hw8,one_mB,hS,hst,hsl,lentN,lentD,lent_and,all_I,all_L,mB_inj,V.d.injEq,V.ptr.injEq,Nat.mul_one,Sg3,St.updIf,ifc_nil,gt_ifc,go_ifc,ite_self,Option.none_or,Option.some_or];(try (revert hK;intro hK;(repeat' first|(refine And.intro ?_ ?_)|(intro hc;first|cases hc|((try rw [hc]);(try simp only [stH] at hc);(try (exfalso;omega)))));all_goals first|(refine hK _ _ ?_;clear hK K;simp only [stU])|exact hK|omega)))) <;> (fail_if_success (show False;skip)))
        refine ⟨(k + 1,d1,want,now.set q (101 + (k : Int))),by dsimp only;omega,h2,by dsimp only;omega,nm [(22,22),(1022,1022),(200,2086),(9,9),(12,12)],Wk.of ?_⟩
        simp (maxSteps:=1000000) (disch:=omega) only [go_sem,Int.reduceEq,↓reduceIte,reduceCtorEq,Nat.reduceEqDiff,Nat.reduceLT,Nat.reduceLeDiff,Nat.reduceAdd,Nat.reduceSub,Nat.reduceMul,Int.reduceToNat,Int.reduceLE,Int.reduceLT,Q4,Sp_disk_New,Sp_overdubkeep_Within,Sp_overdublaw10_full,Sm_disk_Disk_Write,Sm_disk_Disk_Flush,Sm_disk_Disk_Read,Sp_overdubkeep_Cut_bool,Sm_disk_Disk_Crash,Sm_disk_Disk_Waiting,Sp_overdublaw10_wakes,kB,ren_B,List.forall_mem_map]
        rfl
    repeat' ((first
 | refine AW.seq ?_
 | refine AW.block ?_
 | refine AW.regl Q4_ok [0,1,2,6,7,8,9,10,11,12,13,14,15,16,17,18,19,20,30,38,54,62,71,87,102,108,109,132,138,139,162] ?_
 | (refine AW.regq (id:=28) Q4_ok follows bb_overdublaw10_DiskKeeps_28 (by kernel_rfl) [0,1,2,6,7,8,9,10,11,12,13,14,15,16,17,18,19,20,30,38,54,62,71,87,102,108,109,132,138,139,162] ?_)
 | (refine AW.regq (id:=36) Q4_ok follows bb_overdublaw10_DiskKeeps_36 (by kernel_rfl) [0,1,2,6,7,8,9,10,11,12,13,14,15,16,17,18,19,20,30,38,54,62,71,87,102,108,109,132,138,139,162] ?_)
 | refine then_n ?_
 | refine then_r ?_
 | refine then_x ?_
 | refine block_x ?_
 | refine block_o (by decide) ?_
 | refine block_n ?_
 | refine block_r ?_
 | refine AW.skip ?_
 | refine AW.ret ?_
 | refine AW.exit ?_
 | refine AW.cond rfl ?_ ?_
 | refine awl_none rfl ?_
 | refine awl_nil2 ?_
 | refine awl_some rfl rfl (Nat.le_of_ble_eq_true rfl) rfl rfl ?_ ?_
 | refine awc_none rfl ?_
 | refine awc_some rfl rfl (Nat.le_of_ble_eq_true rfl) rfl rfl ?_ ?_
 | refine awc_nilq (by kernel_rfl) (by kernel_rfl) ?_
 | (refine fun (hc : _ = _)=>?_;first|cases hc|((try rw [hc]);(try simp only [stH] at hc);(try (exfalso;omega)));(try ((first|show Awl _ _ _ _ _|show Awc _ _ _ _ _ _);simp only [stU])))
 | ((first|refine fun (K : V → List _ → _) hK=>?_|refine fun (_ : V → V)=>?_);simp (maxSteps:=1000000) (disch:=omega) only [go_sem,Int.reduceEq,↓reduceIte,reduceCtorEq,Nat.reduceEqDiff,Nat.reduceLT,Nat.reduceLeDiff,Nat.reduceAdd,Nat.reduceSub,Nat.reduceMul,Int.reduceToNat,Int.reduceLE,Int.reduceLT,Q4,Sp_disk_New,Sp_overdubkeep_Within,Sp_overdublaw10_full,Sm_disk_Disk_Write,Sm_disk_Disk_Flush,Sm_disk_Disk_Read,Sp_overdubkeep_Cut_bool,Sm_disk_Disk_Crash,Sm_disk_Disk_Waiting,Sp_overdublaw10_wakes,kB,Sg3,St.updIf,ifc_nil,gt_ifc,go_ifc,ite_self,Option.none_or,Option.some_or];(try (revert hK;intro hK;(repeat' first|(refine And.intro ?_ ?_)|(intro hc;first|cases hc|((try rw [hc]);(try simp only [stH] at hc);(try (exfalso;omega)))));all_goals first|(refine hK _ _ ?_;clear hK K;simp only [stU])|exact hK|omega)))) <;> (fail_if_success (show False;skip)))
    all_goals refine ⟨(k,d,want,now),hi,nm [(22,22),(1022,1022),(200,200),(9,9),(12,12)],Wk.of ?_⟩
    all_goals simp (maxSteps:=1000000) (disch:=omega) only [go_sem,Int.reduceEq,↓reduceIte,reduceCtorEq,Nat.reduceEqDiff,Nat.reduceLT,Nat.reduceLeDiff,Nat.reduceAdd,Nat.reduceSub,Nat.reduceMul,Int.reduceToNat,Int.reduceLE,Int.reduceLT,Q4,Sp_disk_New,Sp_overdubkeep_Within,Sp_overdublaw10_full,Sm_disk_Disk_Write,Sm_disk_Disk_Flush,Sm_disk_Disk_Read,Sp_overdubkeep_Cut_bool,Sm_disk_Disk_Crash,Sm_disk_Disk_Waiting,Sp_overdublaw10_wakes,kB,ren_B,List.forall_mem_map]
    all_goals rfl
  clear o0 hfo hif t4 hn4 hi hd1
  rintro ⟨k,d,want,now⟩ hi
  simp only at hi
  repeat' ((first
 | refine AW.seq ?_
 | refine AW.block ?_
 | refine AW.regl Q4_ok [0,1,2,6,7,8,9,10,11,12,13,14,15,16,17,18,19,20,30,38,54,62,71,87,102,108,109,132,138,139,162] ?_
 | (refine AW.regq (id:=28) Q4_ok follows bb_overdublaw10_DiskKeeps_28 (by kernel_rfl) [0,1,2,6,7,8,9,10,11,12,13,14,15,16,17,18,19,20,30,38,54,62,71,87,102,108,109,132,138,139,162] ?_)
 | (refine AW.regq (id:=36) Q4_ok follows bb_overdublaw10_DiskKeeps_36 (by kernel_rfl) [0,1,2,6,7,8,9,10,11,12,13,14,15,16,17,18,19,20,30,38,54,62,71,87,102,108,109,132,138,139,162] ?_)
 | refine then_n ?_
 | refine then_r ?_
 | refine then_x ?_
 | refine block_x ?_
 | refine block_o (by decide) ?_
 | refine block_n ?_
 | refine block_r ?_
 | refine AW.skip ?_
 | refine AW.ret ?_
 | refine AW.exit ?_
 | refine AW.cond rfl ?_ ?_
 | refine awl_none rfl ?_
 | refine awl_nil2 ?_
 | refine awl_some rfl rfl (Nat.le_of_ble_eq_true rfl) rfl rfl ?_ ?_
 | refine awc_none rfl ?_
 | refine awc_some rfl rfl (Nat.le_of_ble_eq_true rfl) rfl rfl ?_ ?_
 | refine awc_nilq (by kernel_rfl) (by kernel_rfl) ?_
 | (refine fun (hc : _ = _)=>?_;first|cases hc|((try rw [hc]);(try simp only [stH] at hc);(try (exfalso;omega)));(try ((first|show Awl _ _ _ _ _|show Awc _ _ _ _ _ _);simp only [stU])))
 | ((first|refine fun (K : V → List _ → _) hK=>?_|refine fun (_ : V → V)=>?_);simp (maxSteps:=1000000) (disch:=omega) only [go_sem,Int.reduceEq,↓reduceIte,reduceCtorEq,Nat.reduceEqDiff,Nat.reduceLT,Nat.reduceLeDiff,Nat.reduceAdd,Nat.reduceSub,Nat.reduceMul,Int.reduceToNat,Int.reduceLE,Int.reduceLT,Q4,Sp_disk_New,Sp_overdubkeep_Within,Sp_overdublaw10_full,Sm_disk_Disk_Write,Sm_disk_Disk_Flush,Sm_disk_Disk_Read,Sp_overdubkeep_Cut_bool,Sm_disk_Disk_Crash,Sm_disk_Disk_Waiting,Sp_overdublaw10_wakes,kB,Sg3,St.updIf,ifc_nil,gt_ifc,go_ifc,ite_self,Option.none_or,Option.some_or];(try (revert hK;intro hK;(repeat' first|(refine And.intro ?_ ?_)|(intro hc;first|cases hc|((try rw [hc]);(try simp only [stH] at hc);(try (exfalso;omega)))));all_goals first|(refine hK _ _ ?_;clear hK K;simp only [stU])|exact hK|omega)))) <;> (fail_if_success (show False;skip)))
  refine AW.loop_wk (fun p : Nat × Dk=>kC kp p.1 p.2 want now) (fun p=>p.1 ≤ 4 ∧ invK p.2 (kp.take 10) want now k) (fun p=>4 - p.1) (0,d) ⟨Nat.zero_le _,hi⟩ (fun w0 oa a w hs=>Wk.sr (ρ:=nm [(22,22),(1022,1022),(200,200),(9,9),(12,12)]) (Wk.of ?_) hs) ?_
  · simp (maxSteps:=1000000) (disch:=omega) only [go_sem,Int.reduceEq,↓reduceIte,reduceCtorEq,Nat.reduceEqDiff,Nat.reduceLT,Nat.reduceLeDiff,Nat.reduceAdd,Nat.reduceSub,Nat.reduceMul,Int.reduceToNat,Int.reduceLE,Int.reduceLT,Q4,Sp_disk_New,Sp_overdubkeep_Within,Sp_overdublaw10_full,Sm_disk_Disk_Write,Sm_disk_Disk_Flush,Sm_disk_Disk_Read,Sp_overdubkeep_Cut_bool,Sm_disk_Disk_Crash,Sm_disk_Disk_Waiting,Sp_overdublaw10_wakes,kC,ren_B,List.forall_mem_map]
  clear hi
  have hdn : ∀ x : Int,decide (¬ x = x) = false:=fun x=>decide_eq_false (by simp)
  rintro ⟨j,e⟩ ⟨hj,he⟩
  simp only at hj he
  have o1 : okD e = True:=eq_true he.ok
  by_cases hj4 : j < 4
  · have hro:=read_ok (d:=e) (i:=(j : Int)) ⟨by omega,by rw [he.kl];omega⟩ he.dd
    have hrl:=readL_len he.ok (j:=j) (by rw [he.kl];exact hj4)
    have hrn:=he.rn j hj4
    obtain ⟨R,hR⟩ : ∃ R,readL e j = R:=⟨_,rfl⟩
    rw [hR] at hro hrl hrn
    have r0:=nth_B R 0 (by omega)
    rw [hrn] at r0
    have bn:=box_get (l:=now) (j:=j) (by rw [he.n4];exact hj4)
    have hn4:=he.n4
    repeat' ((first
 | refine AW.seq ?_
 | refine AW.block ?_
 | refine AW.regl Q4_ok [0,1,2,6,7,8,9,10,11,12,13,14,15,16,17,18,19,20,30,38,54,62,71,87,102,108,109,132,138,139,162] ?_
 | (refine AW.regq (id:=28) Q4_ok follows bb_overdublaw10_DiskKeeps_28 (by kernel_rfl) [0,1,2,6,7,8,9,10,11,12,13,14,15,16,17,18,19,20,30,38,54,62,71,87,102,108,109,132,138,139,162] ?_)
 | (refine AW.regq (id:=36) Q4_ok follows bb_overdublaw10_DiskKeeps_36 (by kernel_rfl) [0,1,2,6,7,8,9,10,11,12,13,14,15,16,17,18,19,20,30,38,54,62,71,87,102,108,109,132,138,139,162] ?_)
 | refine then_n ?_
 | refine then_r ?_
 | refine then_x ?_
 | refine block_x ?_
 | refine block_o (by decide) ?_
 | refine block_n ?_
 | refine block_r ?_
 | refine AW.skip ?_
 | refine AW.ret ?_
 | refine AW.exit ?_
 | refine AW.cond rfl ?_ ?_
 | refine awl_none rfl ?_
 | refine awl_nil2 ?_
 | refine awl_some rfl rfl (Nat.le_of_ble_eq_true rfl) rfl rfl ?_ ?_
 | refine awc_none rfl ?_
 | refine awc_some rfl rfl (Nat.le_of_ble_eq_true rfl) rfl rfl ?_ ?_
 | refine awc_nilq (by kernel_rfl) (by kernel_rfl) ?_
 | (refine fun (hc : _ = _)=>?_;first|cases hc|((try rw [hc]);(try simp only [stH] at hc);(try (exfalso;omega)));(try ((first|show Awl _ _ _ _ _|show Awc _ _ _ _ _ _);simp only [stU])))
 | ((first|refine fun (K : V → List _ → _) hK=>?_|refine fun (_ : V → V)=>?_);simp (maxSteps:=1000000) (disch:=omega) only [go_sem,Int.reduceEq,↓reduceIte,reduceCtorEq,Nat.reduceEqDiff,Nat.reduceLT,Nat.reduceLeDiff,Nat.reduceAdd,Nat.reduceSub,Nat.reduceMul,Int.reduceToNat,Int.reduceLE,Int.reduceLT,Q4,Sp_disk_New,Sp_overdubkeep_Within,Sp_overdublaw10_full,Sm_disk_Disk_Write,Sm_disk_Disk_Flush,Sm_disk_Disk_Read,Sp_overdubkeep_Cut_bool,Sm_disk_Disk_Crash,Sm_disk_Disk_Waiting,Sp_overdublaw10_wakes,kC,o1,hro,hrl,r0,bn,hdn,hn4,lentN,lentD,lent_and,V.d.injEq,V.ptr.injEq,Nat.mul_one,Sg3,St.updIf,ifc_nil,gt_ifc,go_ifc,ite_self,Option.none_or,Option.some_or];(try (revert hK;intro hK;(repeat' first|(refine And.intro ?_ ?_)|(intro hc;first|cases hc|((try rw [hc]);(try simp only [stH] at hc);(try (exfalso;omega)))));all_goals first|(refine hK _ _ ?_;clear hK K;simp only [stU])|exact hK|omega)))) <;> (fail_if_success (show False;skip)))
    refine ⟨(j + 1,rdD e),by dsimp only;omega,invK_rd he,by dsimp only;omega,nm [(22,22),(1022,1022),(200,200),(9,9),(12,12)],Wk.of ?_⟩
    simp (maxSteps:=1000000) (disch:=omega) only [go_sem,Int.reduceEq,↓reduceIte,reduceCtorEq,Nat.reduceEqDiff,Nat.reduceLT,Nat.reduceLeDiff,Nat.reduceAdd,Nat.reduceSub,Nat.reduceMul,Int.reduceToNat,Int.reduceLE,Int.reduceLT,Q4,Sp_disk_New,Sp_overdubkeep_Within,Sp_overdublaw10_full,Sm_disk_Disk_Write,Sm_disk_Disk_Flush,Sm_disk_Disk_Read,Sp_overdubkeep_Cut_bool,Sm_disk_Disk_Crash,Sm_disk_Disk_Waiting,Sp_overdublaw10_wakes,kC,ren_B,List.forall_mem_map]
    rfl
  have hcr:=invV_cr he
  have hktl : (kp.take 10).length ≤ 9223372036854775807:=by rw [List.length_take];omega
  obtain ⟨kq,hkq⟩ : ∃ kq,kp.take 10 = kq:=⟨_,rfl⟩
  rw [hkq] at hcr hktl
  obtain ⟨d1,hd1⟩ : ∃ d1,crD e kq = d1:=⟨_,rfl⟩
  rw [hd1] at hcr
  repeat' ((first
 | refine AW.seq ?_
 | refine AW.block ?_
 | refine AW.regl Q4_ok [0,1,2,6,7,8,9,10,11,12,13,14,15,16,17,18,19,20,30,38,54,62,71,87,102,108,109,132,138,139,162] ?_
 | (refine AW.regq (id:=28) Q4_ok follows bb_overdublaw10_DiskKeeps_28 (by kernel_rfl) [0,1,2,6,7,8,9,10,11,12,13,14,15,16,17,18,19,20,30,38,54,62,71,87,102,108,109,132,138,139,162] ?_)
 | (refine AW.regq (id:=36) Q4_ok follows bb_overdublaw10_DiskKeeps_36 (by kernel_rfl) [0,1,2,6,7,8,9,10,11,12,13,14,15,16,17,18,19,20,30,38,54,62,71,87,102,108,109,132,138,139,162] ?_)
 | refine then_n ?_
 | refine then_r ?_
 | refine then_x ?_
 | refine block_x ?_
 | refine block_o (by decide) ?_
 | refine block_n ?_
 | refine block_r ?_
 | refine AW.skip ?_
 | refine AW.ret ?_
 | refine AW.exit ?_
 | refine AW.cond rfl ?_ ?_
 | refine awl_none rfl ?_
 | refine awl_nil2 ?_
 | refine awl_some rfl rfl (Nat.le_of_ble_eq_true rfl) rfl rfl ?_ ?_
 | refine awc_none rfl ?_
 | refine awc_some rfl rfl (Nat.le_of_ble_eq_true rfl) rfl rfl ?_ ?_
 | refine awc_nilq (by kernel_rfl) (by kernel_rfl) ?_
 | (refine fun (hc : _ = _)=>?_;first|cases hc|((try rw [hc]);(try simp only [stH] at hc);(try (exfalso;omega)));(try ((first|show Awl _ _ _ _ _|show Awc _ _ _ _ _ _);simp only [stU])))
 | ((first|refine fun (K : V → List _ → _) hK=>?_|refine fun (_ : V → V)=>?_);simp (maxSteps:=1000000) (disch:=omega) only [go_sem,Int.reduceEq,↓reduceIte,reduceCtorEq,Nat.reduceEqDiff,Nat.reduceLT,Nat.reduceLeDiff,Nat.reduceAdd,Nat.reduceSub,Nat.reduceMul,Int.reduceToNat,Int.reduceLE,Int.reduceLT,Q4,Sp_disk_New,Sp_overdubkeep_Within,Sp_overdublaw10_full,Sm_disk_Disk_Write,Sm_disk_Disk_Flush,Sm_disk_Disk_Read,Sp_overdubkeep_Cut_bool,Sm_disk_Disk_Crash,Sm_disk_Disk_Waiting,Sp_overdublaw10_wakes,kC,o1,hkq,hktl,hd1,bD_inj,lentN,lentD,lent_and,V.d.injEq,V.ptr.injEq,Sg3,St.updIf,ifc_nil,gt_ifc,go_ifc,ite_self,Option.none_or,Option.some_or];(try (revert hK;intro hK;(repeat' first|(refine And.intro ?_ ?_)|(intro hc;first|cases hc|((try rw [hc]);(try simp only [stH] at hc);(try (exfalso;omega)))));all_goals first|(refine hK _ _ ?_;clear hK K;simp only [stU])|exact hK|omega)))) <;> (fail_if_success (show False;skip)))
  refine AW.loop_wk (fun p : Nat × Dk=>kE p.1 p.2 want) (fun p=>p.1 ≤ 4 ∧ invV p.2 want 0) (fun p=>4 - p.1) (0,d1) ⟨Nat.zero_le _,hcr⟩ (fun w0 oa a w hs=>Wk.sr (ρ:=nm [(22,22),(1022,1022),(200,2137),(9,9)]) (Wk.of ?_) hs) ?_
  · simp (maxSteps:=1000000) (disch:=omega) only [go_sem,Int.reduceEq,↓reduceIte,reduceCtorEq,Nat.reduceEqDiff,Nat.reduceLT,Nat.reduceLeDiff,Nat.reduceAdd,Nat.reduceSub,Nat.reduceMul,Int.reduceToNat,Int.reduceLE,Int.reduceLT,Q4,Sp_disk_New,Sp_overdubkeep_Within,Sp_overdublaw10_full,Sm_disk_Disk_Write,Sm_disk_Disk_Flush,Sm_disk_Disk_Read,Sp_overdubkeep_Cut_bool,Sm_disk_Disk_Crash,Sm_disk_Disk_Waiting,Sp_overdublaw10_wakes,kE,ren_B,List.forall_mem_map]
  clear hcr he o1 hd1
  rintro ⟨j,e⟩ ⟨hj,he⟩
  simp only at hj he
  have o1 : okD e = True:=eq_true he.ok
  by_cases hj4 : j < 4
  · have hro:=read_ok (d:=e) (i:=(j : Int)) ⟨by omega,by rw [he.kl];omega⟩ he.dd
    have hrl:=readL_len he.ok (j:=j) (by rw [he.kl];exact hj4)
    have hrn:=he.rn j hj4
    obtain ⟨R,hR⟩ : ∃ R,readL e j = R:=⟨_,rfl⟩
    rw [hR] at hro hrl hrn
    have r0:=nth_B R 0 (by omega)
    rw [hrn] at r0
    have bn:=box_get (l:=want) (j:=j) (by rw [he.v4];exact hj4)
    have hn4:=he.v4
    repeat' ((first
 | refine AW.seq ?_
 | refine AW.block ?_
 | refine AW.regl Q4_ok [0,1,2,6,7,8,9,10,11,12,13,14,15,16,17,18,19,20,30,38,54,62,71,87,102,108,109,132,138,139,162] ?_
 | (refine AW.regq (id:=28) Q4_ok follows bb_overdublaw10_DiskKeeps_28 (by kernel_rfl) [0,1,2,6,7,8,9,10,11,12,13,14,15,16,17,18,19,20,30,38,54,62,71,87,102,108,109,132,138,139,162] ?_)
 | (refine AW.regq (id:=36) Q4_ok follows bb_overdublaw10_DiskKeeps_36 (by kernel_rfl) [0,1,2,6,7,8,9,10,11,12,13,14,15,16,17,18,19,20,30,38,54,62,71,87,102,108,109,132,138,139,162] ?_)
 | refine then_n ?_
 | refine then_r ?_
 | refine then_x ?_
 | refine block_x ?_
 | refine block_o (by decide) ?_
 | refine block_n ?_
 | refine block_r ?_
 | refine AW.skip ?_
 | refine AW.ret ?_
 | refine AW.exit ?_
 | refine AW.cond rfl ?_ ?_
 | refine awl_none rfl ?_
 | refine awl_nil2 ?_
 | refine awl_some rfl rfl (Nat.le_of_ble_eq_true rfl) rfl rfl ?_ ?_
 | refine awc_none rfl ?_
 | refine awc_some rfl rfl (Nat.le_of_ble_eq_true rfl) rfl rfl ?_ ?_
 | refine awc_nilq (by kernel_rfl) (by kernel_rfl) ?_
 | (refine fun (hc : _ = _)=>?_;first|cases hc|((try rw [hc]);(try simp only [stH] at hc);(try (exfalso;omega)));(try ((first|show Awl _ _ _ _ _|show Awc _ _ _ _ _ _);simp only [stU])))
 | ((first|refine fun (K : V → List _ → _) hK=>?_|refine fun (_ : V → V)=>?_);simp (maxSteps:=1000000) (disch:=omega) only [go_sem,Int.reduceEq,↓reduceIte,reduceCtorEq,Nat.reduceEqDiff,Nat.reduceLT,Nat.reduceLeDiff,Nat.reduceAdd,Nat.reduceSub,Nat.reduceMul,Int.reduceToNat,Int.reduceLE,Int.reduceLT,Q4,Sp_disk_New,Sp_overdubkeep_Within,Sp_overdublaw10_full,Sm_disk_Disk_Write,Sm_disk_Disk_Flush,Sm_disk_Disk_Read,Sp_overdubkeep_Cut_bool,Sm_disk_Disk_Crash,Sm_disk_Disk_Waiting,Sp_overdublaw10_wakes,kE,o1,hro,hrl,r0,bn,hdn,hn4,lentN,lentD,lent_and,V.d.injEq,V.ptr.injEq,Nat.mul_one,Sg3,St.updIf,ifc_nil,gt_ifc,go_ifc,ite_self,Option.none_or,Option.some_or];(try (revert hK;intro hK;(repeat' first|(refine And.intro ?_ ?_)|(intro hc;first|cases hc|((try rw [hc]);(try simp only [stH] at hc);(try (exfalso;omega)))));all_goals first|(refine hK _ _ ?_;clear hK K;simp only [stU])|exact hK|omega)))) <;> (fail_if_success (show False;skip)))
    refine ⟨(j + 1,rdD e),by dsimp only;omega,invV_rd he,by dsimp only;omega,nm [(22,22),(1022,1022),(200,200),(9,9)],Wk.of ?_⟩
    simp (maxSteps:=1000000) (disch:=omega) only [go_sem,Int.reduceEq,↓reduceIte,reduceCtorEq,Nat.reduceEqDiff,Nat.reduceLT,Nat.reduceLeDiff,Nat.reduceAdd,Nat.reduceSub,Nat.reduceMul,Int.reduceToNat,Int.reduceLE,Int.reduceLT,Q4,Sp_disk_New,Sp_overdubkeep_Within,Sp_overdublaw10_full,Sm_disk_Disk_Write,Sm_disk_Disk_Flush,Sm_disk_Disk_Read,Sp_overdubkeep_Cut_bool,Sm_disk_Disk_Crash,Sm_disk_Disk_Waiting,Sp_overdublaw10_wakes,kE,ren_B,List.forall_mem_map]
    rfl
  have hw0:=he.wl
  repeat' ((first
 | refine AW.seq ?_
 | refine AW.block ?_
 | refine AW.regl Q4_ok [0,1,2,6,7,8,9,10,11,12,13,14,15,16,17,18,19,20,30,38,54,62,71,87,102,108,109,132,138,139,162] ?_
 | (refine AW.regq (id:=28) Q4_ok follows bb_overdublaw10_DiskKeeps_28 (by kernel_rfl) [0,1,2,6,7,8,9,10,11,12,13,14,15,16,17,18,19,20,30,38,54,62,71,87,102,108,109,132,138,139,162] ?_)
 | (refine AW.regq (id:=36) Q4_ok follows bb_overdublaw10_DiskKeeps_36 (by kernel_rfl) [0,1,2,6,7,8,9,10,11,12,13,14,15,16,17,18,19,20,30,38,54,62,71,87,102,108,109,132,138,139,162] ?_)
 | refine then_n ?_
 | refine then_r ?_
 | refine then_x ?_
 | refine block_x ?_
 | refine block_o (by decide) ?_
 | refine block_n ?_
 | refine block_r ?_
 | refine AW.skip ?_
 | refine AW.ret ?_
 | refine AW.exit ?_
 | refine AW.cond rfl ?_ ?_
 | refine awl_none rfl ?_
 | refine awl_nil2 ?_
 | refine awl_some rfl rfl (Nat.le_of_ble_eq_true rfl) rfl rfl ?_ ?_
 | refine awc_none rfl ?_
 | refine awc_some rfl rfl (Nat.le_of_ble_eq_true rfl) rfl rfl ?_ ?_
 | refine awc_nilq (by kernel_rfl) (by kernel_rfl) ?_
 | (refine fun (hc : _ = _)=>?_;first|cases hc|((try rw [hc]);(try simp only [stH] at hc);(try (exfalso;omega)));(try ((first|show Awl _ _ _ _ _|show Awc _ _ _ _ _ _);simp only [stU])))
 | ((first|refine fun (K : V → List _ → _) hK=>?_|refine fun (_ : V → V)=>?_);simp (maxSteps:=1000000) (disch:=omega) only [go_sem,Int.reduceEq,↓reduceIte,reduceCtorEq,Nat.reduceEqDiff,Nat.reduceLT,Nat.reduceLeDiff,Nat.reduceAdd,Nat.reduceSub,Nat.reduceMul,Int.reduceToNat,Int.reduceLE,Int.reduceLT,Q4,Sp_disk_New,Sp_overdubkeep_Within,Sp_overdublaw10_full,Sm_disk_Disk_Write,Sm_disk_Disk_Flush,Sm_disk_Disk_Read,Sp_overdubkeep_Cut_bool,Sm_disk_Disk_Crash,Sm_disk_Disk_Waiting,Sp_overdublaw10_wakes,kE,o1,hw0,lentN,lentD,lent_and,V.d.injEq,V.ptr.injEq,Sg3,St.updIf,ifc_nil,gt_ifc,go_ifc,ite_self,Option.none_or,Option.some_or];(try (revert hK;intro hK;(repeat' first|(refine And.intro ?_ ?_)|(intro hc;first|cases hc|((try rw [hc]);(try simp only [stH] at hc);(try (exfalso;omega)))));all_goals first|(refine hK _ _ ?_;clear hK K;simp only [stU])|exact hK|omega)))) <;> (fail_if_success (show False;skip)))
  all_goals (refine Ends.of (nm []) (by first|exact .inl rfl|exact .inr rfl) ?_;simp (maxSteps:=1000000) (disch:=omega) only [go_sem,Int.reduceEq,↓reduceIte,reduceCtorEq,Nat.reduceEqDiff,Nat.reduceLT,Nat.reduceLeDiff,Nat.reduceAdd,Nat.reduceSub,Nat.reduceMul,Int.reduceToNat,Int.reduceLE,Int.reduceLT,Q4,Sp_disk_New,Sp_overdubkeep_Within,Sp_overdublaw10_full,Sm_disk_Disk_Write,Sm_disk_Disk_Flush,Sm_disk_Disk_Read,Sp_overdubkeep_Cut_bool,Sm_disk_Disk_Crash,Sm_disk_Disk_Waiting,Sp_overdublaw10_wakes])
theorem ent_overdublaw10_DiskKeeps : Ent Try.prog 4:=⟨_,Try.func4,rfl,by decide⟩
end Go.Proofs.Ytcmnblgekcjpiaa.Am
