import Derived.Test.YtcmnblgekcjpiaaZDX
set_option linter.unusedVariables false
set_option linter.unusedSimpArgs false
set_option maxRecDepth 10000
set_option maxHeartbeats 0
namespace Go.Proofs.Ytcmnblgekcjpiaa.Am
open Go Go.RowKit Go.Proofs
theorem getD_set_i (l : List (List Int)) (i j : Nat) (s : List Int) (hi : i < l.length) : (l.set i s).getD j [] = if i = j then s else l.getD j []:=by
  rw [List.getD_eq_getElem?_getD,List.getElem?_set,List.getD_eq_getElem?_getD]
  by_cases e : i = j
  · subst e;simp [hi]
  · simp [e]
theorem applyW_get {k : List (List Int)} : ∀ {l : List (Int × List Int)},(∀ w ∈ l,0 ≤ w.1 ∧ w.1 < k.length) → ∀ j : Nat,(applyW k l).getD j [] = lastW (j : Int) (k.getD j []) l:=by
  intro l
  induction l generalizing k with
  | nil=>exact fun _ _=>rfl
  | cons w l ih =>
    intro h j
    have hw:=h w (List.mem_cons_self ..)
    have:=ih (k:=putW k w) (fun x hx=>by rw [put_len];exact h x (List.mem_cons_of_mem _ hx)) j
    show (applyW (putW k w) l).getD j [] = lastW (j : Int) (if w.1 = (j : Int) then w.2 else k.getD j []) l
    rw [this]
    congr 1
    unfold putW
    rw [getD_set_i _ _ _ _ (by omega)]
    by_cases e : w.1 = (j : Int)
    · rw [if_pos e,if_pos (by omega)]
    · rw [if_neg e,if_neg (by omega)]
structure invF (d : Dk) (want now : List Int) (n : Nat) : Prop where
  ok : okD d
  dd : d.dead = false
  st : d.stops = false
  kl : d.kept.length = 5
  wl : d.wt.length ≤ n
  w5 : want.length = 5
  n5 : now.length = 5
  bw : ∀ x ∈ want,0 ≤ x ∧ x < 256
  bn : ∀ x ∈ now,0 ≤ x ∧ x < 256
  kw : ∀ j : Nat,j < 5 → (d.kept.getD j []).getD 0 0 = want.getD j 0
  rn : ∀ j : Nat,j < 5 → (readL d j).getD 0 0 = now.getD j 0
theorem invF_0 : invF (dk0 5) (List.replicate 5 0) (List.replicate 5 0) 0:=by
  refine ⟨dk0_ok (by omega) (by omega),rfl,rfl,rfl,by simp [dk0],rfl,rfl,by simp,by simp,fun j hj=>?_,fun j hj=>?_⟩
  all_goals rcases (show j = 0 ∨ j = 1 ∨ j = 2 ∨ j = 3 ∨ j = 4 by omega) with rfl|rfl|rfl|rfl|rfl <;> rfl
theorem invF_fl {d : Dk} {want now : List Int} {n : Nat} (h : invF d want now n) : invF (flD d) now now n:=by
  have hg : ∀ j : Nat,(flD d).kept.getD j [] = readL d j:=fun j=>by
    show (applyW d.kept d.wt).getD j [] = _
    rw [applyW_get fun w hw=>⟨(h.ok.wl w hw).2.1,(h.ok.wl w hw).2.2⟩]
    simp [readL]
  refine ⟨fl_ok h.ok,rfl,h.st,by show (applyW _ _).length = 5;rw [applyW_len,h.kl],by simp [flD],h.n5,h.n5,h.bn,h.bn,fun j hj=>?_,fun j hj=>?_⟩
  · rw [hg];exact h.rn j hj
  · show (lastW _ ((flD d).kept.getD ((j : Int)).toNat []) []).getD 0 0 = _
    rw [Int.toNat_natCast,hg];exact h.rn j hj
theorem invF_wr {d : Dk} {want now : List Int} {n i : Nat} {x : Int} (h : invF d want now n) (hn : n < 100000) (hi : i < 5) (hx : 0 ≤ x ∧ x < 256) : invF (wrD d i (fullL [x])) want (now.set i x) (n + 1):=by
  have hd : deadN d = false:=by simp [deadN,h.dd,h.st]
  have hwl:=h.wl
  refine ⟨wr_ok h.ok ⟨by omega,by rw [h.kl];omega⟩ (fullL_len _) (by omega) hd,rfl,h.st,h.kl,by simp [wrD];omega,h.w5,by simp [h.n5],h.bw,fun y hy=>?_,h.kw,fun j hj=>?_⟩
  · rcases List.mem_or_eq_of_mem_set hy with hy|rfl
    · exact h.bn y hy
    · exact hx
  · have e : readL (wrD d i (fullL [x])) j = if (i : Int) = (j : Int) then fullL [x] else readL d j:=by
      show lastW (j : Int) _ (d.wt ++ [((i : Int),fullL [x])]) = _
      rw [lastW_snoc];rfl
    rw [e,List.getD_eq_getElem?_getD (l:=now.set i x),List.getElem?_set]
    by_cases hij : i = j
    · subst hij
      simp [h.n5,hi,fullL]
    · rw [if_neg (by omega),if_neg hij,h.rn j hj,List.getD_eq_getElem?_getD]
theorem invF_rd {d : Dk} {want now : List Int} {n : Nat} (h : invF d want now n) : invF (rdD d) want now n:=⟨rd_ok h.ok,h.dd,h.st,h.kl,h.wl,h.w5,h.n5,h.bw,h.bn,h.kw,h.rn⟩
theorem box_get {l : List Int} {j : Nat} (h : j < l.length) : (((l.map mB).map V.d).drop j).head? = some (.d (.v (.int .u8 (l.getD j 0)))):=by
  rw [List.head?_drop]
  simp [List.getD_eq_getElem?_getD,h,mB]
theorem box_set {l : List Int} {j : Nat} (x : Int) (h : j < l.length) : ((l.map mB).map V.d).take j ++ [V.d (.v (.int .u8 x))] ++ ((l.map mB).map V.d).drop (j + 1) = ((l.set j x).map mB).map V.d:=by
  rw [List.map_set,List.map_set,List.set_eq_take_append_cons_drop,if_pos (by simpa using h),List.append_assoc];rfl
theorem imgL_get : ∀ {k : List (List Int)},(∀ s ∈ k,s.length = 128) → ∀ j : Nat,j < k.length → (imgL k).getD (j * 128) 0 = (k.getD j []).getD 0 0
  | [],_,j,hj=>by simp at hj
  | s :: r,h,0,_=>by
    have hs:=h s (List.mem_cons_self ..)
    show (s ++ r.flatten).getD 0 0 = s.getD 0 0
    rw [List.getD_eq_getElem?_getD,List.getElem?_append_left (by omega),List.getD_eq_getElem?_getD]
  | s :: r,h,j + 1,hj=>by
    have hs:=h s (List.mem_cons_self ..)
    show (s ++ r.flatten).getD ((j + 1) * 128) 0 = (r.getD j []).getD 0 0
    rw [List.getD_eq_getElem?_getD,List.getElem?_append_right (by omega),hs,show (j + 1) * 128 - 128 = j * 128 by omega,← List.getD_eq_getElem?_getD]
    exact imgL_get (fun x hx=>h x (List.mem_cons_of_mem _ hx)) j (by simpa using hj)
noncomputable def Q2 : Env:=⟨Try.prog,fun f ds out=>(f = 10 ∧ Sp_overdubkeep_Within ds out) ∨ (f = 9 ∧ Sp_disk_New ds out) ∨ (f = 14 ∧ Sp_overdublaw10_full ds out) ∨ (f = 17 ∧ Sp_overdublaw10_wakes ds out),Es,fun _=>false,fun f vs lent out=>(f = 13 ∧ Sm_disk_Disk_Write vs lent out) ∨ (f = 16 ∧ Sm_disk_Disk_Read vs lent out) ∨ (f = 11 ∧ Sm_disk_Disk_Flush vs lent out) ∨ (f = 12 ∧ Sm_disk_Disk_Waiting vs lent out) ∨ (f = 15 ∧ Sm_disk_Disk_Image vs lent out),fun f=>if f = 13 then some [1000000,1000001,902] else if f = 16 then some [1000000,1000001,1000002] else if f = 11 then some [1000000,1000001,902] else if f = 12 then some [1000000,1000001,1000002] else if f = 15 then some [1000000,1000001,1000002] else none,fun f=>false,false,fun f=>none⟩
theorem Q2_sp : ∀ f ds out,Q2.Sp f ds out → Ent Q2.P f ∧ Good Q2.P f (fun a b=>a = ds ∧ b = out):=by
  rintro f ds out (⟨rfl,h⟩|⟨rfl,h⟩|⟨rfl,h⟩|⟨rfl,h⟩)
  · exact ⟨ent_overdubkeep_Within,good_overdubkeep_Within.one h⟩
  · exact ⟨ent_disk_New,good_disk_New.one h⟩
  · exact ⟨ent_overdublaw10_full,good_overdublaw10_full.one h⟩
  · exact ⟨ent_overdublaw10_wakes,good_overdublaw10_wakes.one h⟩
theorem Q2_sm : ∀ f vs lent out,Q2.Sm f vs lent out → Ent Q2.P f ∧ GoodM Q2.P f (fun a l b=>a = vs ∧ l = lent ∧ b = out):=by
  rintro f vs lent out (⟨rfl,h⟩|⟨rfl,h⟩|⟨rfl,h⟩|⟨rfl,h⟩|⟨rfl,h⟩)
  · exact ⟨ent_disk_Disk_Write,goodM_disk_Disk_Write.one h⟩
  · exact ⟨ent_disk_Disk_Read,goodM_disk_Disk_Read.one h⟩
  · exact ⟨ent_disk_Disk_Flush,goodM_disk_Disk_Flush.one h⟩
  · exact ⟨ent_disk_Disk_Waiting,goodM_disk_Disk_Waiting.one h⟩
  · exact ⟨ent_disk_Disk_Image,goodM_disk_Disk_Image.one h⟩
theorem Q2_at : ∀ f k,Q2.At f = some k → AtomOk Q2.P f k:=fun _ _ h=>nomatch h
theorem Q2_ok : Q2.Ok:=⟨Q2_sp,Es_ok,Q2_sm,Q2_at⟩
def stF (l : List Int) (c : Nat) (k : Nat) (d : Dk) (want now : List Int) : St:=⟨[(0,.d (.list (l.map mI))),(1,.d (.v (.int .i64 c))),(5,.ptr 16 0),(7,.ptr 7 0),(8,.ptr 8 0),(9,.d (.v (.int .i64 k)))],[(16,boxO 1016 200 d),(1016,keptO d),(200,waitO d),(7,.box ((want.map mB).map V.d)),(8,.box ((now.map mB).map V.d))],111⟩
def stG (I : List Int) (k : Nat) (d : Dk) (want now : List Int) : St:=⟨[(5,.ptr 16 0),(7,.ptr 7 0),(8,.ptr 8 0),(11,.sl 69 1 0 I.length true),(73,.d (.v (.int .i64 k)))],[(16,boxO 1016 200 d),(1016,keptO d),(200,waitO d),(7,.box ((want.map mB).map V.d)),(8,.box ((now.map mB).map V.d)),(69,.row 5 1 (I.map mB))],111⟩
def Sp_overdublaw10_DiskFlushes (ds : List D) (out : Out) : Prop:=∃ (l : List Int) (c : Int),ds = [.list (l.map mI),.v (.int .i64 c)] ∧ l.length ≤ 9223372036854775807 ∧ out = ⟨.d (.v (.bool true)),[]⟩
def bb_overdublaw10_DiskFlushes_24 : List Nat:=[0,1,3,7,15,31,63,127,255,511,1023,255,2303,6399,16383,32767,65535,131071,131071,393215,1048575,2097151,131071,4325375,12713983,33554431,67108863]
theorem good_overdublaw10_DiskFlushes : Good Try.prog 3 Sp_overdublaw10_DiskFlushes:=by
  refine good_body (E:=Q2) (nt:=111) (rs:=#[.tmp 4]) Try.func3 rfl rfl rfl ?_
  rintro ds out ⟨l,c,rfl,hl,rfl⟩
  refine ⟨by simp,?_⟩
  have hwc:=within_rngC (v:=c) (n:=13) (by omega)
  obtain ⟨C,hC⟩ : ∃ C : Nat,within c 13 = C:=⟨(within c 13).toNat,by omega⟩
  clear hwc
  repeat' ((first
 | refine AW.seq ?_
 | refine AW.block ?_
 | refine AW.regl Q2_ok [0,1,4,5,6,7,8,9,10,11,12,13,14,24,34,39,47,62,72,73,74,108] ?_
 | (refine AW.regq (id:=24) Q2_ok follows bb_overdublaw10_DiskFlushes_24 (by kernel_rfl) [0,1,4,5,6,7,8,9,10,11,12,13,14,24,34,39,47,62,72,73,74,108] ?_)
 | refine then_n ?_
 | refine then_r ?_
 | refine then_x ?_
 | refine block_x ?_
 | refine block_o (by decide) ?_
 | refine block_n ?_
 | refine block_r ?_
 | refine AW.skip ?_
 | refine AW.ret ?_
 | refine AW.exit ?_
 | refine AW.cond rfl ?_ ?_
 | refine awl_none rfl ?_
 | refine awl_nil2 ?_
 | refine awl_some rfl rfl (Nat.le_of_ble_eq_true rfl) rfl rfl ?_ ?_
 | refine awc_none rfl ?_
 | refine awc_some rfl rfl (Nat.le_of_ble_eq_true rfl) rfl rfl ?_ ?_
 | refine awc_nilq (by kernel_rfl) (by kernel_rfl) ?_
 | (refine fun (hc : _ = _)=>?_;first|cases hc|((try rw [hc]);(try simp only [stH] at hc);(try (exfalso;omega)));(try ((first|show Awl _ _ _ _ _|show Awc _ _ _ _ _ _);simp only [stU])))
 | ((first|refine fun (K : V → List _ → _) hK=>?_|refine fun (_ : V → V)=>?_);simp (maxSteps:=1000000) (disch:=omega) only [go_sem,Int.reduceEq,↓reduceIte,reduceCtorEq,Nat.reduceEqDiff,Nat.reduceLT,Nat.reduceLeDiff,Nat.reduceAdd,Nat.reduceSub,Nat.reduceMul,Int.reduceToNat,Int.reduceLE,Int.reduceLT,Q2,Sp_disk_New,Sp_overdubkeep_Within,Sm_disk_Disk_Flush,Sm_disk_Disk_Waiting,Sp_overdublaw10_full,Sm_disk_Disk_Write,Sm_disk_Disk_Image,Sm_disk_Disk_Read,Sp_overdublaw10_wakes,hC,lentD,lent_and,V.d.injEq,V.ptr.injEq,Sg3,St.updIf,ifc_nil,gt_ifc,go_ifc,ite_self,Option.none_or,Option.some_or];(try (revert hK;intro hK;(repeat' first|(refine And.intro ?_ ?_)|(intro hc;first|cases hc|((try rw [hc]);(try simp only [stH] at hc);(try (exfalso;omega)))));all_goals first|(refine hK _ _ ?_;clear hK K;simp only [stU])|exact hK|omega)))) <;> (fail_if_success (show False;skip)))
  refine AW.loop_wk (fun p : Nat × Dk × List Int × List Int=>stF l C p.1 p.2.1 p.2.2.1 p.2.2.2) (fun p=>p.1 ≤ min l.length 12 ∧ invF p.2.1 p.2.2.1 p.2.2.2 p.1) (fun p=>12 - p.1) (0,dk0 5,List.replicate 5 0,List.replicate 5 0) ⟨Nat.zero_le _,invF_0⟩ (fun w0 oa a w hs=>Wk.sr (ρ:=nm [(16,16),(1016,1016),(200,2016),(7,7),(8,8)]) (Wk.of ?_) hs) ?_
  · simp (maxSteps:=1000000) (disch:=omega) only [go_sem,Int.reduceEq,↓reduceIte,reduceCtorEq,Nat.reduceEqDiff,Nat.reduceLT,Nat.reduceLeDiff,Nat.reduceAdd,Nat.reduceSub,Nat.reduceMul,Int.reduceToNat,Int.reduceLE,Int.reduceLT,Q2,Sp_disk_New,Sp_overdubkeep_Within,Sm_disk_Disk_Flush,Sm_disk_Disk_Waiting,Sp_overdublaw10_full,Sm_disk_Disk_Write,Sm_disk_Disk_Image,Sm_disk_Disk_Read,Sp_overdublaw10_wakes,stF,ren_B,List.forall_mem_map]
    rfl
  rintro ⟨k,d,want,now⟩ ⟨hk,hi⟩
  simp only at hk hi
  by_cases hk1 : k < min l.length 12
  · have e0:=nth_I l k (by omega)
    have hwx:=within_rngC (v:=l.getD k 0) (n:=5) (by omega)
    obtain ⟨q,hq⟩ : ∃ q : Nat,within (l.getD k 0) 5 = q:=⟨(within (l.getD k 0) 5).toNat,by omega⟩
    have hq5 : q < 5:=by omega
    clear hwx
    have hw8 : IntKind.u8.wrap ((k : Int) + 1) = (k : Int) + 1:=by rw [wrap_u8];omega
    have hst:=fullL_take [(k : Int) + 1]
    have hsl:=fullL_len [(k : Int) + 1]
    have mid : ∀ (d : Dk) (want now : List Int),invF d want now k → ∃ d1 : Dk,invF d1 want (now.set q ((k : Int) + 1)) (k + 1) ∧ writeOut d q (fullL [(k : Int) + 1]) = ⟨.d (.v (.int .i64 0)),lentN d1⟩ ∧ okD d ∧
        (((now.map mB).map V.d).take q ++ [V.d (.v (.int .u8 ((k : Int) + 1)))] ++ ((now.map mB).map V.d).drop (q + 1) = ((now.set q ((k : Int) + 1)).map mB).map V.d) ∧ now.length = 5:=fun d want now h=>by
      have h2:=invF_wr (i:=q) (x:=(k : Int) + 1) h (by omega) hq5 (by omega)
      exact ⟨_,h2,write_ok ⟨by omega,by rw [h.kl];omega⟩ hsl (by simp [deadN,h.dd,h.st]),h.ok,box_set _ (by rw [h.n5];omega),h.n5⟩
    obtain ⟨S,hS⟩ : ∃ S,fullL [(k : Int) + 1] = S:=⟨_,rfl⟩
    rw [hS] at hst hsl
    simp only [hS] at mid
    by_cases hkC : k = C
    · subst hkC
      have hkk : decide ((k : Int) = (k : Int)) = true:=decide_eq_true rfl
      have hfo : flushOut d = ⟨.d (.v (.int .i64 0)),lentN (flD d)⟩:=flush_ok (by simp [deadN,hi.dd,hi.st])
      have hif:=invF_fl hi
      have o0 : okD d = True:=eq_true hi.ok
      have w0 : (flD d).wt.length = 0:=rfl
      have t5n : ((now.map mB).map V.d).take 5 = (now.map mB).map V.d:=List.take_of_length_le (by simp [hi.n5])
      have t5w : ((want.map mB).map V.d).drop 5 = []:=List.drop_eq_nil_of_le (by simp [hi.w5])
      have hn5:=hi.n5
      have hw5:=hi.w5
      obtain ⟨d1,hj,hwo,ho,hb,hn5'⟩:=mid _ _ _ hif
      have o1 : okD (flD d) = True:=eq_true ho
      generalize flD d = f at *
      repeat' ((first
 | refine AW.seq ?_
 | refine AW.block ?_
 | refine AW.regl Q2_ok [0,1,4,5,6,7,8,9,10,11,12,13,14,24,34,39,47,62,72,73,74,108] ?_
 | (refine AW.regq (id:=24) Q2_ok follows bb_overdublaw10_DiskFlushes_24 (by kernel_rfl) [0,1,4,5,6,7,8,9,10,11,12,13,14,24,34,39,47,62,72,73,74,108] ?_)
 | refine then_n ?_
 | refine then_r ?_
 | refine then_x ?_
 | refine block_x ?_
 | refine block_o (by decide) ?_
 | refine block_n ?_
 | refine block_r ?_
 | refine AW.skip ?_
 | refine AW.ret ?_
 | refine AW.exit ?_
 | refine AW.cond rfl ?_ ?_
 | refine awl_none rfl ?_
 | refine awl_nil2 ?_
 | refine awl_some rfl rfl (Nat.le_of_ble_eq_true rfl) rfl rfl ?_ ?_
 | refine awc_none rfl ?_
 | refine awc_some rfl rfl (Nat.le_of_ble_eq_true rfl) rfl rfl ?_ ?_
 | refine awc_nilq (by kernel_rfl) (by kernel_rfl) ?_
 | (refine fun (hc : _ = _)=>?_;first|cases hc|((try rw [hc]);(try simp only [stH] at hc);(try (exfalso;omega)));(try ((first|show Awl _ _ _ _ _|show Awc _ _ _ _ _ _);simp only [stU])))
 | ((first|refine fun (K : V → List _ → _) hK=>?_|refine fun (_ : V → V)=>?_);simp (maxSteps:=1000000) (disch:=omega) only [go_sem,Int.reduceEq,↓reduceIte,reduceCtorEq,Nat.reduceEqDiff,Nat.reduceLT,Nat.reduceLeDiff,Nat.reduceAdd,Nat.reduceSub,Nat.reduceMul,Int.reduceToNat,Int.reduceLE,Int.reduceLT,Q2,Sp_disk_New,Sp_overdubkeep_Within,Sm_disk_Disk_Flush,Sm_disk_Disk_Waiting,Sp_overdublaw10_full,Sm_disk_Disk_Write,Sm_disk_Disk_Image,Sm_disk_Disk_Read,Sp_overdublaw10_wakes,stF,e0,hq,hkk,hfo,o0,w0,t5n,t5w,hn5,hw5,hwo,o1,hb,hw8,one_mB,hS,hst,hsl,lentN,lentD,lent_and,all_I,mB_inj,V.d.injEq,V.ptr.injEq,Nat.mul_one,Sg3,St.updIf,ifc_nil,gt_ifc,go_ifc,ite_self,Option.none_or,Option.some_or];(try (revert hK;intro hK;(repeat' first|(refine And.intro ?_ ?_)|(intro hc;first|cases hc|((try rw [hc]);(try simp only [stH] at hc);(try (exfalso;omega)))));all_goals first|(refine hK _ _ ?_;clear hK K;simp only [stU])|exact hK|omega)))) <;> (fail_if_success (show False;skip)))
      refine ⟨(k + 1,d1,now,now.set q ((k : Int) + 1)),by dsimp only;omega,hj,by dsimp only;omega,nm [(16,16),(1016,1016),(200,2061),(7,7),(8,8)],Wk.of ?_⟩
      simp (maxSteps:=1000000) (disch:=omega) only [go_sem,Int.reduceEq,↓reduceIte,reduceCtorEq,Nat.reduceEqDiff,Nat.reduceLT,Nat.reduceLeDiff,Nat.reduceAdd,Nat.reduceSub,Nat.reduceMul,Int.reduceToNat,Int.reduceLE,Int.reduceLT,Q2,Sp_disk_New,Sp_overdubkeep_Within,Sm_disk_Disk_Flush,Sm_disk_Disk_Waiting,Sp_overdublaw10_full,Sm_disk_Disk_Write,Sm_disk_Disk_Image,Sm_disk_Disk_Read,Sp_overdublaw10_wakes,stF,ren_B,List.forall_mem_map]
      rfl
    · have hkk : decide ((k : Int) = (C : Int)) = false:=decide_eq_false (by omega)
      obtain ⟨d1,hj,hwo,ho,hb,hn5⟩:=mid _ _ _ hi
      have o1 : okD d = True:=eq_true ho
      repeat' ((first
 | refine AW.seq ?_
 | refine AW.block ?_
 | refine AW.regl Q2_ok [0,1,4,5,6,7,8,9,10,11,12,13,14,24,34,39,47,62,72,73,74,108] ?_
 | (refine AW.regq (id:=24) Q2_ok follows bb_overdublaw10_DiskFlushes_24 (by kernel_rfl) [0,1,4,5,6,7,8,9,10,11,12,13,14,24,34,39,47,62,72,73,74,108] ?_)
 | refine then_n ?_
 | refine then_r ?_
 | refine then_x ?_
 | refine block_x ?_
 | refine block_o (by decide) ?_
 | refine block_n ?_
 | refine block_r ?_
 | refine AW.skip ?_
 | refine AW.ret ?_
 | refine AW.exit ?_
 | refine AW.cond rfl ?_ ?_
 | refine awl_none rfl ?_
 | refine awl_nil2 ?_
 | refine awl_some rfl rfl (Nat.le_of_ble_eq_true rfl) rfl rfl ?_ ?_
 | refine awc_none rfl ?_
 | refine awc_some rfl rfl (Nat.le_of_ble_eq_true rfl) rfl rfl ?_ ?_
 | refine awc_nilq (by kernel_rfl) (by kernel_rfl) ?_
 | (refine fun (hc : _ = _)=>?_;first|cases hc|((try rw [hc]);(try simp only [stH] at hc);(try (exfalso;omega)));(try ((first|show Awl _ _ _ _ _|show Awc _ _ _ _ _ _);simp only [stU])))
 | ((first|refine fun (K : V → List _ → _) hK=>?_|refine fun (_ : V → V)=>?_);simp (maxSteps:=1000000) (disch:=omega) only [go_sem,Int.reduceEq,↓reduceIte,reduceCtorEq,Nat.reduceEqDiff,Nat.reduceLT,Nat.reduceLeDiff,Nat.reduceAdd,Nat.reduceSub,Nat.reduceMul,Int.reduceToNat,Int.reduceLE,Int.reduceLT,Q2,Sp_disk_New,Sp_overdubkeep_Within,Sm_disk_Disk_Flush,Sm_disk_Disk_Waiting,Sp_overdublaw10_full,Sm_disk_Disk_Write,Sm_disk_Disk_Image,Sm_disk_Disk_Read,Sp_overdublaw10_wakes,stF,e0,hq,hkk,hwo,o1,hb,hn5,hw8,one_mB,hS,hst,hsl,lentN,lentD,lent_and,all_I,mB_inj,V.d.injEq,V.ptr.injEq,Nat.mul_one,Sg3,St.updIf,ifc_nil,gt_ifc,go_ifc,ite_self,Option.none_or,Option.some_or];(try (revert hK;intro hK;(repeat' first|(refine And.intro ?_ ?_)|(intro hc;first|cases hc|((try rw [hc]);(try simp only [stH] at hc);(try (exfalso;omega)))));all_goals first|(refine hK _ _ ?_;clear hK K;simp only [stU])|exact hK|omega)))) <;> (fail_if_success (show False;skip)))
      refine ⟨(k + 1,d1,want,now.set q ((k : Int) + 1)),by dsimp only;omega,hj,by dsimp only;omega,nm [(16,16),(1016,1016),(200,2061),(7,7),(8,8)],Wk.of ?_⟩
      simp (maxSteps:=1000000) (disch:=omega) only [go_sem,Int.reduceEq,↓reduceIte,reduceCtorEq,Nat.reduceEqDiff,Nat.reduceLT,Nat.reduceLeDiff,Nat.reduceAdd,Nat.reduceSub,Nat.reduceMul,Int.reduceToNat,Int.reduceLE,Int.reduceLT,Q2,Sp_disk_New,Sp_overdubkeep_Within,Sm_disk_Disk_Flush,Sm_disk_Disk_Waiting,Sp_overdublaw10_full,Sm_disk_Disk_Write,Sm_disk_Disk_Image,Sm_disk_Disk_Read,Sp_overdublaw10_wakes,stF,ren_B,List.forall_mem_map]
      rfl
  · have o0 : okD d = True:=eq_true hi.ok
    have hil : (imgL d.kept).length = 640:=by rw [imgL_len hi.ok.kl,hi.kl]
    have hig:=fun (j : Nat) (hj : j < 5)=>(imgL_get hi.ok.kl j (by rw [hi.kl];omega)).trans (hi.kw j hj)
    obtain ⟨I,hI⟩ : ∃ I,imgL d.kept = I:=⟨_,rfl⟩
    rw [hI] at hil hig
    repeat' ((first
 | refine AW.seq ?_
 | refine AW.block ?_
 | refine AW.regl Q2_ok [0,1,4,5,6,7,8,9,10,11,12,13,14,24,34,39,47,62,72,73,74,108] ?_
 | (refine AW.regq (id:=24) Q2_ok follows bb_overdublaw10_DiskFlushes_24 (by kernel_rfl) [0,1,4,5,6,7,8,9,10,11,12,13,14,24,34,39,47,62,72,73,74,108] ?_)
 | refine then_n ?_
 | refine then_r ?_
 | refine then_x ?_
 | refine block_x ?_
 | refine block_o (by decide) ?_
 | refine block_n ?_
 | refine block_r ?_
 | refine AW.skip ?_
 | refine AW.ret ?_
 | refine AW.exit ?_
 | refine AW.cond rfl ?_ ?_
 | refine awl_none rfl ?_
 | refine awl_nil2 ?_
 | refine awl_some rfl rfl (Nat.le_of_ble_eq_true rfl) rfl rfl ?_ ?_
 | refine awc_none rfl ?_
 | refine awc_some rfl rfl (Nat.le_of_ble_eq_true rfl) rfl rfl ?_ ?_
 | refine awc_nilq (by kernel_rfl) (by kernel_rfl) ?_
 | (refine fun (hc : _ = _)=>?_;first|cases hc|((try rw [hc]);(try simp only [stH] at hc);(try (exfalso;omega)));(try ((first|show Awl _ _ _ _ _|show Awc _ _ _ _ _ _);simp only [stU])))
 | ((first|refine fun (K : V → List _ → _) hK=>?_|refine fun (_ : V → V)=>?_);simp (maxSteps:=1000000) (disch:=omega) only [go_sem,Int.reduceEq,↓reduceIte,reduceCtorEq,Nat.reduceEqDiff,Nat.reduceLT,Nat.reduceLeDiff,Nat.reduceAdd,Nat.reduceSub,Nat.reduceMul,Int.reduceToNat,Int.reduceLE,Int.reduceLT,Q2,Sp_disk_New,Sp_overdubkeep_Within,Sm_disk_Disk_Flush,Sm_disk_Disk_Waiting,Sp_overdublaw10_full,Sm_disk_Disk_Write,Sm_disk_Disk_Image,Sm_disk_Disk_Read,Sp_overdublaw10_wakes,stF,o0,hI,hil,lentN,lentD,lent_and,V.d.injEq,V.ptr.injEq,Sg3,St.updIf,ifc_nil,gt_ifc,go_ifc,ite_self,Option.none_or,Option.some_or];(try (revert hK;intro hK;(repeat' first|(refine And.intro ?_ ?_)|(intro hc;first|cases hc|((try rw [hc]);(try simp only [stH] at hc);(try (exfalso;omega)))));all_goals first|(refine hK _ _ ?_;clear hK K;simp only [stU])|exact hK|omega)))) <;> (fail_if_success (show False;skip)))
    · refine AW.loop_wk (fun p : Nat × Dk=>stG I p.1 p.2 want now) (fun p=>p.1 ≤ 5 ∧ invF p.2 want now k) (fun p=>5 - p.1) (0,d) ⟨Nat.zero_le _,hi⟩ (fun w0 oa a w hs=>Wk.sr (ρ:=nm [(16,16),(1016,1016),(200,200),(7,7),(8,8),(69,69)]) (Wk.of ?_) hs) ?_
      · simp (maxSteps:=1000000) (disch:=omega) only [go_sem,Int.reduceEq,↓reduceIte,reduceCtorEq,Nat.reduceEqDiff,Nat.reduceLT,Nat.reduceLeDiff,Nat.reduceAdd,Nat.reduceSub,Nat.reduceMul,Int.reduceToNat,Int.reduceLE,Int.reduceLT,Q2,Sp_disk_New,Sp_overdubkeep_Within,Sm_disk_Disk_Flush,Sm_disk_Disk_Waiting,Sp_overdublaw10_full,Sm_disk_Disk_Write,Sm_disk_Disk_Image,Sm_disk_Disk_Read,Sp_overdublaw10_wakes,stG,ren_B,List.forall_mem_map,hil]
      rintro ⟨j,e⟩ ⟨hj,he⟩
      simp only at hj he
      by_cases hj5 : j < 5
      · have o1 : okD e = True:=eq_true he.ok
        have hro:=read_ok (d:=e) (i:=(j : Int)) ⟨by omega,by rw [he.kl];omega⟩ he.dd
        have hrl : (readL e j).length = 128:=lastW_len (he.ok.kl _ (by rw [Int.toNat_natCast,List.getD_eq_getElem?_getD,List.getElem?_eq_getElem (by rw [he.kl];omega)];exact List.getElem_mem _)) fun w hw=>(he.ok.wl w hw).1
        have hrn:=he.rn j hj5
        have hig:=hig j hj5
        obtain ⟨R,hR⟩ : ∃ R,readL e j = R:=⟨_,rfl⟩
        rw [hR] at hro hrl hrn
        have r0:=nth_B R 0 (by omega)
        have i0:=nth_B I (j * 128) (by omega)
        rw [hrn] at r0
        rw [hig] at i0
        have bn:=box_get (l:=now) (j:=j) (by rw [he.n5];exact hj5)
        have bw:=box_get (l:=want) (j:=j) (by rw [he.w5];exact hj5)
        have hdn : ∀ x : Int,decide (¬ x = x) = false:=fun x=>decide_eq_false (by simp)
        have hmul : ((j : Int) * 128).toNat = j * 128:=by omega
        have hw5:=he.w5
        have hn5:=he.n5
        repeat' ((first
 | refine AW.seq ?_
 | refine AW.block ?_
 | refine AW.regl Q2_ok [0,1,4,5,6,7,8,9,10,11,12,13,14,24,34,39,47,62,72,73,74,108] ?_
 | (refine AW.regq (id:=24) Q2_ok follows bb_overdublaw10_DiskFlushes_24 (by kernel_rfl) [0,1,4,5,6,7,8,9,10,11,12,13,14,24,34,39,47,62,72,73,74,108] ?_)
 | refine then_n ?_
 | refine then_r ?_
 | refine then_x ?_
 | refine block_x ?_
 | refine block_o (by decide) ?_
 | refine block_n ?_
 | refine block_r ?_
 | refine AW.skip ?_
 | refine AW.ret ?_
 | refine AW.exit ?_
 | refine AW.cond rfl ?_ ?_
 | refine awl_none rfl ?_
 | refine awl_nil2 ?_
 | refine awl_some rfl rfl (Nat.le_of_ble_eq_true rfl) rfl rfl ?_ ?_
 | refine awc_none rfl ?_
 | refine awc_some rfl rfl (Nat.le_of_ble_eq_true rfl) rfl rfl ?_ ?_
 | refine awc_nilq (by kernel_rfl) (by kernel_rfl) ?_
 | (refine fun (hc : _ = _)=>?_;first|cases hc|((try rw [hc]);(try simp only [stH] at hc);(try (exfalso;omega)));(try ((first|show Awl _ _ _ _ _|show Awc _ _ _ _ _ _);simp only [stU])))
 | ((first|refine fun (K : V → List _ → _) hK=>?_|refine fun (_ : V → V)=>?_);simp (maxSteps:=1000000) (disch:=omega) only [go_sem,Int.reduceEq,↓reduceIte,reduceCtorEq,Nat.reduceEqDiff,Nat.reduceLT,Nat.reduceLeDiff,Nat.reduceAdd,Nat.reduceSub,Nat.reduceMul,Int.reduceToNat,Int.reduceLE,Int.reduceLT,Q2,Sp_disk_New,Sp_overdubkeep_Within,Sm_disk_Disk_Flush,Sm_disk_Disk_Waiting,Sp_overdublaw10_full,Sm_disk_Disk_Write,Sm_disk_Disk_Image,Sm_disk_Disk_Read,Sp_overdublaw10_wakes,stG,o1,hro,hrl,r0,i0,bn,bw,hdn,hmul,hil,hw5,hn5,lentN,lentD,lent_and,V.d.injEq,V.ptr.injEq,Nat.mul_one,Sg3,St.updIf,ifc_nil,gt_ifc,go_ifc,ite_self,Option.none_or,Option.some_or];(try (revert hK;intro hK;(repeat' first|(refine And.intro ?_ ?_)|(intro hc;first|cases hc|((try rw [hc]);(try simp only [stH] at hc);(try (exfalso;omega)))));all_goals first|(refine hK _ _ ?_;clear hK K;simp only [stU])|exact hK|omega)))) <;> (fail_if_success (show False;skip)))
        refine ⟨(j + 1,rdD e),by dsimp only;omega,invF_rd he,by dsimp only;omega,nm [(16,16),(1016,1016),(200,200),(7,7),(8,8),(69,69)],Wk.of ?_⟩
        simp (maxSteps:=1000000) (disch:=omega) only [go_sem,Int.reduceEq,↓reduceIte,reduceCtorEq,Nat.reduceEqDiff,Nat.reduceLT,Nat.reduceLeDiff,Nat.reduceAdd,Nat.reduceSub,Nat.reduceMul,Int.reduceToNat,Int.reduceLE,Int.reduceLT,Q2,Sp_disk_New,Sp_overdubkeep_Within,Sm_disk_Disk_Flush,Sm_disk_Disk_Waiting,Sp_overdublaw10_full,Sm_disk_Disk_Write,Sm_disk_Disk_Image,Sm_disk_Disk_Read,Sp_overdublaw10_wakes,stG,ren_B,List.forall_mem_map]
        rfl
      · obtain rfl : j = 5:=by omega
        repeat' ((first
 | refine AW.seq ?_
 | refine AW.block ?_
 | refine AW.regl Q2_ok [0,1,4,5,6,7,8,9,10,11,12,13,14,24,34,39,47,62,72,73,74,108] ?_
 | (refine AW.regq (id:=24) Q2_ok follows bb_overdublaw10_DiskFlushes_24 (by kernel_rfl) [0,1,4,5,6,7,8,9,10,11,12,13,14,24,34,39,47,62,72,73,74,108] ?_)
 | refine then_n ?_
 | refine then_r ?_
 | refine then_x ?_
 | refine block_x ?_
 | refine block_o (by decide) ?_
 | refine block_n ?_
 | refine block_r ?_
 | refine AW.skip ?_
 | refine AW.ret ?_
 | refine AW.exit ?_
 | refine AW.cond rfl ?_ ?_
 | refine awl_none rfl ?_
 | refine awl_nil2 ?_
 | refine awl_some rfl rfl (Nat.le_of_ble_eq_true rfl) rfl rfl ?_ ?_
 | refine awc_none rfl ?_
 | refine awc_some rfl rfl (Nat.le_of_ble_eq_true rfl) rfl rfl ?_ ?_
 | refine awc_nilq (by kernel_rfl) (by kernel_rfl) ?_
 | (refine fun (hc : _ = _)=>?_;first|cases hc|((try rw [hc]);(try simp only [stH] at hc);(try (exfalso;omega)));(try ((first|show Awl _ _ _ _ _|show Awc _ _ _ _ _ _);simp only [stU])))
 | ((first|refine fun (K : V → List _ → _) hK=>?_|refine fun (_ : V → V)=>?_);simp (maxSteps:=1000000) (disch:=omega) only [go_sem,Int.reduceEq,↓reduceIte,reduceCtorEq,Nat.reduceEqDiff,Nat.reduceLT,Nat.reduceLeDiff,Nat.reduceAdd,Nat.reduceSub,Nat.reduceMul,Int.reduceToNat,Int.reduceLE,Int.reduceLT,Q2,Sp_disk_New,Sp_overdubkeep_Within,Sm_disk_Disk_Flush,Sm_disk_Disk_Waiting,Sp_overdublaw10_full,Sm_disk_Disk_Write,Sm_disk_Disk_Image,Sm_disk_Disk_Read,Sp_overdublaw10_wakes,stG,Sg3,St.updIf,ifc_nil,gt_ifc,go_ifc,ite_self,Option.none_or,Option.some_or];(try (revert hK;intro hK;(repeat' first|(refine And.intro ?_ ?_)|(intro hc;first|cases hc|((try rw [hc]);(try simp only [stH] at hc);(try (exfalso;omega)))));all_goals first|(refine hK _ _ ?_;clear hK K;simp only [stU])|exact hK|omega)))) <;> (fail_if_success (show False;skip)))
        all_goals (refine Ends.of (nm []) (by first|exact .inl rfl|exact .inr rfl) ?_;simp (maxSteps:=1000000) (disch:=omega) only [go_sem,Int.reduceEq,↓reduceIte,reduceCtorEq,Nat.reduceEqDiff,Nat.reduceLT,Nat.reduceLeDiff,Nat.reduceAdd,Nat.reduceSub,Nat.reduceMul,Int.reduceToNat,Int.reduceLE,Int.reduceLT,Q2,Sp_disk_New,Sp_overdubkeep_Within,Sm_disk_Disk_Flush,Sm_disk_Disk_Waiting,Sp_overdublaw10_full,Sm_disk_Disk_Write,Sm_disk_Disk_Image,Sm_disk_Disk_Read,Sp_overdublaw10_wakes])
    · refine AW.loop_wk (fun p : Nat × Dk=>stG I p.1 p.2 want now) (fun p=>p.1 ≤ 5 ∧ invF p.2 want now k) (fun p=>5 - p.1) (0,d) ⟨Nat.zero_le _,hi⟩ (fun w0 oa a w hs=>Wk.sr (ρ:=nm [(16,16),(1016,1016),(200,200),(7,7),(8,8),(69,69)]) (Wk.of ?_) hs) ?_
      · simp (maxSteps:=1000000) (disch:=omega) only [go_sem,Int.reduceEq,↓reduceIte,reduceCtorEq,Nat.reduceEqDiff,Nat.reduceLT,Nat.reduceLeDiff,Nat.reduceAdd,Nat.reduceSub,Nat.reduceMul,Int.reduceToNat,Int.reduceLE,Int.reduceLT,Q2,Sp_disk_New,Sp_overdubkeep_Within,Sm_disk_Disk_Flush,Sm_disk_Disk_Waiting,Sp_overdublaw10_full,Sm_disk_Disk_Write,Sm_disk_Disk_Image,Sm_disk_Disk_Read,Sp_overdublaw10_wakes,stG,ren_B,List.forall_mem_map,hil]
      rintro ⟨j,e⟩ ⟨hj,he⟩
      simp only at hj he
      by_cases hj5 : j < 5
      · have o1 : okD e = True:=eq_true he.ok
        have hro:=read_ok (d:=e) (i:=(j : Int)) ⟨by omega,by rw [he.kl];omega⟩ he.dd
        have hrl : (readL e j).length = 128:=lastW_len (he.ok.kl _ (by rw [Int.toNat_natCast,List.getD_eq_getElem?_getD,List.getElem?_eq_getElem (by rw [he.kl];omega)];exact List.getElem_mem _)) fun w hw=>(he.ok.wl w hw).1
        have hrn:=he.rn j hj5
        have hig:=hig j hj5
        obtain ⟨R,hR⟩ : ∃ R,readL e j = R:=⟨_,rfl⟩
        rw [hR] at hro hrl hrn
        have r0:=nth_B R 0 (by omega)
        have i0:=nth_B I (j * 128) (by omega)
        rw [hrn] at r0
        rw [hig] at i0
        have bn:=box_get (l:=now) (j:=j) (by rw [he.n5];exact hj5)
        have bw:=box_get (l:=want) (j:=j) (by rw [he.w5];exact hj5)
        have hdn : ∀ x : Int,decide (¬ x = x) = false:=fun x=>decide_eq_false (by simp)
        have hmul : ((j : Int) * 128).toNat = j * 128:=by omega
        have hw5:=he.w5
        have hn5:=he.n5
        repeat' ((first
 | refine AW.seq ?_
 | refine AW.block ?_
 | refine AW.regl Q2_ok [0,1,4,5,6,7,8,9,10,11,12,13,14,24,34,39,47,62,72,73,74,108] ?_
 | (refine AW.regq (id:=24) Q2_ok follows bb_overdublaw10_DiskFlushes_24 (by kernel_rfl) [0,1,4,5,6,7,8,9,10,11,12,13,14,24,34,39,47,62,72,73,74,108] ?_)
 | refine then_n ?_
 | refine then_r ?_
 | refine then_x ?_
 | refine block_x ?_
 | refine block_o (by decide) ?_
 | refine block_n ?_
 | refine block_r ?_
 | refine AW.skip ?_
 | refine AW.ret ?_
 | refine AW.exit ?_
 | refine AW.cond rfl ?_ ?_
 | refine awl_none rfl ?_
 | refine awl_nil2 ?_
 | refine awl_some rfl rfl (Nat.le_of_ble_eq_true rfl) rfl rfl ?_ ?_
 | refine awc_none rfl ?_
 | refine awc_some rfl rfl (Nat.le_of_ble_eq_true rfl) rfl rfl ?_ ?_
 | refine awc_nilq (by kernel_rfl) (by kernel_rfl) ?_
 | (refine fun (hc : _ = _)=>?_;first|cases hc|((try rw [hc]);(try simp only [stH] at hc);(try (exfalso;omega)));(try ((first|show Awl _ _ _ _ _|show Awc _ _ _ _ _ _);simp only [stU])))
 | ((first|refine fun (K : V → List _ → _) hK=>?_|refine fun (_ : V → V)=>?_);simp (maxSteps:=1000000) (disch:=omega) only [go_sem,Int.reduceEq,↓reduceIte,reduceCtorEq,Nat.reduceEqDiff,Nat.reduceLT,Nat.reduceLeDiff,Nat.reduceAdd,Nat.reduceSub,Nat.reduceMul,Int.reduceToNat,Int.reduceLE,Int.reduceLT,Q2,Sp_disk_New,Sp_overdubkeep_Within,Sm_disk_Disk_Flush,Sm_disk_Disk_Waiting,Sp_overdublaw10_full,Sm_disk_Disk_Write,Sm_disk_Disk_Image,Sm_disk_Disk_Read,Sp_overdublaw10_wakes,stG,o1,hro,hrl,r0,i0,bn,bw,hdn,hmul,hil,hw5,hn5,lentN,lentD,lent_and,V.d.injEq,V.ptr.injEq,Nat.mul_one,Sg3,St.updIf,ifc_nil,gt_ifc,go_ifc,ite_self,Option.none_or,Option.some_or];(try (revert hK;intro hK;(repeat' first|(refine And.intro ?_ ?_)|(intro hc;first|cases hc|((try rw [hc]);(try simp only [stH] at hc);(try (exfalso;omega)))));all_goals first|(refine hK _ _ ?_;clear hK K;simp only [stU])|exact hK|omega)))) <;> (fail_if_success (show False;skip)))
        refine ⟨(j + 1,rdD e),by dsimp only;omega,invF_rd he,by dsimp only;omega,nm [(16,16),(1016,1016),(200,200),(7,7),(8,8),(69,69)],Wk.of ?_⟩
        simp (maxSteps:=1000000) (disch:=omega) only [go_sem,Int.reduceEq,↓reduceIte,reduceCtorEq,Nat.reduceEqDiff,Nat.reduceLT,Nat.reduceLeDiff,Nat.reduceAdd,Nat.reduceSub,Nat.reduceMul,Int.reduceToNat,Int.reduceLE,Int.reduceLT,Q2,Sp_disk_New,Sp_overdubkeep_Within,Sm_disk_Disk_Flush,Sm_disk_Disk_Waiting,Sp_overdublaw10_full,Sm_disk_Disk_Write,Sm_disk_Disk_Image,Sm_disk_Disk_Read,Sp_overdublaw10_wakes,stG,ren_B,List.forall_mem_map]
        rfl
      · obtain rfl : j = 5:=by omega
        repeat' ((first
 | refine AW.seq ?_
 | refine AW.block ?_
 | refine AW.regl Q2_ok [0,1,4,5,6,7,8,9,10,11,12,13,14,24,34,39,47,62,72,73,74,108] ?_
 | (refine AW.regq (id:=24) Q2_ok follows bb_overdublaw10_DiskFlushes_24 (by kernel_rfl) [0,1,4,5,6,7,8,9,10,11,12,13,14,24,34,39,47,62,72,73,74,108] ?_)
 | refine then_n ?_
 | refine then_r ?_
 | refine then_x ?_
 | refine block_x ?_
 | refine block_o (by decide) ?_
 | refine block_n ?_
 | refine block_r ?_
 | refine AW.skip ?_
 | refine AW.ret ?_
 | refine AW.exit ?_
 | refine AW.cond rfl ?_ ?_
 | refine awl_none rfl ?_
 | refine awl_nil2 ?_
 | refine awl_some rfl rfl (Nat.le_of_ble_eq_true rfl) rfl rfl ?_ ?_
 | refine awc_none rfl ?_
 | refine awc_some rfl rfl (Nat.le_of_ble_eq_true rfl) rfl rfl ?_ ?_
 | refine awc_nilq (by kernel_rfl) (by kernel_rfl) ?_
 | (refine fun (hc : _ = _)=>?_;first|cases hc|((try rw [hc]);(try simp only [stH] at hc);(try (exfalso;omega)));(try ((first|show Awl _ _ _ _ _|show Awc _ _ _ _ _ _);simp only [stU])))
 | ((first|refine fun (K : V → List _ → _) hK=>?_|refine fun (_ : V → V)=>?_);simp (maxSteps:=1000000) (disch:=omega) only [go_sem,Int.reduceEq,↓reduceIte,reduceCtorEq,Nat.reduceEqDiff,Nat.reduceLT,Nat.reduceLeDiff,Nat.reduceAdd,Nat.reduceSub,Nat.reduceMul,Int.reduceToNat,Int.reduceLE,Int.reduceLT,Q2,Sp_disk_New,Sp_overdubkeep_Within,Sm_disk_Disk_Flush,Sm_disk_Disk_Waiting,Sp_overdublaw10_full,Sm_disk_Disk_Write,Sm_disk_Disk_Image,Sm_disk_Disk_Read,Sp_overdublaw10_wakes,stG,Sg3,St.updIf,ifc_nil,gt_ifc,go_ifc,ite_self,Option.none_or,Option.some_or];(try (revert hK;intro hK;(repeat' first|(refine And.intro ?_ ?_)|(intro hc;first|cases hc|((try rw [hc]);(try simp only [stH] at hc);(try (exfalso;omega)))));all_goals first|(refine hK _ _ ?_;clear hK K;simp only [stU])|exact hK|omega)))) <;> (fail_if_success (show False;skip)))
        all_goals (refine Ends.of (nm []) (by first|exact .inl rfl|exact .inr rfl) ?_;simp (maxSteps:=1000000) (disch:=omega) only [go_sem,Int.reduceEq,↓reduceIte,reduceCtorEq,Nat.reduceEqDiff,Nat.reduceLT,Nat.reduceLeDiff,Nat.reduceAdd,Nat.reduceSub,Nat.reduceMul,Int.reduceToNat,Int.reduceLE,Int.reduceLT,Q2,Sp_disk_New,Sp_overdubkeep_Within,Sm_disk_Disk_Flush,Sm_disk_Disk_Waiting,Sp_overdublaw10_full,Sm_disk_Disk_Write,Sm_disk_Disk_Image,Sm_disk_Disk_Read,Sp_overdublaw10_wakes])
theorem ent_overdublaw10_DiskFlushes : Ent Try.prog 3:=⟨_,Try.func3,rfl,by decide⟩
end Go.Proofs.Ytcmnblgekcjpiaa.Am
