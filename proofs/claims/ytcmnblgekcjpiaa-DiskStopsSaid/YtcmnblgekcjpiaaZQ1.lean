import Derived.Test.YtcmnblgekcjpiaaZDX
set_option linter.unusedVariables false
set_option linter.unusedSimpArgs false
set_option maxRecDepth 10000
set_option maxHeartbeats 0
namespace Go.Proofs.Ytcmnblgekcjpiaa.Am
open Go Go.RowKit Go.Proofs
def dS (A : Nat) : Nat → Dk
  | 0=>stpD (dk0 3) A
  | k + 1=>if k < A then wrD (dS A k) ((k % 3 : Nat) : Int) (fullL [(k : Int) + 1]) else ddD (dS A k)
structure invS (A k : Nat) (d : Dk) : Prop where
  ok : okD d
  st : d.stops = true
  at_ : d.at_ = (A : Int) - (min k A : Nat)
  wl : d.wt.length = min k A
  dd : d.dead = decide (A < k)
  kl : d.kept.length = 3
theorem dS_inv {A : Nat} (hA : A < 8) : ∀ k,invS A k (dS A k)
  | 0=>⟨stp_ok (dk0_ok (by omega) (by omega)) (by omega),rfl,by show max 0 (A : Int) = _;omega,by simp [dS,stpD,dk0],by simp [dS,stpD,dk0],rfl⟩
  | k + 1=>by
    have h:=dS_inv hA k
    by_cases hk : k < A
    · have e : dS A (k + 1) = wrD (dS A k) ((k % 3 : Nat) : Int) (fullL [(k : Int) + 1]):=by rw [dS,if_pos hk]
      rw [e]
      have hd : deadN (dS A k) = false:=by
        have h1:=h.at_;have h2:=h.dd
        simp only [deadN,h2,h1,Bool.or_eq_false_iff,decide_eq_false_iff_not]
        refine ⟨by omega,?_⟩
        rw [h.st];simp;omega
      refine ⟨wr_ok h.ok ⟨by omega,by rw [h.kl];omega⟩ (fullL_len _) (by rw [h.wl];omega) hd,h.st,?_,?_,?_,h.kl⟩
      · show (if (dS A k).stops = true then (dS A k).at_ - 1 else _) = _
        rw [if_pos h.st,h.at_];omega
      · show ((dS A k).wt ++ [_]).length = _
        rw [List.length_append,h.wl];simp;omega
      · show false = _
        simp;omega
    · have e : dS A (k + 1) = ddD (dS A k):=by rw [dS,if_neg hk]
      rw [e]
      refine ⟨dd_ok h.ok,h.st,?_,?_,?_,h.kl⟩
      · show (dS A k).at_ = _;rw [h.at_];omega
      · show (dS A k).wt.length = _;rw [h.wl];omega
      · show true = _;simp;omega
theorem dead_lt {A k : Nat} {d : Dk} (h : invS A k d) : deadN d = decide (A ≤ k):=by
  have h1:=h.at_
  simp only [deadN,h.dd,h.st,h1,Bool.true_and]
  by_cases h2 : A ≤ k
  · by_cases h3 : A < k
    · simp [h2,h3]
    · rw [decide_eq_false h3,decide_eq_true h2,decide_eq_true (by omega)];rfl
  · rw [decide_eq_false (by omega),decide_eq_false h2,decide_eq_false (by omega)];rfl
noncomputable def Q1 : Env:=⟨Try.prog,fun f ds out=>(f = 10 ∧ Sp_overdubkeep_Within ds out) ∨ (f = 9 ∧ Sp_disk_New ds out) ∨ (f = 14 ∧ Sp_overdublaw10_full ds out) ∨ (f = 19 ∧ Sp_overdubkeep_Cut_bool ds out) ∨ (f = 17 ∧ Sp_overdublaw10_wakes ds out),Es,fun _=>false,fun f vs lent out=>(f = 20 ∧ Sm_disk_Disk_Stop vs lent out) ∨ (f = 13 ∧ Sm_disk_Disk_Write vs lent out) ∨ (f = 21 ∧ Sm_disk_Disk_Dead vs lent out) ∨ (f = 16 ∧ Sm_disk_Disk_Read vs lent out) ∨ (f = 11 ∧ Sm_disk_Disk_Flush vs lent out) ∨ (f = 12 ∧ Sm_disk_Disk_Waiting vs lent out) ∨ (f = 18 ∧ Sm_disk_Disk_Crash vs lent out),fun f=>if f = 20 then some [1000000,1000001,1000002] else if f = 13 then some [1000000,1000001,902] else if f = 21 then some [1000000,1000001,1000002] else if f = 16 then some [1000000,1000001,1000002] else if f = 11 then some [1000000,1000001,902] else if f = 12 then some [1000000,1000001,1000002] else if f = 18 then some [1000000,1000001,902] else none,fun f=>false,false,fun f=>none⟩
theorem Q1_sp : ∀ f ds out,Q1.Sp f ds out → Ent Q1.P f ∧ Good Q1.P f (fun a b=>a = ds ∧ b = out):=by
  rintro f ds out (⟨rfl,h⟩|⟨rfl,h⟩|⟨rfl,h⟩|⟨rfl,h⟩|⟨rfl,h⟩)
  · exact ⟨ent_overdubkeep_Within,good_overdubkeep_Within.one h⟩
  · exact ⟨ent_disk_New,good_disk_New.one h⟩
  · exact ⟨ent_overdublaw10_full,good_overdublaw10_full.one h⟩
  · exact ⟨ent_overdubkeep_Cut_bool,good_overdubkeep_Cut_bool.one h⟩
  · exact ⟨ent_overdublaw10_wakes,good_overdublaw10_wakes.one h⟩
theorem Q1_sm : ∀ f vs lent out,Q1.Sm f vs lent out → Ent Q1.P f ∧ GoodM Q1.P f (fun a l b=>a = vs ∧ l = lent ∧ b = out):=by
  rintro f vs lent out (⟨rfl,h⟩|⟨rfl,h⟩|⟨rfl,h⟩|⟨rfl,h⟩|⟨rfl,h⟩|⟨rfl,h⟩|⟨rfl,h⟩)
  · exact ⟨ent_disk_Disk_Stop,goodM_disk_Disk_Stop.one h⟩
  · exact ⟨ent_disk_Disk_Write,goodM_disk_Disk_Write.one h⟩
  · exact ⟨ent_disk_Disk_Dead,goodM_disk_Disk_Dead.one h⟩
  · exact ⟨ent_disk_Disk_Read,goodM_disk_Disk_Read.one h⟩
  · exact ⟨ent_disk_Disk_Flush,goodM_disk_Disk_Flush.one h⟩
  · exact ⟨ent_disk_Disk_Waiting,goodM_disk_Disk_Waiting.one h⟩
  · exact ⟨ent_disk_Disk_Crash,goodM_disk_Disk_Crash.one h⟩
theorem Q1_at : ∀ f k,Q1.At f = some k → AtomOk Q1.P f k:=fun _ _ h=>nomatch h
theorem Q1_ok : Q1.Ok:=⟨Q1_sp,Es_ok,Q1_sm,Q1_at⟩
def stS (A N : Nat) (keep : List Bool) (k : Nat) : St:=⟨[(0,.d (.v (.int .i64 A))),(1,.d (.v (.int .i64 N))),(2,.d (.list (keep.map bD))),(7,.ptr 21 0),(9,.d (.v (.int .i64 k)))],[(21,boxO 1021 200 (dS A k)),(1021,keptO (dS A k)),(200,waitO (dS A k))],130⟩
def Sp_overdublaw10_DiskStops (ds : List D) (out : Out) : Prop:=∃ (a n : Int) (keep : List Bool),ds = [.v (.int .i64 a),.v (.int .i64 n),.list (keep.map bD)] ∧ keep.length ≤ 9223372036854775807 ∧ out = ⟨.d (.v (.bool true)),[]⟩
theorem good_overdublaw10_DiskStops : Good Try.prog 5 Sp_overdublaw10_DiskStops:=by
  refine good_body (E:=Q1) (nt:=130) (rs:=#[.tmp 6]) Try.func5 rfl rfl rfl ?_
  rintro ds out ⟨a,n,keep,rfl,hkl,rfl⟩
  refine ⟨by simp,?_⟩
  have hwa:=within_rngC (v:=a) (n:=8) (by omega)
  obtain ⟨A,hA⟩ : ∃ A : Nat,within a 8 = A:=⟨(within a 8).toNat,by omega⟩
  have hwn:=within_rngC (v:=n) (n:=12) (by omega)
  obtain ⟨N,hN⟩ : ∃ N : Nat,within n 12 = N:=⟨(within n 12).toNat,by omega⟩
  have hA8 : A < 8:=by omega
  have hN12 : N < 12:=by omega
  clear hwa hwn
  have hinv:=dS_inv hA8
  have h0 : stpD (dk0 3) A = dS A 0:=rfl
  repeat' ((first
 | refine AW.seq ?_
 | refine AW.block ?_
 | refine AW.regl Q1_ok [0,1,2,6,7,8,9,10,12,13,15,29,35,40,59,72,99] ?_
 | refine then_n ?_
 | refine then_r ?_
 | refine then_x ?_
 | refine block_x ?_
 | refine block_o (by decide) ?_
 | refine block_n ?_
 | refine block_r ?_
 | refine AW.skip ?_
 | refine AW.ret ?_
 | refine AW.exit ?_
 | refine AW.cond rfl ?_ ?_
 | refine awl_none rfl ?_
 | refine awl_nil2 ?_
 | refine awl_some rfl rfl (Nat.le_of_ble_eq_true rfl) rfl rfl ?_ ?_
 | (refine awl_skip rfl rfl (Nat.le_of_ble_eq_true rfl) rfl rfl ?_;simp only [stU])
 | (refine fun (hc : _ = _)=>?_;first|cases hc|((try rw [hc]);(try simp only [stH] at hc);(try (exfalso;omega)));(try (show Awl _ _ _ _ _;simp only [stU])))
 | ((first|refine fun (K : V → List _ → _) hK=>?_|refine fun (_ : V → V)=>?_);simp (maxSteps:=1000000) (disch:=omega) only [go_sem,Int.reduceEq,↓reduceIte,reduceCtorEq,Nat.reduceEqDiff,Nat.reduceLT,Nat.reduceLeDiff,Nat.reduceAdd,Nat.reduceSub,Nat.reduceMul,Int.reduceToNat,Int.reduceLE,Int.reduceLT,Q1,Sp_overdubkeep_Within,Sp_disk_New,Sm_disk_Disk_Stop,Sp_overdublaw10_full,Sm_disk_Disk_Write,Sm_disk_Disk_Dead,Sm_disk_Disk_Read,Sm_disk_Disk_Flush,Sm_disk_Disk_Waiting,Sp_overdubkeep_Cut_bool,Sm_disk_Disk_Crash,Sp_overdublaw10_wakes,hA,hN,h0,lentD,lent_and,V.d.injEq,V.ptr.injEq];(try (revert hK;intro hK;(repeat' first|(refine And.intro ?_ ?_)|(intro hc;first|cases hc|((try rw [hc]);(try simp only [stH] at hc);(try (exfalso;omega)))));all_goals first|(refine hK _ _ ?_;clear hK K;simp only [stU])|exact hK|omega)))) <;> (fail_if_success (show False;skip)))
  refine AW.loop_wk (fun k : Nat=>stS A N keep k) (fun k=>k ≤ N) (fun k=>N - k) 0 (Nat.zero_le _) (fun w0 oa a w hs=>Wk.sr (ρ:=nm [(21,21),(1021,1021),(200,2021)]) (Wk.of ?_) hs) ?_
  · simp (disch:=omega) only [go_sem,Int.reduceEq,↓reduceIte,reduceCtorEq,Nat.reduceEqDiff,Nat.reduceLT,Nat.reduceLeDiff,Nat.reduceAdd,Nat.reduceSub,Nat.reduceMul,Int.reduceToNat,Int.reduceLE,Int.reduceLT,Q1,Sp_overdubkeep_Within,Sp_disk_New,Sm_disk_Disk_Stop,Sp_overdublaw10_full,Sm_disk_Disk_Write,Sm_disk_Disk_Dead,Sm_disk_Disk_Read,Sm_disk_Disk_Flush,Sm_disk_Disk_Waiting,Sp_overdubkeep_Cut_bool,Sm_disk_Disk_Crash,Sp_overdublaw10_wakes,stS]
  intro k hk
  have hi:=hinv k
  have hok : okD (dS A k) = True:=eq_true hi.ok
  have hdn:=dead_lt hi
  by_cases hk1 : k < N
  · have hi1:=hinv (k + 1)
    have hrem : (k : Int).tmod 3 = ((k % 3 : Nat) : Int):=by rw [Int.tmod_eq_emod_of_nonneg (by omega),Int.natCast_emod];rfl
    have hw8 : IntKind.u8.wrap ((k : Int) + 1) = (k : Int) + 1:=by rw [wrap_u8];omega
    have hst:=fullL_take [(k : Int) + 1]
    have hsl:=fullL_len [(k : Int) + 1]
    have h3 : 0 ≤ ((k % 3 : Nat) : Int) ∧ ((k % 3 : Nat) : Int) < (dS A k).kept.length:=⟨by omega,by rw [hi.kl];omega⟩
    have hdd1 : (dS A (k + 1)).dead = decide (A < k + 1):=hi1.dd
    by_cases hkA : k < A
    · have hg1 : decide ((A : Int) ≤ (k : Int)) = false:=decide_eq_false (by omega)
      have hwo:=write_ok h3 hsl (by rw [hdn];exact decide_eq_false (by omega))
      have e : wrD (dS A k) ((k % 3 : Nat) : Int) (fullL [(k : Int) + 1]) = dS A (k + 1):=by rw [dS,if_pos hkA]
      rw [e] at hwo
      rw [decide_eq_false (by omega)] at hdd1
      obtain ⟨S,hS⟩ : ∃ S,fullL [(k : Int) + 1] = S:=⟨_,rfl⟩
      rw [hS] at hwo hst hsl
      generalize ((k % 3 : Nat) : Int) = r at *
      repeat' ((first
 | refine AW.seq ?_
 | refine AW.block ?_
 | refine AW.regl Q1_ok [0,1,2,6,7,8,9,10,12,13,15,29,35,40,59,72,99] ?_
 | refine then_n ?_
 | refine then_r ?_
 | refine then_x ?_
 | refine block_x ?_
 | refine block_o (by decide) ?_
 | refine block_n ?_
 | refine block_r ?_
 | refine AW.skip ?_
 | refine AW.ret ?_
 | refine AW.exit ?_
 | refine AW.cond rfl ?_ ?_
 | refine awl_none rfl ?_
 | refine awl_nil2 ?_
 | refine awl_some rfl rfl (Nat.le_of_ble_eq_true rfl) rfl rfl ?_ ?_
 | (refine awl_skip rfl rfl (Nat.le_of_ble_eq_true rfl) rfl rfl ?_;simp only [stU])
 | (refine fun (hc : _ = _)=>?_;first|cases hc|((try rw [hc]);(try simp only [stH] at hc);(try (exfalso;omega)));(try (show Awl _ _ _ _ _;simp only [stU])))
 | ((first|refine fun (K : V → List _ → _) hK=>?_|refine fun (_ : V → V)=>?_);simp (maxSteps:=1000000) (disch:=omega) only [go_sem,Int.reduceEq,↓reduceIte,reduceCtorEq,Nat.reduceEqDiff,Nat.reduceLT,Nat.reduceLeDiff,Nat.reduceAdd,Nat.reduceSub,Nat.reduceMul,Int.reduceToNat,Int.reduceLE,Int.reduceLT,Q1,Sp_overdubkeep_Within,Sp_disk_New,Sm_disk_Disk_Stop,Sp_overdublaw10_full,Sm_disk_Disk_Write,Sm_disk_Disk_Dead,Sm_disk_Disk_Read,Sm_disk_Disk_Flush,Sm_disk_Disk_Waiting,Sp_overdubkeep_Cut_bool,Sm_disk_Disk_Crash,Sp_overdublaw10_wakes,stS,hok,hrem,hw8,one_mB,hS,hst,hsl,hwo,hdd1,hg1,lentN,lentD,lent_and,mB_inj,V.d.injEq,V.ptr.injEq];(try (revert hK;intro hK;(repeat' first|(refine And.intro ?_ ?_)|(intro hc;first|cases hc|((try rw [hc]);(try simp only [stH] at hc);(try (exfalso;omega)))));all_goals first|(refine hK _ _ ?_;clear hK K;simp only [stU])|exact hK|omega)))) <;> (fail_if_success (show False;skip)))
      refine ⟨k + 1,by omega,by omega,nm [(21,21),(1021,1021),(200,2049)],Wk.of ?_⟩
      simp (disch:=omega) only [go_sem,Int.reduceEq,↓reduceIte,reduceCtorEq,Nat.reduceEqDiff,Nat.reduceLT,Nat.reduceLeDiff,Nat.reduceAdd,Nat.reduceSub,Nat.reduceMul,Int.reduceToNat,Int.reduceLE,Int.reduceLT,Q1,Sp_overdubkeep_Within,Sp_disk_New,Sm_disk_Disk_Stop,Sp_overdublaw10_full,Sm_disk_Disk_Write,Sm_disk_Disk_Dead,Sm_disk_Disk_Read,Sm_disk_Disk_Flush,Sm_disk_Disk_Waiting,Sp_overdubkeep_Cut_bool,Sm_disk_Disk_Crash,Sp_overdublaw10_wakes,stS]
      rfl
    · have hg1 : decide ((A : Int) ≤ (k : Int)) = true:=decide_eq_true (by omega)
      have hwo:=write_dd h3 hsl (by rw [hdn];exact decide_eq_true (by omega))
      have e : ddD (dS A k) = dS A (k + 1):=by rw [dS,if_neg hkA]
      rw [e] at hwo
      rw [decide_eq_true (by omega)] at hdd1
      obtain ⟨S,hS⟩ : ∃ S,fullL [(k : Int) + 1] = S:=⟨_,rfl⟩
      rw [hS] at hwo hst hsl
      generalize ((k % 3 : Nat) : Int) = r at *
      repeat' ((first
 | refine AW.seq ?_
 | refine AW.block ?_
 | refine AW.regl Q1_ok [0,1,2,6,7,8,9,10,12,13,15,29,35,40,59,72,99] ?_
 | refine then_n ?_
 | refine then_r ?_
 | refine then_x ?_
 | refine block_x ?_
 | refine block_o (by decide) ?_
 | refine block_n ?_
 | refine block_r ?_
 | refine AW.skip ?_
 | refine AW.ret ?_
 | refine AW.exit ?_
 | refine AW.cond rfl ?_ ?_
 | refine awl_none rfl ?_
 | refine awl_nil2 ?_
 | refine awl_some rfl rfl (Nat.le_of_ble_eq_true rfl) rfl rfl ?_ ?_
 | (refine awl_skip rfl rfl (Nat.le_of_ble_eq_true rfl) rfl rfl ?_;simp only [stU])
 | (refine fun (hc : _ = _)=>?_;first|cases hc|((try rw [hc]);(try simp only [stH] at hc);(try (exfalso;omega)));(try (show Awl _ _ _ _ _;simp only [stU])))
 | ((first|refine fun (K : V → List _ → _) hK=>?_|refine fun (_ : V → V)=>?_);simp (maxSteps:=1000000) (disch:=omega) only [go_sem,Int.reduceEq,↓reduceIte,reduceCtorEq,Nat.reduceEqDiff,Nat.reduceLT,Nat.reduceLeDiff,Nat.reduceAdd,Nat.reduceSub,Nat.reduceMul,Int.reduceToNat,Int.reduceLE,Int.reduceLT,Q1,Sp_overdubkeep_Within,Sp_disk_New,Sm_disk_Disk_Stop,Sp_overdublaw10_full,Sm_disk_Disk_Write,Sm_disk_Disk_Dead,Sm_disk_Disk_Read,Sm_disk_Disk_Flush,Sm_disk_Disk_Waiting,Sp_overdubkeep_Cut_bool,Sm_disk_Disk_Crash,Sp_overdublaw10_wakes,stS,hok,hrem,hw8,one_mB,hS,hst,hsl,hwo,hdd1,hg1,lentN,lentD,lent_and,mB_inj,V.d.injEq,V.ptr.injEq];(try (revert hK;intro hK;(repeat' first|(refine And.intro ?_ ?_)|(intro hc;first|cases hc|((try rw [hc]);(try simp only [stH] at hc);(try (exfalso;omega)))));all_goals first|(refine hK _ _ ?_;clear hK K;simp only [stU])|exact hK|omega)))) <;> (fail_if_success (show False;skip)))
      refine ⟨k + 1,by omega,by omega,nm [(21,21),(1021,1021),(200,2049)],Wk.of ?_⟩
      simp (disch:=omega) only [go_sem,Int.reduceEq,↓reduceIte,reduceCtorEq,Nat.reduceEqDiff,Nat.reduceLT,Nat.reduceLeDiff,Nat.reduceAdd,Nat.reduceSub,Nat.reduceMul,Int.reduceToNat,Int.reduceLE,Int.reduceLT,Q1,Sp_overdubkeep_Within,Sp_disk_New,Sm_disk_Disk_Stop,Sp_overdublaw10_full,Sm_disk_Disk_Write,Sm_disk_Disk_Dead,Sm_disk_Disk_Read,Sm_disk_Disk_Flush,Sm_disk_Disk_Waiting,Sp_overdubkeep_Cut_bool,Sm_disk_Disk_Crash,Sp_overdublaw10_wakes,stS]
      rfl
  · obtain rfl : k = N:=by omega
    have hkt : (keep.take 12).length ≤ 12:=by rw [List.length_take];omega
    obtain ⟨kp,hkp⟩ : ∃ kp,keep.take 12 = kp:=⟨_,rfl⟩
    rw [hkp] at hkt
    obtain ⟨d,hd⟩ : ∃ d,dS A k = d:=⟨_,rfl⟩
    rw [hd] at hi hdn hok
    have h03 : 0 ≤ (0 : Int) ∧ (0 : Int) < d.kept.length:=⟨by omega,by rw [hi.kl];omega⟩
    have hzs:=fullL_take []
    have hzl:=fullL_len []
    obtain ⟨Z,hZ⟩ : ∃ Z,fullL [] = Z:=⟨_,rfl⟩
    rw [hZ] at hzs hzl
    have after : ∀ e : Dk,okD e → e.kept.length = 3 → ∃ e1 e2 e3 : Dk,crD e kp = e1 ∧ okD e1 ∧ e1.dead = false ∧ readOut e1 0 = ⟨.tup [.sl 0 1 0 128 true,.d (.v (.int .i64 0))],(0,.row 5 1 ((readL e1 0).map mB)) :: lentD 1000002 e2⟩ ∧ okD e2 ∧ e2.dead = false ∧
        writeOut e2 1 Z = ⟨.d (.v (.int .i64 0)),lentN e3⟩ ∧ okD e3 ∧ flushOut e3 = ⟨.d (.v (.int .i64 0)),lentN (flD e3)⟩:=by
      intro e he hk3
      have o1:=cr_ok (keep:=kp) he
      have k1 : (crD e kp).kept.length = 3:=by show (kpC _ _ _ _).length = 3;rw [kpC_len,hk3]
      have o2 : okD (rdD (crD e kp)):=rd_ok o1
      have dn : deadN (rdD (crD e kp)) = false:=rfl
      have o3 : okD (wrD (rdD (crD e kp)) 1 Z):=wr_ok o2 ⟨by omega,by show (1 : Int) < (crD e kp).kept.length;rw [k1];omega⟩ hzl (by show 0 < 1000000;omega) dn
      exact ⟨_,_,_,rfl,o1,rfl,read_ok ⟨by omega,by rw [k1];omega⟩ rfl,o2,rfl,write_ok ⟨by omega,by show (1 : Int) < (crD e kp).kept.length;rw [k1];omega⟩ hzl dn,o3,flush_ok rfl⟩
    by_cases hc1 : k < A
    · have r1:=read_ok h03 (by rw [hi.dd];exact decide_eq_false (by omega))
      have f1 : flushOut (rdD d) = ⟨.d (.v (.int .i64 0)),lentN (flD (rdD d))⟩:=flush_ok (by show deadN d = false;rw [hdn];exact decide_eq_false (by omega))
      have o1 : okD (rdD d):=rd_ok hi.ok
      have o1t : okD (rdD d) = True:=eq_true o1
      have o2 : okD (flD (rdD d)):=fl_ok o1
      have o2t : okD (flD (rdD d)) = True:=eq_true o2
      have w1 : (flD (rdD d)).wt.length = 0:=rfl
      have q1 : decide ((A : Int) < (k : Int)) = false:=decide_eq_false (by omega)
      have q2 : decide ((k : Int) < (A : Int)) = true:=decide_eq_true (by omega)
      have q3 : decide ((A : Int) ≤ (k : Int)) = false:=decide_eq_false (by omega)
      obtain ⟨e1,e2,e3,g1,g2,g3,g4,g5,g6,g7,g8,g9⟩:=after (flD (rdD d)) o2 (by show (applyW _ _).length = 3;rw [applyW_len];exact hi.kl)
      have g2t : okD e1 = True:=eq_true g2
      have g5t : okD e2 = True:=eq_true g5
      have g8t : okD e3 = True:=eq_true g8
      repeat' ((first
 | refine AW.seq ?_
 | refine AW.block ?_
 | refine AW.regl Q1_ok [0,1,2,6,7,8,9,10,12,13,15,29,35,40,59,72,99] ?_
 | refine then_n ?_
 | refine then_r ?_
 | refine then_x ?_
 | refine block_x ?_
 | refine block_o (by decide) ?_
 | refine block_n ?_
 | refine block_r ?_
 | refine AW.skip ?_
 | refine AW.ret ?_
 | refine AW.exit ?_
 | refine AW.cond rfl ?_ ?_
 | refine awl_none rfl ?_
 | refine awl_nil2 ?_
 | refine awl_some rfl rfl (Nat.le_of_ble_eq_true rfl) rfl rfl ?_ ?_
 | (refine awl_skip rfl rfl (Nat.le_of_ble_eq_true rfl) rfl rfl ?_;simp only [stU])
 | (refine fun (hc : _ = _)=>?_;first|cases hc|((try rw [hc]);(try simp only [stH] at hc);(try (exfalso;omega)));(try (show Awl _ _ _ _ _;simp only [stU])))
 | ((first|refine fun (K : V → List _ → _) hK=>?_|refine fun (_ : V → V)=>?_);simp (maxSteps:=1000000) (disch:=omega) only [go_sem,Int.reduceEq,↓reduceIte,reduceCtorEq,Nat.reduceEqDiff,Nat.reduceLT,Nat.reduceLeDiff,Nat.reduceAdd,Nat.reduceSub,Nat.reduceMul,Int.reduceToNat,Int.reduceLE,Int.reduceLT,Q1,Sp_overdubkeep_Within,Sp_disk_New,Sm_disk_Disk_Stop,Sp_overdublaw10_full,Sm_disk_Disk_Write,Sm_disk_Disk_Dead,Sm_disk_Disk_Read,Sm_disk_Disk_Flush,Sm_disk_Disk_Waiting,Sp_overdubkeep_Cut_bool,Sm_disk_Disk_Crash,Sp_overdublaw10_wakes,stS,hd,hok,hkp,r1,f1,o1t,o2t,w1,q1,q2,q3,g1,g2t,g3,g4,g5t,g6,g7,g8t,g9,hZ,hzs,hzl,nil_mB,bD_inj,lentN,lentD,lent_and,mB_inj,V.d.injEq,V.ptr.injEq];(try (revert hK;intro hK;(repeat' first|(refine And.intro ?_ ?_)|(intro hc;first|cases hc|((try rw [hc]);(try simp only [stH] at hc);(try (exfalso;omega)))));all_goals first|(refine hK _ _ ?_;clear hK K;simp only [stU])|exact hK|omega)))) <;> (fail_if_success (show False;skip)))
      all_goals (refine Ends.of (nm []) (by first|exact .inl rfl|exact .inr rfl) ?_;simp (maxSteps:=1000000) (disch:=omega) only [go_sem,Int.reduceEq,↓reduceIte,reduceCtorEq,Nat.reduceEqDiff,Nat.reduceLT,Nat.reduceLeDiff,Nat.reduceAdd,Nat.reduceSub,Nat.reduceMul,Int.reduceToNat,Int.reduceLE,Int.reduceLT,Q1,Sp_overdubkeep_Within,Sp_disk_New,Sm_disk_Disk_Stop,Sp_overdublaw10_full,Sm_disk_Disk_Write,Sm_disk_Disk_Dead,Sm_disk_Disk_Read,Sm_disk_Disk_Flush,Sm_disk_Disk_Waiting,Sp_overdubkeep_Cut_bool,Sm_disk_Disk_Crash,Sp_overdublaw10_wakes])
    by_cases hc2 : k = A
    · have r1:=read_ok h03 (by rw [hi.dd];exact decide_eq_false (by omega))
      have f1 : flushOut (rdD d) = ⟨.d (.v (.int .i64 9)),lentN (ddD (rdD d))⟩:=flush_dd (by show deadN d = true;rw [hdn];exact decide_eq_true (by omega))
      have o1 : okD (rdD d):=rd_ok hi.ok
      have o1t : okD (rdD d) = True:=eq_true o1
      have o2 : okD (ddD (rdD d)):=dd_ok o1
      have o2t : okD (ddD (rdD d)) = True:=eq_true o2
      have w1 : (ddD (rdD d)).wt.length = A:=by show d.wt.length = A;rw [hi.wl];omega
      subst hc2
      have q1 : decide ((k : Int) < (k : Int)) = false:=decide_eq_false (by omega)
      have q3 : decide ((k : Int) ≤ (k : Int)) = true:=decide_eq_true (by omega)
      obtain ⟨e1,e2,e3,g1,g2,g3,g4,g5,g6,g7,g8,g9⟩:=after (ddD (rdD d)) o2 hi.kl
      have g2t : okD e1 = True:=eq_true g2
      have g5t : okD e2 = True:=eq_true g5
      have g8t : okD e3 = True:=eq_true g8
      repeat' ((first
 | refine AW.seq ?_
 | refine AW.block ?_
 | refine AW.regl Q1_ok [0,1,2,6,7,8,9,10,12,13,15,29,35,40,59,72,99] ?_
 | refine then_n ?_
 | refine then_r ?_
 | refine then_x ?_
 | refine block_x ?_
 | refine block_o (by decide) ?_
 | refine block_n ?_
 | refine block_r ?_
 | refine AW.skip ?_
 | refine AW.ret ?_
 | refine AW.exit ?_
 | refine AW.cond rfl ?_ ?_
 | refine awl_none rfl ?_
 | refine awl_nil2 ?_
 | refine awl_some rfl rfl (Nat.le_of_ble_eq_true rfl) rfl rfl ?_ ?_
 | (refine awl_skip rfl rfl (Nat.le_of_ble_eq_true rfl) rfl rfl ?_;simp only [stU])
 | (refine fun (hc : _ = _)=>?_;first|cases hc|((try rw [hc]);(try simp only [stH] at hc);(try (exfalso;omega)));(try (show Awl _ _ _ _ _;simp only [stU])))
 | ((first|refine fun (K : V → List _ → _) hK=>?_|refine fun (_ : V → V)=>?_);simp (maxSteps:=1000000) (disch:=omega) only [go_sem,Int.reduceEq,↓reduceIte,reduceCtorEq,Nat.reduceEqDiff,Nat.reduceLT,Nat.reduceLeDiff,Nat.reduceAdd,Nat.reduceSub,Nat.reduceMul,Int.reduceToNat,Int.reduceLE,Int.reduceLT,Q1,Sp_overdubkeep_Within,Sp_disk_New,Sm_disk_Disk_Stop,Sp_overdublaw10_full,Sm_disk_Disk_Write,Sm_disk_Disk_Dead,Sm_disk_Disk_Read,Sm_disk_Disk_Flush,Sm_disk_Disk_Waiting,Sp_overdubkeep_Cut_bool,Sm_disk_Disk_Crash,Sp_overdublaw10_wakes,stS,hd,hok,hkp,r1,f1,o1t,o2t,w1,q1,q3,g1,g2t,g3,g4,g5t,g6,g7,g8t,g9,hZ,hzs,hzl,nil_mB,bD_inj,lentN,lentD,lent_and,mB_inj,V.d.injEq,V.ptr.injEq];(try (revert hK;intro hK;(repeat' first|(refine And.intro ?_ ?_)|(intro hc;first|cases hc|((try rw [hc]);(try simp only [stH] at hc);(try (exfalso;omega)))));all_goals first|(refine hK _ _ ?_;clear hK K;simp only [stU])|exact hK|omega)))) <;> (fail_if_success (show False;skip)))
      all_goals (refine Ends.of (nm []) (by first|exact .inl rfl|exact .inr rfl) ?_;simp (maxSteps:=1000000) (disch:=omega) only [go_sem,Int.reduceEq,↓reduceIte,reduceCtorEq,Nat.reduceEqDiff,Nat.reduceLT,Nat.reduceLeDiff,Nat.reduceAdd,Nat.reduceSub,Nat.reduceMul,Int.reduceToNat,Int.reduceLE,Int.reduceLT,Q1,Sp_overdubkeep_Within,Sp_disk_New,Sm_disk_Disk_Stop,Sp_overdublaw10_full,Sm_disk_Disk_Write,Sm_disk_Disk_Dead,Sm_disk_Disk_Read,Sm_disk_Disk_Flush,Sm_disk_Disk_Waiting,Sp_overdubkeep_Cut_bool,Sm_disk_Disk_Crash,Sp_overdublaw10_wakes])
    have hc3 : A < k:=by omega
    · have q1 : decide ((A : Int) < (k : Int)) = true:=decide_eq_true (by omega)
      have q2 : decide ((k : Int) < (A : Int)) = false:=decide_eq_false (by omega)
      have q3 : decide ((A : Int) ≤ (k : Int)) = true:=decide_eq_true (by omega)
      have r1:=read_dd h03 (by rw [hi.dd];exact decide_eq_true (by omega))
      have f1 : flushOut d = ⟨.d (.v (.int .i64 9)),lentN (ddD d)⟩:=flush_dd (by rw [hdn];exact decide_eq_true (by omega))
      have o2 : okD (ddD d):=dd_ok hi.ok
      have o2t : okD (ddD d) = True:=eq_true o2
      have w1 : (ddD d).wt.length = A:=by show d.wt.length = A;rw [hi.wl];omega
      obtain ⟨e1,e2,e3,g1,g2,g3,g4,g5,g6,g7,g8,g9⟩:=after (ddD d) o2 hi.kl
      have g2t : okD e1 = True:=eq_true g2
      have g5t : okD e2 = True:=eq_true g5
      have g8t : okD e3 = True:=eq_true g8
      repeat' ((first
 | refine AW.seq ?_
 | refine AW.block ?_
 | refine AW.regl Q1_ok [0,1,2,6,7,8,9,10,12,13,15,29,35,40,59,72,99] ?_
 | refine then_n ?_
 | refine then_r ?_
 | refine then_x ?_
 | refine block_x ?_
 | refine block_o (by decide) ?_
 | refine block_n ?_
 | refine block_r ?_
 | refine AW.skip ?_
 | refine AW.ret ?_
 | refine AW.exit ?_
 | refine AW.cond rfl ?_ ?_
 | refine awl_none rfl ?_
 | refine awl_nil2 ?_
 | refine awl_some rfl rfl (Nat.le_of_ble_eq_true rfl) rfl rfl ?_ ?_
 | (refine awl_skip rfl rfl (Nat.le_of_ble_eq_true rfl) rfl rfl ?_;simp only [stU])
 | (refine fun (hc : _ = _)=>?_;first|cases hc|((try rw [hc]);(try simp only [stH] at hc);(try (exfalso;omega)));(try (show Awl _ _ _ _ _;simp only [stU])))
 | ((first|refine fun (K : V → List _ → _) hK=>?_|refine fun (_ : V → V)=>?_);simp (maxSteps:=1000000) (disch:=omega) only [go_sem,Int.reduceEq,↓reduceIte,reduceCtorEq,Nat.reduceEqDiff,Nat.reduceLT,Nat.reduceLeDiff,Nat.reduceAdd,Nat.reduceSub,Nat.reduceMul,Int.reduceToNat,Int.reduceLE,Int.reduceLT,Q1,Sp_overdubkeep_Within,Sp_disk_New,Sm_disk_Disk_Stop,Sp_overdublaw10_full,Sm_disk_Disk_Write,Sm_disk_Disk_Dead,Sm_disk_Disk_Read,Sm_disk_Disk_Flush,Sm_disk_Disk_Waiting,Sp_overdubkeep_Cut_bool,Sm_disk_Disk_Crash,Sp_overdublaw10_wakes,stS,hd,hok,hkp,r1,f1,o2t,w1,q1,q2,q3,g1,g2t,g3,g4,g5t,g6,g7,g8t,g9,hZ,hzs,hzl,nil_mB,bD_inj,lentN,lentD,lent_and,mB_inj,V.d.injEq,V.ptr.injEq];(try (revert hK;intro hK;(repeat' first|(refine And.intro ?_ ?_)|(intro hc;first|cases hc|((try rw [hc]);(try simp only [stH] at hc);(try (exfalso;omega)))));all_goals first|(refine hK _ _ ?_;clear hK K;simp only [stU])|exact hK|omega)))) <;> (fail_if_success (show False;skip)))
      all_goals (refine Ends.of (nm []) (by first|exact .inl rfl|exact .inr rfl) ?_;simp (maxSteps:=1000000) (disch:=omega) only [go_sem,Int.reduceEq,↓reduceIte,reduceCtorEq,Nat.reduceEqDiff,Nat.reduceLT,Nat.reduceLeDiff,Nat.reduceAdd,Nat.reduceSub,Nat.reduceMul,Int.reduceToNat,Int.reduceLE,Int.reduceLT,Q1,Sp_overdubkeep_Within,Sp_disk_New,Sm_disk_Disk_Stop,Sp_overdublaw10_full,Sm_disk_Disk_Write,Sm_disk_Disk_Dead,Sm_disk_Disk_Read,Sm_disk_Disk_Flush,Sm_disk_Disk_Waiting,Sp_overdubkeep_Cut_bool,Sm_disk_Disk_Crash,Sp_overdublaw10_wakes])
theorem ent_overdublaw10_DiskStops : Ent Try.prog 5:=⟨_,Try.func5,rfl,by decide⟩
end Go.Proofs.Ytcmnblgekcjpiaa.Am
