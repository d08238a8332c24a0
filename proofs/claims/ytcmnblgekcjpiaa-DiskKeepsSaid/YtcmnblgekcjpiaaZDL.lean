import Derived.Test.YtcmnblgekcjpiaaZDC
set_option linter.unusedVariables false
set_option linter.unusedSimpArgs false
set_option maxRecDepth 10000
set_option maxHeartbeats 0
namespace Go.Proofs.Ytcmnblgekcjpiaa.Am
open Go Go.RowKit Go.Proofs
theorem ren_boxO (ρ : Nat → Nat) (a b : Nat) (d : Dk) : renO ρ (boxO a b d) = boxO (ρ a) (ρ b) d:=rfl
theorem ren_keptO (ρ : Nat → Nat) (d : Dk) : renO ρ (keptO d) = keptO d:=rfl
theorem ren_waitO (ρ : Nat → Nat) (d : Dk) : renO ρ (waitO d) = waitO d:=rfl
theorem own_boxO (a b : Nat) (d : Dk) : ownO (some (boxO a b d)) = [a,b]:=rfl
theorem own_keptO (d : Dk) : ownO (some (keptO d)) = []:=rfl
theorem own_waitO (d : Dk) : ownO (some (waitO d)) = []:=rfl
theorem va_boxO (dom : Nat → Prop) (a b : Nat) (d : Dk) : vaO tt dom (boxO a b d) = (dom a ∧ dom b):=by simp [vaO,boxO,va1,tt]
theorem va_keptO (dom : Nat → Prop) (d : Dk) : vaO tt dom (keptO d) = True:=by simp [vaO,keptO,tt]
theorem va_waitO (dom : Nat → Prop) (d : Dk) : vaO tt dom (waitO d) = True:=by simp [vaO,waitO,tt]
theorem scal_S (s : List Int) : Scal (sD s):=.agg _ fun d hd=>by obtain ⟨z,_,rfl⟩:=List.mem_map.1 hd;exact .v _
theorem scal_W (w : Int × List Int) : Scal (wD w):=.agg _ fun d hd=>by
  rcases List.mem_cons.1 hd with rfl|hd
  · exact .v _
  · obtain ⟨z,_,rfl⟩:=List.mem_map.1 hd;exact .v _
theorem sc_boxO (dom : Nat → Prop) (a b : Nat) (d : Dk) : vaO Scal' dom (boxO a b d) = (dom a ∧ dom b):=by
  have h : ∀ x,Scal' (.v x):=fun x=>.v x
  simp [vaO,boxO,va1,h]
theorem sc_keptO (dom : Nat → Prop) (d : Dk) : vaO Scal' dom (keptO d) = True:=by
  simp only [vaO,keptO,eq_iff_iff,iff_true]
  intro x hx;obtain ⟨z,_,rfl⟩:=List.mem_map.1 hx;exact scal_S z
theorem sc_waitO (dom : Nat → Prop) (d : Dk) : vaO Scal' dom (waitO d) = True:=by
  simp only [vaO,waitO,eq_iff_iff,iff_true]
  intro x hx;obtain ⟨z,_,rfl⟩:=List.mem_map.1 hx;exact scal_W z
attribute [go_sem] own_boxO own_keptO own_waitO ren_boxO ren_keptO ren_waitO va_boxO va_keptO va_waitO sc_boxO sc_keptO sc_waitO
theorem lent_eq (b : Nat) (d e : Dk) : ([(1000000,boxO 1000001 b d),(1000001,keptO d),(b,waitO d)] = lentD b e) = (d = e):=by
  simp only [eq_iff_iff]
  constructor
  · intro h
    obtain ⟨k,w,a1,a2,a3,a4,a5,a6⟩:=d
    obtain ⟨k',w',b1,b2,b3,b4,b5,b6⟩:=e
    simp only [lentD,boxO,keptO,waitO,List.cons.injEq,Prod.mk.injEq,Ob.box.injEq,Ob.row.injEq,V.d.injEq,D.v.injEq,Value.bool.injEq,Value.int.injEq,true_and,and_true] at h
    obtain ⟨⟨_,_,rfl,rfl,rfl,rfl,rfl,rfl⟩,hk,hw⟩:=h
    have hk:=(list_map_inj sD (fun a b h=>by simpa [sD,mB_inj] using h) k k').mp hk
    have hw:=(list_map_inj wD (fun a b h=>by obtain ⟨a1,a2⟩:=a;obtain ⟨b1,b2⟩:=b;simpa [wD,mB_inj] using h) w w').mp hw
    subst hk hw;rfl
  · rintro rfl;rfl
theorem lent_and (a b : Nat) (d e : Dk) (R : Prop) : (boxO a b d = boxO a b e ∧ keptO d = keptO e ∧ waitO d = waitO e ∧ R) = (d = e ∧ R):=by
  simp only [eq_iff_iff]
  constructor
  · rintro ⟨h1,h2,h3,hR⟩
    refine ⟨?_,hR⟩
    have h:=(lent_eq 5 d e).mp (by
      obtain ⟨k,w,a1,a2,a3,a4,a5,a6⟩:=d
      obtain ⟨k',w',b1,b2,b3,b4,b5,b6⟩:=e
      simp only [boxO,keptO,waitO,lentD,List.cons.injEq,Prod.mk.injEq,Ob.box.injEq,Ob.row.injEq,V.d.injEq,V.sl.injEq,D.v.injEq,Value.bool.injEq,Value.int.injEq,true_and,and_true] at h1 h2 h3 ⊢
      exact ⟨h1,h2,h3⟩)
    exact h
  · rintro ⟨rfl,hR⟩;exact ⟨rfl,rfl,rfl,hR⟩
def atD (b k w : Nat) (d : Dk) : List (Nat × Ob):=[(b,boxO b k d),(k,keptO d),(w,waitO d)]
def fullL (l : List Int) : List Int:=l.take 128 ++ List.replicate (128 - l.length) 0
theorem fullL_len (l : List Int) : (fullL l).length = 128:=by simp [fullL];omega
def Sp_overdublaw10_full (ds : List D) (out : Out) : Prop:=∃ l : List Int,ds = [.list (l.map mB)] ∧ l.length ≤ 9223372036854775807 ∧ out = ⟨.sl 0 1 0 128 true,[(0,.row 5 1 ((fullL l).map mB))]⟩
noncomputable def L0 : Env:=⟨Try.prog,fun f ds out=>False,Es,fun _=>false,fun f vs lent out=>False,fun f=>none,fun f=>false,false,fun f=>none⟩
theorem L0_sp : ∀ f ds out,L0.Sp f ds out → Ent L0.P f ∧ Good L0.P f (fun a b=>a = ds ∧ b = out):=fun _ _ _ h=>h.elim
theorem L0_sm : ∀ f vs lent out,L0.Sm f vs lent out → Ent L0.P f ∧ GoodM L0.P f (fun a l b=>a = vs ∧ l = lent ∧ b = out):=fun _ _ _ _ h=>h.elim
theorem L0_at : ∀ f k,L0.At f = some k → AtomOk L0.P f k:=fun _ _ h=>nomatch h
theorem L0_ok : L0.Ok:=⟨L0_sp,Es_ok,L0_sm,L0_at⟩
theorem good_overdublaw10_full : Good Try.prog 14 Sp_overdublaw10_full:=by
  refine good_body (E:=L0) (nt:=9) (rs:=#[.tmp 2]) Try.func14 rfl rfl rfl ?_
  rintro ds out ⟨l,rfl,hl,rfl⟩
  refine ⟨by simp,?_⟩
  have h1 : (l.map mB).take (min l.length 128) ++ (List.replicate 128 (D.v (.int .u8 0))).drop ((l.map mB).take (min l.length 128)).length = (l.take 128 ++ List.replicate (128 - l.length) 0).map mB:=by
    rcases Nat.lt_or_ge l.length 128 with h|h
    · rw [Nat.min_eq_left (by omega),List.take_of_length_le (by simp),List.take_of_length_le (by omega),List.drop_replicate]
      simp [mB]
    · rw [Nat.min_eq_right h,List.drop_eq_nil_of_le (by simp;omega),List.append_nil,show 128 - l.length = 0 by omega]
      simp
  have h2 : (l.take 128 ++ List.replicate (128 - l.length) 0).length = 128:=by simp;omega
  repeat' first
 | refine AW.seq ?_
 | refine AW.block ?_
 | refine AW.regl L0_ok [0,2,3] ?_
 | refine then_n ?_
 | refine then_r ?_
 | refine then_x ?_
 | refine block_x ?_
 | refine block_o (by decide) ?_
 | refine block_n ?_
 | refine block_r ?_
 | refine AW.skip ?_
 | refine AW.ret ?_
 | refine AW.exit ?_
 | refine AW.cond rfl ?_ ?_
 | refine awl_none rfl ?_
 | refine awl_nil2 ?_
 | (refine fun (hc : _ = _)=>?_;first|cases hc|((try rw [hc]);(try simp only [stH] at hc);(try (exfalso;omega)));(try (show Awl _ _ _ _ _;simp only [stU])))
 | ((first|refine fun (K : V → List _ → _) hK=>?_|refine fun (_ : V → V)=>?_);simp (maxSteps:=1000000) (disch:=omega) only [go_sem,Int.reduceEq,↓reduceIte,reduceCtorEq,Nat.reduceEqDiff,Nat.reduceLT,Nat.reduceLeDiff,Nat.reduceAdd,Nat.reduceSub,Nat.reduceMul,Int.reduceToNat,Int.reduceLE,Int.reduceLT,L0,h1,List.length_replicate];(try (revert hK;intro hK;(repeat' first|(refine And.intro ?_ ?_)|(intro hc;first|cases hc|((try rw [hc]);(try simp only [stH] at hc);(try (exfalso;omega)))));all_goals first|(refine hK _ _ ?_;clear hK K;simp only [stU])|exact hK|omega)))
  all_goals (refine Ends.of (nm [(0,4)]) (by first|exact .inl rfl|exact .inr rfl) ?_;simp (maxSteps:=1000000) (disch:=omega) only [go_sem,Int.reduceEq,↓reduceIte,reduceCtorEq,Nat.reduceEqDiff,Nat.reduceLT,Nat.reduceLeDiff,Nat.reduceAdd,Nat.reduceSub,Nat.reduceMul,Int.reduceToNat,Int.reduceLE,Int.reduceLT,L0,fullL,h1,h2])
theorem ent_overdublaw10_full : Ent Try.prog 14:=⟨_,Try.func14,rfl,by decide⟩
theorem wr_ok {d : Dk} {i : Int} {s : List Int} (h : okD d) (hi : 0 ≤ i ∧ i < d.kept.length) (hs : s.length = 128) (hn : d.wt.length < 1000000) (hd : deadN d = false) : okD (wrD d i s):=by
  refine ⟨h.k0,h.k1,h.kl,fun w hw=>?_,by simp [wrD];omega,?_,?_⟩
  · rcases List.mem_append.1 hw with hw|hw
    · exact h.wl w hw
    · rw [List.mem_singleton.1 hw];exact ⟨hs,hi⟩
  · show 0 ≤ if d.stops = true then d.at_ - 1 else d.at_
    have:=h.a0
    split
    · rename_i hst
      have : ¬ d.at_ = 0:=by
        intro e;simp [deadN,hst,e] at hd
      omega
    · exact this
  · show (if d.stops = true then d.at_ - 1 else d.at_) < _
    have:=h.a1;split <;> omega
theorem dd_ok {d : Dk} (h : okD d) : okD { d with dead:=true }:=⟨h.k0,h.k1,h.kl,h.wl,h.wn,h.a0,h.a1⟩
theorem fl_ok {d : Dk} (h : okD d) : okD (flD d):=⟨by show 1 ≤ (applyW _ _).length;rw [applyW_len];exact h.k0,by show (applyW _ _).length ≤ _;rw [applyW_len];exact h.k1,applyW_sec h.kl fun w hw=>(h.wl w hw).1,by simp [flD],by simp [flD],h.a0,h.a1⟩
theorem rd_ok {d : Dk} {x : Int} (h : okD d) : okD { d with rd:=x }:=⟨h.k0,h.k1,h.kl,h.wl,h.wn,h.a0,h.a1⟩
theorem stp_ok {d : Dk} {n : Int} (h : okD d) (hn : n < 9223372036854775808) : okD (stpD d n):=⟨h.k0,h.k1,h.kl,h.wl,h.wn,by simp [stpD];omega,by simp [stpD];omega⟩
theorem cr_ok {d : Dk} {keep : List Bool} (h : okD d) : okD (crD d keep):=⟨by show 1 ≤ (kpC _ _ _ _).length;rw [kpC_len];exact h.k0,by show (kpC _ _ _ _).length ≤ _;rw [kpC_len];exact h.k1,kpC_sec h.kl (fun w hw=>(h.wl w hw).1) (Nat.le_refl _),by simp [crD],by simp [crD],h.a0,h.a1⟩
noncomputable def LW : Env:=⟨Try.prog,fun f ds out=>(f = 9 ∧ Sp_disk_New ds out),Es,fun _=>false,fun f vs lent out=>(f = 13 ∧ Sm_disk_Disk_Write vs lent out) ∨ (f = 12 ∧ Sm_disk_Disk_Waiting vs lent out) ∨ (f = 18 ∧ Sm_disk_Disk_Crash vs lent out) ∨ (f = 15 ∧ Sm_disk_Disk_Image vs lent out),fun f=>if f = 13 then some [1000000,1000001,902] else if f = 12 then some [1000000,1000001,1000002] else if f = 18 then some [1000000,1000001,902] else if f = 15 then some [1000000,1000001,1000002] else none,fun f=>false,false,fun f=>none⟩
theorem LW_sp : ∀ f ds out,LW.Sp f ds out → Ent LW.P f ∧ Good LW.P f (fun a b=>a = ds ∧ b = out):=by
  rintro f ds out ⟨rfl,h⟩
  exact ⟨ent_disk_New,good_disk_New.one h⟩
theorem LW_sm : ∀ f vs lent out,LW.Sm f vs lent out → Ent LW.P f ∧ GoodM LW.P f (fun a l b=>a = vs ∧ l = lent ∧ b = out):=by
  rintro f vs lent out (⟨rfl,h⟩|⟨rfl,h⟩|⟨rfl,h⟩|⟨rfl,h⟩)
  · exact ⟨ent_disk_Disk_Write,goodM_disk_Disk_Write.one h⟩
  · exact ⟨ent_disk_Disk_Waiting,goodM_disk_Disk_Waiting.one h⟩
  · exact ⟨ent_disk_Disk_Crash,goodM_disk_Disk_Crash.one h⟩
  · exact ⟨ent_disk_Disk_Image,goodM_disk_Disk_Image.one h⟩
theorem LW_at : ∀ f k,LW.At f = some k → AtomOk LW.P f k:=fun _ _ h=>nomatch h
theorem LW_ok : LW.Ok:=⟨LW_sp,Es_ok,LW_sm,LW_at⟩
def zer : List Int:=List.replicate 128 0
theorem zer_len : zer.length = 128:=by simp [zer]
theorem rep_z : List.replicate 128 (D.v (.int .u8 0)) = zer.map mB:=by simp [zer,mB]
def Sp_overdublaw10_wakes (ds : List D) (out : Out) : Prop:=ds = [] ∧ out = ⟨.d (.v (.bool true)),[]⟩
theorem good_overdublaw10_wakes : Good Try.prog 17 Sp_overdublaw10_wakes:=by
  refine good_body (E:=LW) (nt:=39) (rs:=#[.tmp 0]) Try.func17 rfl rfl rfl ?_
  rintro ds out ⟨rfl,rfl⟩
  refine ⟨by simp,?_⟩
  obtain ⟨d,hd⟩ : ∃ d,dk0 1 = d:=⟨_,rfl⟩
  have o0 : okD d:=hd ▸ dk0_ok (by omega) (by omega)
  have hkl : d.kept.length = 1:=by rw [← hd];rfl
  have hdn : deadN d = false:=by rw [← hd];rfl
  have hwo : writeOut d 0 zer = ⟨.d (.v (.int .i64 0)),lentN (wrD d 0 zer)⟩:=by
    unfold writeOut;rw [if_neg (by rw [hkl,zer_len];simp),if_neg (by rw [hdn];simp)]
  have o1 : okD (wrD d 0 zer):=wr_ok o0 ⟨by omega,by rw [hkl];omega⟩ zer_len (by rw [← hd];simp [dk0]) hdn
  have o0t : okD d = True:=eq_true o0
  have o1t : okD (wrD d 0 zer) = True:=eq_true o1
  have o2t : okD (crD (wrD d 0 zer) []) = True:=eq_true (cr_ok o1)
  have w1 : (wrD d 0 zer).wt.length = 1:=by rw [← hd];rfl
  have w2 : (crD (wrD d 0 zer) []).wt.length = 0:=rfl
  have il : (imgL (crD (wrD d 0 zer) []).kept).length = 128:=by
    rw [imgL_len (cr_ok o1).kl]
    show (kpC _ _ _ _).length * 128 = 128
    rw [kpC_len,show (wrD d 0 zer).kept = d.kept from rfl,hkl]
  have hzt : (zer.map mB).take 128 = zer.map mB:=List.take_of_length_le (by simp [zer_len])
  have hzl : zer.length = 128:=zer_len
  repeat' ((first
 | refine AW.seq ?_
 | refine AW.block ?_
 | refine AW.regl LW_ok [0,1,2,3,4,14] ?_
 | refine then_n ?_
 | refine then_r ?_
 | refine then_x ?_
 | refine block_x ?_
 | refine block_o (by decide) ?_
 | refine block_n ?_
 | refine block_r ?_
 | refine AW.skip ?_
 | refine AW.ret ?_
 | refine AW.exit ?_
 | refine AW.cond rfl ?_ ?_
 | refine awl_none rfl ?_
 | refine awl_nil2 ?_
 | refine awl_some rfl rfl (Nat.le_of_ble_eq_true rfl) rfl rfl ?_ ?_
 | (refine fun (hc : _ = _)=>?_;first|cases hc|((try rw [hc]);(try simp only [stH] at hc);(try (exfalso;omega)));(try (show Awl _ _ _ _ _;simp only [stU])))
 | ((first|refine fun (K : V → List _ → _) hK=>?_|refine fun (_ : V → V)=>?_);simp (maxSteps:=1000000) (disch:=omega) only [go_sem,Int.reduceEq,↓reduceIte,reduceCtorEq,Nat.reduceEqDiff,Nat.reduceLT,Nat.reduceLeDiff,Nat.reduceAdd,Nat.reduceSub,Nat.reduceMul,Int.reduceToNat,Int.reduceLE,Int.reduceLT,LW,Sp_disk_New,Sm_disk_Disk_Write,Sm_disk_Disk_Waiting,Sm_disk_Disk_Crash,Sm_disk_Disk_Image,hd,rep_z,hzt,hzl,hwo,o0t,o1t,o2t,w1,w2,il,lentN,lentD,nil_bD,lent_and,mB_inj,V.d.injEq,V.ptr.injEq];(try (revert hK;intro hK;(repeat' first|(refine And.intro ?_ ?_)|(intro hc;first|cases hc|((try rw [hc]);(try simp only [stH] at hc);(try (exfalso;omega)))));all_goals first|(refine hK _ _ ?_;clear hK K;simp only [stU])|exact hK|omega)))) <;> (fail_if_success (show False;skip)))
  all_goals (refine Ends.of (nm []) (by first|exact .inl rfl|exact .inr rfl) ?_;simp (maxSteps:=1000000) (disch:=omega) only [go_sem,Int.reduceEq,↓reduceIte,reduceCtorEq,Nat.reduceEqDiff,Nat.reduceLT,Nat.reduceLeDiff,Nat.reduceAdd,Nat.reduceSub,Nat.reduceMul,Int.reduceToNat,Int.reduceLE,Int.reduceLT,LW,Sp_disk_New,Sm_disk_Disk_Write,Sm_disk_Disk_Waiting,Sm_disk_Disk_Crash,Sm_disk_Disk_Image])
theorem ent_overdublaw10_wakes : Ent Try.prog 17:=⟨_,Try.func17,rfl,by decide⟩
end Go.Proofs.Ytcmnblgekcjpiaa.Am
