import Derived.Test.YtcmnblgekcjpiaaZDQ
import Derived.Test.YtcmnblgekcjpiaaZDX
set_option linter.unusedVariables false
set_option linter.unusedSimpArgs false
set_option maxRecDepth 10000
set_option maxHeartbeats 0
namespace Go.Proofs.Ytcmnblgekcjpiaa.Am
open Go Go.RowKit Go.Proofs
theorem poke_ok {d : Dk} {i g : Int} (h : (0 ≤ i ∧ i < d.kept.length) ∧ 0 ≤ g ∧ g < 1024) : pokeOut d i g = ⟨.d (.v (.bool true)),lentD 1000002 (pokeD d i g)⟩:=by
  unfold pokeOut;rw [if_pos h]
theorem poke_no {d : Dk} {i g : Int} (h : ¬ ((0 ≤ i ∧ i < d.kept.length) ∧ 0 ≤ g ∧ g < 1024)) : pokeOut d i g = ⟨.d (.v (.bool false)),lentD 1000002 d⟩:=by
  unfold pokeOut;rw [if_neg h]
theorem fullL_byt {l : List Int} (h : ∀ x ∈ l,0 ≤ x ∧ x < 256) : ∀ x ∈ fullL l,0 ≤ x ∧ x < 256:=by
  intro x hx
  rcases List.mem_append.1 hx with h1|h1
  · exact h x (List.mem_of_mem_take h1)
  · rw [List.eq_of_mem_replicate h1];omega
theorem wrap_id8 (n : Nat) (h : n < 8) : (IntKind.u64.wrap (n : Int)).toNat = n:=by
  simp only [IntKind.wrap,IntKind.bits,IntKind.signed,Bool.false_and,Bool.false_eq_true,if_false]
  omega
noncomputable def Q3 : Env:=⟨Try.prog,fun f ds out=>(f = 10 ∧ Sp_overdubkeep_Within ds out) ∨ (f = 9 ∧ Sp_disk_New ds out) ∨ (f = 14 ∧ Sp_overdublaw10_full ds out) ∨ (f = 22 ∧ Sp_overdubkeep_Cut_byte ds out) ∨ (f = 25 ∧ Sp_overdubkeep_Copy_byte ds out) ∨ (f = 24 ∧ Sp_overdubkeep_Same_byte ds out) ∨ (f = 17 ∧ Sp_overdublaw10_wakes ds out),Es,fun _=>false,fun f vs lent out=>(f = 13 ∧ Sm_disk_Disk_Write vs lent out) ∨ (f = 16 ∧ Sm_disk_Disk_Read vs lent out) ∨ (f = 11 ∧ Sm_disk_Disk_Flush vs lent out) ∨ (f = 18 ∧ Sm_disk_Disk_Crash vs lent out) ∨ (f = 23 ∧ Sm_disk_Disk_Poke vs lent out),fun f=>if f = 13 then some [1000000,1000001,902] else if f = 16 then some [1000000,1000001,1000002] else if f = 11 then some [1000000,1000001,902] else if f = 18 then some [1000000,1000001,902] else if f = 23 then some [1000000,1000001,1000002] else none,fun f=>false,false,fun f=>none⟩
theorem Q3_sp : ∀ f ds out,Q3.Sp f ds out → Ent Q3.P f ∧ Good Q3.P f (fun a b=>a = ds ∧ b = out):=by
  rintro f ds out (⟨rfl,h⟩|⟨rfl,h⟩|⟨rfl,h⟩|⟨rfl,h⟩|⟨rfl,h⟩|⟨rfl,h⟩|⟨rfl,h⟩)
  · exact ⟨ent_overdubkeep_Within,good_overdubkeep_Within.one h⟩
  · exact ⟨ent_disk_New,good_disk_New.one h⟩
  · exact ⟨ent_overdublaw10_full,good_overdublaw10_full.one h⟩
  · exact ⟨ent_overdubkeep_Cut_byte,good_overdubkeep_Cut_byte.one h⟩
  · exact ⟨ent_overdubkeep_Copy_byte,good_overdubkeep_Copy_byte.one h⟩
  · exact ⟨ent_overdubkeep_Same_byte,good_overdubkeep_Same_byte.one h⟩
  · exact ⟨ent_overdublaw10_wakes,good_overdublaw10_wakes.one h⟩
theorem Q3_sm : ∀ f vs lent out,Q3.Sm f vs lent out → Ent Q3.P f ∧ GoodM Q3.P f (fun a l b=>a = vs ∧ l = lent ∧ b = out):=by
  rintro f vs lent out (⟨rfl,h⟩|⟨rfl,h⟩|⟨rfl,h⟩|⟨rfl,h⟩|⟨rfl,h⟩)
  · exact ⟨ent_disk_Disk_Write,goodM_disk_Disk_Write.one h⟩
  · exact ⟨ent_disk_Disk_Read,goodM_disk_Disk_Read.one h⟩
  · exact ⟨ent_disk_Disk_Flush,goodM_disk_Disk_Flush.one h⟩
  · exact ⟨ent_disk_Disk_Crash,goodM_disk_Disk_Crash.one h⟩
  · exact ⟨ent_disk_Disk_Poke,goodM_disk_Disk_Poke.one h⟩
theorem Q3_at : ∀ f k,Q3.At f = some k → AtomOk Q3.P f k:=fun _ _ h=>nomatch h
theorem Q3_ok : Q3.Ok:=⟨Q3_sp,Es_ok,Q3_sm,Q3_at⟩
def Sp_overdublaw10_DiskPokes (ds : List D) (out : Out) : Prop:=∃ (i g : Int) (a b : List Int) (kp : Bool),ds = [.v (.int .i64 i),.v (.int .i64 g),.list (a.map mB),.list (b.map mB),.v (.bool kp)] ∧ Byt a ∧ a.length ≤ 9223372036854775807 ∧ Byt b ∧ b.length ≤ 9223372036854775807 ∧ out = ⟨.d (.v (.bool true)),[]⟩
theorem good_overdublaw10_DiskPokes : Good Try.prog 6 Sp_overdublaw10_DiskPokes:=by
  refine good_body (E:=Q3) (nt:=180) (rs:=#[.tmp 10]) Try.func6 rfl rfl rfl ?_
  rintro ds out ⟨i0,g0,a,b,kp,rfl,hba,hal,hbb,hbl,rfl⟩
  refine ⟨by simp,?_⟩
  have hwi:=within_rngC (v:=i0) (n:=4) (by omega)
  have hwg:=within_rngC (v:=g0) (n:=1024) (by omega)
  obtain ⟨i,hi⟩ : ∃ i : Nat,within i0 4 = i:=⟨(within i0 4).toNat,by omega⟩
  obtain ⟨g,hg⟩ : ∃ g : Nat,within g0 1024 = g:=⟨(within g0 1024).toNat,by omega⟩
  rw [hi] at hwi;rw [hg] at hwg
  have hi4 : i < 4:=by omega
  have hg8 : g / 8 < 128:=by omega
  obtain ⟨x,hx⟩ : ∃ x,fullL (a.take 60) = x:=⟨_,rfl⟩
  obtain ⟨y,hy⟩ : ∃ y,fullL (b.take 60) = y:=⟨_,rfl⟩
  have hxl : x.length = 128:=by rw [← hx];exact fullL_len _
  have hyl : y.length = 128:=by rw [← hy];exact fullL_len _
  have hxb : ∀ z ∈ x,0 ≤ z ∧ z < 256:=by rw [← hx];exact fullL_byt (fun z hz=>hba z (List.mem_of_mem_take hz))
  have hyb : ∀ z ∈ y,0 ≤ z ∧ z < 256:=by rw [← hy];exact fullL_byt (fun z hz=>hbb z (List.mem_of_mem_take hz))
  have hat : (a.take 60).length ≤ 9223372036854775807:=by rw [List.length_take];omega
  have hbt : (b.take 60).length ≤ 9223372036854775807:=by rw [List.length_take];omega
  obtain ⟨a',ha'⟩ : ∃ a',a.take 60 = a':=⟨_,rfl⟩
  obtain ⟨b',hb'⟩ : ∃ b',b.take 60 = b':=⟨_,rfl⟩
  rw [ha'] at hx hat;rw [hb'] at hy hbt
  have hz0:=pD_z hi4
  have hzl : (List.replicate 128 (0 : Int)).length = 128:=by simp
  obtain ⟨d0,e0⟩ : ∃ d,pD i (List.replicate 128 0) [] 0 0 0 = d:=⟨_,rfl⟩
  obtain ⟨d1,e1⟩ : ∃ d,pD i (List.replicate 128 0) [((i : Int),x)] 0 (IntKind.i64.wrap (0 + 1)) 0 = d:=⟨_,rfl⟩
  obtain ⟨d2,e2⟩ : ∃ d,pD i x [] 0 (IntKind.i64.wrap (0 + 1)) (IntKind.i64.wrap (0 + 1)) = d:=⟨_,rfl⟩
  obtain ⟨n3,hn3⟩ : ∃ n,IntKind.i64.wrap (IntKind.i64.wrap (0 + 1) + 1) = n:=⟨_,rfl⟩
  obtain ⟨n2,hn2⟩ : ∃ n,IntKind.i64.wrap (0 + 1) = n:=⟨_,rfl⟩
  rw [hn2] at e1 e2 hn3
  have tl : ∀ s : List Int,s.length = 128 → (turnL g s).length = 128:=fun s h=>by rw [turnL_len,h]
  have o0 : okD d0:=e0 ▸ pD_ok hzl hi4 (by simp) (by simp)
  have o1 : okD d1:=e1 ▸ pD_ok hzl hi4 (by simp) (by simp [hxl])
  have o2 : okD d2:=e2 ▸ pD_ok hxl hi4 (by simp) (by simp)
  have hdk : ∀ (k : List Int) (w : List (Int × List Int)) (n wr fl : Int),deadN (pD i k w n wr fl) = false:=fun _ _ _ _ _=>rfl
  have wo1 : writeOut d0 i x = ⟨.d (.v (.int .i64 0)),lentN d1⟩:=by rw [← e0,write_ok ⟨by omega,by rw [pD_kl];omega⟩ hxl rfl,pD_wr,hn2,e1]
  have fo2 : flushOut d1 = ⟨.d (.v (.int .i64 0)),lentN d2⟩:=by rw [← e1,flush_ok rfl,pD_fl,hn2,e2]
  obtain ⟨d3,e3⟩ : ∃ d,pD i x [((i : Int),y)] 0 n3 n2 = d:=⟨_,rfl⟩
  have o3 : okD d3:=e3 ▸ pD_ok hxl hi4 (by simp) (by simp [hyl])
  have wo3 : writeOut d2 i y = ⟨.d (.v (.int .i64 0)),lentN d3⟩:=by rw [← e2,write_ok ⟨by omega,by rw [pD_kl];omega⟩ hyl rfl,pD_wr,hn3,e3]
  obtain ⟨x',hx'⟩ : ∃ s,turnL g x = s:=⟨_,rfl⟩
  obtain ⟨y',hy'⟩ : ∃ s,turnL g y = s:=⟨_,rfl⟩
  have hxl' : x'.length = 128:=hx' ▸ tl x hxl
  have hyl' : y'.length = 128:=hy' ▸ tl y hyl
  have hxx : turnL g (turnL g x') = x':=by rw [← hx',turnL_back (s:=x) _ hxb (by rw [hxl,Int.toNat_natCast];exact hg8)]
  have hyy : turnL g (turnL g y') = y':=by rw [← hy',turnL_back (s:=y) _ hyb (by rw [hyl,Int.toNat_natCast];exact hg8)]
  obtain ⟨d4,e4⟩ : ∃ d,pD i x' [((i : Int),y')] 0 n3 n2 = d:=⟨_,rfl⟩
  have po4 : pokeOut d3 i g = ⟨.d (.v (.bool true)),lentD 1000002 d4⟩:=by rw [← e3,poke_ok ⟨⟨by omega,by rw [pD_kl];omega⟩,by omega,by omega⟩,pD_pk hi4 _ _ _ _ _ _ (by simp),hx',← e4,← hy'];rfl
  have o4 : okD d4:=e4 ▸ pD_ok hxl' hi4 (by simp) (by simp [hyl'])
  obtain ⟨d5,e5⟩ : ∃ d,rdD d4 = d:=⟨_,rfl⟩
  have ro4 : readOut d4 i = ⟨.tup [.sl 0 1 0 128 true,.d (.v (.int .i64 0))],(0,.row 5 1 (y'.map mB)) :: lentD 1000002 d5⟩:=by
    rw [← e5,read_ok ⟨by omega,by rw [← e4,pD_kl];omega⟩ (by rw [← e4];rfl),← e4,pD_read hi4];simp [lastW]
  have o5 : okD d5:=e5 ▸ rd_ok o4
  obtain ⟨z,hz⟩ : ∃ z,(if kp = true then y' else x') = z:=⟨_,rfl⟩
  have hzl2 : z.length = 128:=by rw [← hz];split;exact hyl';exact hxl'
  have hzz : turnL g (turnL g z) = z:=by rw [← hz];split;exact hyy;exact hxx
  obtain ⟨d6,e6⟩ : ∃ d,crD d5 [kp] = d:=⟨_,rfl⟩
  have o6 : okD d6:=e6 ▸ cr_ok o5
  have f6 : ∃ n,d6 = pD i z [] n n3 n2:=⟨_,by rw [← e6,← e5,← e4,pD_rd,pD_cr,hz]⟩
  obtain ⟨r6,f6⟩:=f6
  obtain ⟨d7,e7⟩ : ∃ d,rdD d6 = d:=⟨_,rfl⟩
  have ro6 : readOut d6 i = ⟨.tup [.sl 0 1 0 128 true,.d (.v (.int .i64 0))],(0,.row 5 1 (z.map mB)) :: lentD 1000002 d7⟩:=by
    rw [← e7,read_ok ⟨by omega,by rw [f6,pD_kl];omega⟩ (by rw [f6];rfl),f6,pD_read hi4];rfl
  have f7 : ∃ n,d7 = pD i z [] n n3 n2:=⟨_,by rw [← e7,f6,pD_rd]⟩
  obtain ⟨r7,f7⟩:=f7
  have o7 : okD d7:=e7 ▸ rd_ok o6
  obtain ⟨d8,e8⟩ : ∃ d,pD i (turnL g z) [] r7 n3 n2 = d:=⟨_,rfl⟩
  have o8 : okD d8:=e8 ▸ pD_ok (tl _ hzl2) hi4 (by simp) (by simp)
  have po8 : pokeOut d7 i g = ⟨.d (.v (.bool true)),lentD 1000002 d8⟩:=by rw [f7,poke_ok ⟨⟨by omega,by rw [pD_kl];omega⟩,by omega,by omega⟩,pD_pk hi4 _ _ _ _ _ _ (by simp),← e8];rfl
  have po9 : pokeOut d8 i g = ⟨.d (.v (.bool true)),lentD 1000002 d7⟩:=by rw [← e8,f7,poke_ok ⟨⟨by omega,by rw [pD_kl];omega⟩,by omega,by omega⟩,pD_pk hi4 _ _ _ _ _ _ (by simp),hzz];rfl
  have ro7 : readOut d7 i = ⟨.tup [.sl 0 1 0 128 true,.d (.v (.int .i64 0))],(0,.row 5 1 (z.map mB)) :: lentD 1000002 (rdD d7)⟩:=by
    rw [read_ok ⟨by omega,by rw [f7,pD_kl];omega⟩ (by rw [f7];rfl),f7,pD_read hi4];rfl
  have o10 : okD (rdD d7):=rd_ok o7
  have k7 : (rdD d7).kept.length = 4:=by rw [f7];exact pD_kl ..
  obtain ⟨d10,e10⟩ : ∃ d,rdD d7 = d:=⟨_,rfl⟩
  rw [e10] at ro7 o10 k7
  have q1 : pokeOut d10 4 0 = ⟨.d (.v (.bool false)),lentD 1000002 d10⟩:=poke_no (by rw [k7];omega)
  have q2 : pokeOut d10 0 1024 = ⟨.d (.v (.bool false)),lentD 1000002 d10⟩:=poke_no (by omega)
  have q3 : pokeOut d10 (-1) 0 = ⟨.d (.v (.bool false)),lentD 1000002 d10⟩:=poke_no (by omega)
  have q4 : pokeOut d10 0 (-1) = ⟨.d (.v (.bool false)),lentD 1000002 d10⟩:=poke_no (by omega)
  have u0 : okD d0 = True:=eq_true o0
  have u1 : okD d1 = True:=eq_true o1
  have u2 : okD d2 = True:=eq_true o2
  have u3 : okD d3 = True:=eq_true o3
  have u4 : okD d4 = True:=eq_true o4
  have u5 : okD d5 = True:=eq_true o5
  have u6 : okD d6 = True:=eq_true o6
  have u7 : okD d7 = True:=eq_true o7
  have u8 : okD d8 = True:=eq_true o8
  have u10 : okD d10 = True:=eq_true o10
  have hd0 : dk0 4 = d0:=hz0.trans e0
  have tx : (x.map mB).take 128 = x.map mB:=List.take_of_length_le (by simp [hxl])
  have ty : (y.map mB).take 128 = y.map mB:=List.take_of_length_le (by simp [hyl])
  have tx' : (x'.map mB).take 128 = x'.map mB:=List.take_of_length_le (by simp [hxl'])
  have ty' : (y'.map mB).take 128 = y'.map mB:=List.take_of_length_le (by simp [hyl'])
  have tz : (z.map mB).take 128 = z.map mB:=List.take_of_length_le (by simp [hzl2])
  have ht : ((g : Int).tdiv 8) = ((g / 8 : Nat) : Int):=rfl
  have hm : ((g : Int).tmod 8) = ((g % 8 : Nat) : Int):=rfl
  have bx:=nth_B x (g / 8) (by omega)
  have by':=nth_B y (g / 8) (by omega)
  have sx : (x.map mB).set (g / 8) (.v (.int .u8 (Go.bits .xor .u8 (x.getD (g / 8) 0) ((128 : Int) / 2 ^ (g % 8))))) = x'.map mB:=by rw [← hx',turnL,List.map_set];rfl
  have sy : (y.map mB).set (g / 8) (.v (.int .u8 (Go.bits .xor .u8 (y.getD (g / 8) 0) ((128 : Int) / 2 ^ (g % 8))))) = y'.map mB:=by rw [← hy',turnL,List.map_set];rfl
  have hsh : Int.fdiv 128 (2 ^ min (IntKind.u64.wrap ((g % 8 : Nat) : Int)).toNat 8) = (128 : Int) / 2 ^ (g % 8):=by
    rw [wrap_id8 (g % 8) (by omega)]
    rcases (show g % 8 = 0 ∨ g % 8 = 1 ∨ g % 8 = 2 ∨ g % 8 = 3 ∨ g % 8 = 4 ∨ g % 8 = 5 ∨ g % 8 = 6 ∨ g % 8 = 7 by omega) with h|h|h|h|h|h|h|h <;> rw [h] <;> decide
  have sx2 : x.set (g / 8) (Go.bits .xor .u8 (x.getD (g / 8) 0) ((128 : Int) / 2 ^ (g % 8))) = x':=by rw [← hx',turnL];rfl
  have sy2 : y.set (g / 8) (Go.bits .xor .u8 (y.getD (g / 8) 0) ((128 : Int) / 2 ^ (g % 8))) = y':=by rw [← hy',turnL];rfl
  have bD1 : ∀ l : List Bool,([D.v (.bool kp)] = l.map bD) = ([kp] = l):=fun l=>by rw [show [D.v (.bool kp)] = [kp].map bD from rfl,bD_inj]
  clear hba hbb hxb hyb hxx hyy hzz f6 f7 e1 e2 e3 e4 e5 e7 e8 e10 hz0 e0 hdk tl hn2 hn3
  cases kp with
  | true =>
    obtain rfl : y' = z:=by simpa using hz
    repeat' ((first
 | refine AW.seq ?_
 | refine AW.block ?_
 | refine AW.regl Q3_ok [0,1,2,3,4,10,11,12,13,14,15,16,17,18,19,29,63,97,128] ?_
 | refine then_n ?_
 | refine then_r ?_
 | refine then_x ?_
 | refine block_x ?_
 | refine block_o (by decide) ?_
 | refine block_n ?_
 | refine block_r ?_
 | refine AW.skip ?_
 | refine AW.ret ?_
 | refine AW.exit ?_
 | refine AW.cond rfl ?_ ?_
 | refine awl_none rfl ?_
 | refine awl_nil2 ?_
 | refine awl_some rfl rfl (Nat.le_of_ble_eq_true rfl) rfl rfl ?_ ?_
 | (refine awl_skip rfl rfl (Nat.le_of_ble_eq_true rfl) rfl rfl ?_;simp only [stU])
 | (refine fun (hc : _ = _)=>?_;first|cases hc|((try rw [hc]);(try simp only [stH] at hc);(try (exfalso;omega)));(try (show Awl _ _ _ _ _;simp only [stU])))
 | ((first|refine fun (K : V → List _ → _) hK=>?_|refine fun (_ : V → V)=>?_);simp (maxSteps:=1000000) (disch:=omega) only [go_sem,Int.reduceEq,↓reduceIte,reduceCtorEq,Nat.reduceEqDiff,Nat.reduceLT,Nat.reduceLeDiff,Nat.reduceAdd,Nat.reduceSub,Nat.reduceMul,Int.reduceToNat,Int.reduceLE,Int.reduceLT,Q3,Sp_disk_New,Sp_overdubkeep_Within,Sp_overdubkeep_Cut_byte,Sp_overdublaw10_full,Sm_disk_Disk_Write,Sm_disk_Disk_Flush,Sm_disk_Disk_Poke,Sm_disk_Disk_Read,Sp_overdubkeep_Same_byte,Sm_disk_Disk_Crash,Sp_overdubkeep_Copy_byte,Sp_overdublaw10_wakes,hi,hg,ha',hb',hx,hy,hd0,hxl,hyl,hxl',hyl',hzl2,u0,u1,u2,u3,u4,u5,u6,u7,u8,u10,wo1,fo2,wo3,po4,ro4,e6,ro6,po8,po9,ro7,q1,q2,q3,q4,tx,ty,tx',ty',tz,ht,hm,bx,by',hsh,sx,sy,sx2,sy2,bD1,lentN,lentD,lent_and,mB_inj,V.d.injEq,V.ptr.injEq];(try (revert hK;intro hK;(repeat' first|(refine And.intro ?_ ?_)|(intro hc;first|cases hc|((try rw [hc]);(try simp only [stH] at hc);(try (exfalso;omega)))));all_goals first|(refine hK _ _ ?_;clear hK K;simp only [stU])|exact hK|omega)))) <;> (fail_if_success (show False;skip)))
    all_goals (refine Ends.of (nm []) (by first|exact .inl rfl|exact .inr rfl) ?_;simp (maxSteps:=1000000) (disch:=omega) only [go_sem,Int.reduceEq,↓reduceIte,reduceCtorEq,Nat.reduceEqDiff,Nat.reduceLT,Nat.reduceLeDiff,Nat.reduceAdd,Nat.reduceSub,Nat.reduceMul,Int.reduceToNat,Int.reduceLE,Int.reduceLT,Q3,Sp_disk_New,Sp_overdubkeep_Within,Sp_overdubkeep_Cut_byte,Sp_overdublaw10_full,Sm_disk_Disk_Write,Sm_disk_Disk_Flush,Sm_disk_Disk_Poke,Sm_disk_Disk_Read,Sp_overdubkeep_Same_byte,Sm_disk_Disk_Crash,Sp_overdubkeep_Copy_byte,Sp_overdublaw10_wakes])
  | false =>
    obtain rfl : x' = z:=by simpa using hz
    repeat' ((first
 | refine AW.seq ?_
 | refine AW.block ?_
 | refine AW.regl Q3_ok [0,1,2,3,4,10,11,12,13,14,15,16,17,18,19,29,63,97,128] ?_
 | refine then_n ?_
 | refine then_r ?_
 | refine then_x ?_
 | refine block_x ?_
 | refine block_o (by decide) ?_
 | refine block_n ?_
 | refine block_r ?_
 | refine AW.skip ?_
 | refine AW.ret ?_
 | refine AW.exit ?_
 | refine AW.cond rfl ?_ ?_
 | refine awl_none rfl ?_
 | refine awl_nil2 ?_
 | refine awl_some rfl rfl (Nat.le_of_ble_eq_true rfl) rfl rfl ?_ ?_
 | (refine awl_skip rfl rfl (Nat.le_of_ble_eq_true rfl) rfl rfl ?_;simp only [stU])
 | (refine fun (hc : _ = _)=>?_;first|cases hc|((try rw [hc]);(try simp only [stH] at hc);(try (exfalso;omega)));(try (show Awl _ _ _ _ _;simp only [stU])))
 | ((first|refine fun (K : V → List _ → _) hK=>?_|refine fun (_ : V → V)=>?_);simp (maxSteps:=1000000) (disch:=omega) only [go_sem,Int.reduceEq,↓reduceIte,reduceCtorEq,Nat.reduceEqDiff,Nat.reduceLT,Nat.reduceLeDiff,Nat.reduceAdd,Nat.reduceSub,Nat.reduceMul,Int.reduceToNat,Int.reduceLE,Int.reduceLT,Q3,Sp_disk_New,Sp_overdubkeep_Within,Sp_overdubkeep_Cut_byte,Sp_overdublaw10_full,Sm_disk_Disk_Write,Sm_disk_Disk_Flush,Sm_disk_Disk_Poke,Sm_disk_Disk_Read,Sp_overdubkeep_Same_byte,Sm_disk_Disk_Crash,Sp_overdubkeep_Copy_byte,Sp_overdublaw10_wakes,hi,hg,ha',hb',hx,hy,hd0,hxl,hyl,hxl',hyl',hzl2,u0,u1,u2,u3,u4,u5,u6,u7,u8,u10,wo1,fo2,wo3,po4,ro4,e6,ro6,po8,po9,ro7,q1,q2,q3,q4,tx,ty,tx',ty',tz,ht,hm,bx,by',hsh,sx,sy,sx2,sy2,bD1,lentN,lentD,lent_and,mB_inj,V.d.injEq,V.ptr.injEq];(try (revert hK;intro hK;(repeat' first|(refine And.intro ?_ ?_)|(intro hc;first|cases hc|((try rw [hc]);(try simp only [stH] at hc);(try (exfalso;omega)))));all_goals first|(refine hK _ _ ?_;clear hK K;simp only [stU])|exact hK|omega)))) <;> (fail_if_success (show False;skip)))
    all_goals (refine Ends.of (nm []) (by first|exact .inl rfl|exact .inr rfl) ?_;simp (maxSteps:=1000000) (disch:=omega) only [go_sem,Int.reduceEq,↓reduceIte,reduceCtorEq,Nat.reduceEqDiff,Nat.reduceLT,Nat.reduceLeDiff,Nat.reduceAdd,Nat.reduceSub,Nat.reduceMul,Int.reduceToNat,Int.reduceLE,Int.reduceLT,Q3,Sp_disk_New,Sp_overdubkeep_Within,Sp_overdubkeep_Cut_byte,Sp_overdublaw10_full,Sm_disk_Disk_Write,Sm_disk_Disk_Flush,Sm_disk_Disk_Poke,Sm_disk_Disk_Read,Sp_overdubkeep_Same_byte,Sm_disk_Disk_Crash,Sp_overdubkeep_Copy_byte,Sp_overdublaw10_wakes])
theorem ent_overdublaw10_DiskPokes : Ent Try.prog 6:=⟨_,Try.func6,rfl,by decide⟩
end Go.Proofs.Ytcmnblgekcjpiaa.Am
