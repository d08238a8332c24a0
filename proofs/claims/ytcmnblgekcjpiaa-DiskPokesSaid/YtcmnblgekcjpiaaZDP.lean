import Derived.Test.YtcmnblgekcjpiaaZDX
set_option linter.unusedVariables false
set_option linter.unusedSimpArgs false
set_option maxRecDepth 10000
set_option maxHeartbeats 0
namespace Go.Proofs.Ytcmnblgekcjpiaa.Am
open Go Go.RowKit Go.Proofs
def turnL (g : Int) (s : List Int) : List Int:=s.set (g.toNat / 8) (Go.bits .xor .u8 (s.getD (g.toNat / 8) 0) ((128 : Int) / 2 ^ (g.toNat % 8)))
theorem turnL_len (g : Int) (s : List Int) : (turnL g s).length = s.length:=by simp [turnL]
def turnW (i g : Int) (w : Int × List Int) : Int × List Int:=if w.1 = i then (w.1,turnL g w.2) else w
def pokeD (d : Dk) (i g : Int) : Dk:={ d with kept:=d.kept.set i.toNat (turnL g (d.kept.getD i.toNat [])),wt:=d.wt.map (turnW i g) }
def pokeOut (d : Dk) (i g : Int) : Out:=if (0 ≤ i ∧ i < d.kept.length) ∧ 0 ≤ g ∧ g < 1024 then ⟨.d (.v (.bool true)),lentD 1000002 (pokeD d i g)⟩ else ⟨.d (.v (.bool false)),lentD 1000002 d⟩
def Sm_disk_Disk_Poke (vs : List V) (lent : List (Nat × Ob)) (out : Out) : Prop:=∃ (d : Dk) (i g : Int),lent = lentD 1000002 d ∧ vs = [.ptr 1000000 0,.d (.v (.int .i64 i)),.d (.v (.int .i64 g))] ∧ okD d ∧ out = pokeOut d i g
theorem row_set (s : List Int) {q : Nat} (x : Int) (h : q < s.length) : (s.map mB).take q ++ [D.v (.int .u8 x)] ++ (s.map mB).drop (q + 1) = (s.set q x).map mB:=by
  rw [List.map_set,List.set_eq_take_append_cons_drop,if_pos (by simpa using h),List.append_assoc];rfl
theorem nth_mB (s : List Int) {q : Nat} (h : q < s.length) : (List.drop (q * 1) ((s.map mB).map V.d)).head? = some (.d (mB (s.getD q 0))):=by
  rw [Nat.mul_one,List.head?_drop,List.getElem?_map,List.getElem?_map,List.getElem?_eq_getElem h,List.getD_eq_getElem?_getD,List.getElem?_eq_getElem h];rfl
theorem nth_mW (a : V) (s : List Int) {q : Nat} (h : q < s.length) : (List.drop (1 + q * 1) (a :: (s.map mB).map V.d)).head? = some (.d (mB (s.getD q 0))):=by
  rw [show 1 + q * 1 = q + 1 by omega,List.drop_succ_cons,← Nat.mul_one q,nth_mB s h,Nat.mul_one]
theorem mid_W (a : D) (s : List Int) {q : Nat} (x : Int) (h : q < s.length) : (a :: s.map mB).take (1 + q) ++ [D.v (.int .u8 x)] ++ (a :: s.map mB).drop (1 + q + 1) = a :: (s.set q x).map mB:=by
  rw [show 1 + q = q + 1 by omega,List.take_succ_cons,List.drop_succ_cons,← row_set s x h];rfl
def tkW (i g : Int) (l : List (Int × List Int)) (k : Nat) : List (Int × List Int):=(l.take k).map (turnW i g) ++ l.drop k
theorem tkW_len (i g : Int) (l : List (Int × List Int)) (k : Nat) : (tkW i g l k).length = l.length:=by simp [tkW];omega
theorem tkW_at (i g : Int) {l : List (Int × List Int)} {k : Nat} (h : k < l.length) : (tkW i g l k).getD k (0,[]) = l.getD k (0,[]):=by
  simp [tkW,List.getD_eq_getElem?_getD,List.getElem?_append,Nat.min_eq_left (Nat.le_of_lt h)]
theorem tkW_step (i g : Int) {l : List (Int × List Int)} {k : Nat} (h : k < l.length) : tkW i g l (k + 1) = (tkW i g l k).set k (turnW i g (l.getD k (0,[]))):=by
  have hl : ((l.take k).map (turnW i g)).length = k:=by simp;omega
  unfold tkW
  rw [wt_take h,List.map_append,List.set_append_right _ _ (by omega),hl,Nat.sub_self,List.append_assoc,List.drop_eq_getElem_cons h]
  rfl
noncomputable def DP : Env:=⟨Try.prog,fun f ds out=>False,Es,fun _=>false,fun f vs lent out=>(f = 36 ∧ Sm_disk_Disk_may vs lent out),fun f=>if f = 36 then some [1000000,1000001,1000002] else none,fun f=>false,false,fun f=>none⟩
theorem DP_sp : ∀ f ds out,DP.Sp f ds out → Ent DP.P f ∧ Good DP.P f (fun a b=>a = ds ∧ b = out):=fun _ _ _ h=>h.elim
theorem DP_sm : ∀ f vs lent out,DP.Sm f vs lent out → Ent DP.P f ∧ GoodM DP.P f (fun a l b=>a = vs ∧ l = lent ∧ b = out):=by
  rintro f vs lent out ⟨rfl,h⟩
  exact ⟨ent_disk_Disk_may,goodM_disk_Disk_may.one h⟩
theorem DP_at : ∀ f k,DP.At f = some k → AtomOk DP.P f k:=fun _ _ h=>nomatch h
theorem DP_ok : DP.Ok:=⟨DP_sp,Es_ok,DP_sm,DP_at⟩
def bb_disk_Disk_Poke_3 : List Nat:=[0,1,3,7,0,0,32,31,255,511,0,1024,3072,8191,31,32767,65535]
def bb_disk_Disk_Poke_8 : List Nat:=[0,1,3,7,0,0,32,31,159,511,1023,0,2048,6144,16383,31,32799,131071,262143]
theorem goodM_disk_Disk_Poke : GoodM Try.prog 23 Sm_disk_Disk_Poke:=by
  refine goodM_body (E:=DP) (nt:=73) (rs:=#[.tmp 6]) Try.func23 rfl rfl rfl ?_
  rintro vs lent out ⟨d,i,g,rfl,rfl,hok,rfl⟩
  refine ⟨by simp,?_⟩
  obtain ⟨kept,wt,dead,stops,at_,rd,wr,fl⟩:=d
  obtain ⟨k0,k1,kl,wl,wn,a0,a1⟩:=hok
  simp only at k0 k1 kl wl wn a0 a1
  by_cases hi : 0 ≤ i ∧ i < kept.length
  case neg =>
    have hz : decide (0 ≤ i ∧ i < (kept.length : Int)) = false:=decide_eq_false hi
    have hout : pokeOut ⟨kept,wt,dead,stops,at_,rd,wr,fl⟩ i g = ⟨.d (.v (.bool false)),lentD 1000002 ⟨kept,wt,dead,stops,at_,rd,wr,fl⟩⟩:=by unfold pokeOut;rw [if_neg fun h=>hi h.1]
    repeat' first
 | refine AW.seq ?_
 | refine AW.block ?_
 | refine AW.regl DP_ok [0,1,2,6,7,19,40,41,42,53] ?_
 | (refine AW.regq (id:=3) DP_ok follows bb_disk_Disk_Poke_3 (by kernel_rfl) [0,1,2,6,7,19,40,41,42,53] ?_)
 | (refine AW.regq (id:=8) DP_ok follows bb_disk_Disk_Poke_8 (by kernel_rfl) [0,1,2,6,7,19,40,41,42,53] ?_)
 | refine then_n ?_
 | refine then_r ?_
 | refine then_x ?_
 | refine block_x ?_
 | refine block_o (by decide) ?_
 | refine block_n ?_
 | refine block_r ?_
 | refine AW.skip ?_
 | refine AW.ret ?_
 | refine AW.exit ?_
 | refine AW.cond rfl ?_ ?_
 | refine awl_none rfl ?_
 | refine awl_nil2 ?_
 | refine awl_some rfl rfl (Nat.le_of_ble_eq_true rfl) rfl rfl ?_ ?_
 | refine awc_none rfl ?_
 | refine awc_nilq (by kernel_rfl) (by kernel_rfl) ?_
 | (refine fun (hc : _ = _)=>?_;first|cases hc|((try rw [hc]);(try simp only [stH] at hc);(try (exfalso;omega)));(try ((first|show Awl _ _ _ _ _|show Awc _ _ _ _ _ _);simp only [stU])))
 | ((first|refine fun (K : V → List _ → _) hK=>?_|refine fun (_ : V → V)=>?_);simp (maxSteps:=1000000) (disch:=omega) only [go_sem,Int.reduceEq,↓reduceIte,reduceCtorEq,Nat.reduceEqDiff,Nat.reduceLT,Nat.reduceLeDiff,Nat.reduceAdd,Nat.reduceSub,Nat.reduceMul,Int.reduceToNat,Int.reduceLE,Int.reduceLT,DP,Sm_disk_Disk_may,lentD,boxO,keptO,waitO,rawD,rawB,V.d.injEq,V.sl.injEq,V.ptr.injEq,Ob.box.injEq,Ob.row.injEq,hz,Sg3,St.updIf,ifc_nil,gt_ifc,go_ifc,ite_self,Option.none_or,Option.some_or];(try (revert hK;intro hK;(repeat' first|(refine And.intro ?_ ?_)|(intro hc;first|cases hc|((try rw [hc]);(try simp only [stH] at hc);(try (exfalso;omega)))));all_goals first|(refine hK _ _ ?_;clear hK K;simp only [stU])|exact hK|omega)))
    all_goals (refine Ends.of (nm [(1000000,1000000),(1000001,1000001),(1000002,1000002)]) (by first|exact .inl rfl|exact .inr rfl) ?_;simp (maxSteps:=1000000) (disch:=omega) only [go_sem,Int.reduceEq,↓reduceIte,reduceCtorEq,Nat.reduceEqDiff,Nat.reduceLT,Nat.reduceLeDiff,Nat.reduceAdd,Nat.reduceSub,Nat.reduceMul,Int.reduceToNat,Int.reduceLE,Int.reduceLT,DP,Sm_disk_Disk_may,hout,lentD,boxO,keptO,waitO,rawD,rawB])
  have hz : decide (0 ≤ i ∧ i < (kept.length : Int)) = true:=decide_eq_true hi
  by_cases hg : 0 ≤ g ∧ g < 1024
  case neg =>
    have hout : pokeOut ⟨kept,wt,dead,stops,at_,rd,wr,fl⟩ i g = ⟨.d (.v (.bool false)),lentD 1000002 ⟨kept,wt,dead,stops,at_,rd,wr,fl⟩⟩:=by unfold pokeOut;rw [if_neg fun h=>hg h.2]
    by_cases h0 : g < 0
    · repeat' first
 | refine AW.seq ?_
 | refine AW.block ?_
 | refine AW.regl DP_ok [0,1,2,6,7,19,40,41,42,53] ?_
 | (refine AW.regq (id:=3) DP_ok follows bb_disk_Disk_Poke_3 (by kernel_rfl) [0,1,2,6,7,19,40,41,42,53] ?_)
 | (refine AW.regq (id:=8) DP_ok follows bb_disk_Disk_Poke_8 (by kernel_rfl) [0,1,2,6,7,19,40,41,42,53] ?_)
 | refine then_n ?_
 | refine then_r ?_
 | refine then_x ?_
 | refine block_x ?_
 | refine block_o (by decide) ?_
 | refine block_n ?_
 | refine block_r ?_
 | refine AW.skip ?_
 | refine AW.ret ?_
 | refine AW.exit ?_
 | refine AW.cond rfl ?_ ?_
 | refine awl_none rfl ?_
 | refine awl_nil2 ?_
 | refine awl_some rfl rfl (Nat.le_of_ble_eq_true rfl) rfl rfl ?_ ?_
 | refine awc_none rfl ?_
 | refine awc_nilq (by kernel_rfl) (by kernel_rfl) ?_
 | (refine fun (hc : _ = _)=>?_;first|cases hc|((try rw [hc]);(try simp only [stH] at hc);(try (exfalso;omega)));(try ((first|show Awl _ _ _ _ _|show Awc _ _ _ _ _ _);simp only [stU])))
 | ((first|refine fun (K : V → List _ → _) hK=>?_|refine fun (_ : V → V)=>?_);simp (maxSteps:=1000000) (disch:=omega) only [go_sem,Int.reduceEq,↓reduceIte,reduceCtorEq,Nat.reduceEqDiff,Nat.reduceLT,Nat.reduceLeDiff,Nat.reduceAdd,Nat.reduceSub,Nat.reduceMul,Int.reduceToNat,Int.reduceLE,Int.reduceLT,DP,Sm_disk_Disk_may,lentD,boxO,keptO,waitO,rawD,rawB,V.d.injEq,V.sl.injEq,V.ptr.injEq,Ob.box.injEq,Ob.row.injEq,hz,h0,Sg3,St.updIf,ifc_nil,gt_ifc,go_ifc,ite_self,Option.none_or,Option.some_or];(try (revert hK;intro hK;(repeat' first|(refine And.intro ?_ ?_)|(intro hc;first|cases hc|((try rw [hc]);(try simp only [stH] at hc);(try (exfalso;omega)))));all_goals first|(refine hK _ _ ?_;clear hK K;simp only [stU])|exact hK|omega)))
      all_goals (refine Ends.of (nm [(1000000,1000000),(1000001,1000001),(1000002,1000002)]) (by first|exact .inl rfl|exact .inr rfl) ?_;simp (maxSteps:=1000000) (disch:=omega) only [go_sem,Int.reduceEq,↓reduceIte,reduceCtorEq,Nat.reduceEqDiff,Nat.reduceLT,Nat.reduceLeDiff,Nat.reduceAdd,Nat.reduceSub,Nat.reduceMul,Int.reduceToNat,Int.reduceLE,Int.reduceLT,DP,Sm_disk_Disk_may,hout,lentD,boxO,keptO,waitO,rawD,rawB])
    · repeat' first
 | refine AW.seq ?_
 | refine AW.block ?_
 | refine AW.regl DP_ok [0,1,2,6,7,19,40,41,42,53] ?_
 | (refine AW.regq (id:=3) DP_ok follows bb_disk_Disk_Poke_3 (by kernel_rfl) [0,1,2,6,7,19,40,41,42,53] ?_)
 | (refine AW.regq (id:=8) DP_ok follows bb_disk_Disk_Poke_8 (by kernel_rfl) [0,1,2,6,7,19,40,41,42,53] ?_)
 | refine then_n ?_
 | refine then_r ?_
 | refine then_x ?_
 | refine block_x ?_
 | refine block_o (by decide) ?_
 | refine block_n ?_
 | refine block_r ?_
 | refine AW.skip ?_
 | refine AW.ret ?_
 | refine AW.exit ?_
 | refine AW.cond rfl ?_ ?_
 | refine awl_none rfl ?_
 | refine awl_nil2 ?_
 | refine awl_some rfl rfl (Nat.le_of_ble_eq_true rfl) rfl rfl ?_ ?_
 | refine awc_none rfl ?_
 | refine awc_nilq (by kernel_rfl) (by kernel_rfl) ?_
 | (refine fun (hc : _ = _)=>?_;first|cases hc|((try rw [hc]);(try simp only [stH] at hc);(try (exfalso;omega)));(try ((first|show Awl _ _ _ _ _|show Awc _ _ _ _ _ _);simp only [stU])))
 | ((first|refine fun (K : V → List _ → _) hK=>?_|refine fun (_ : V → V)=>?_);simp (maxSteps:=1000000) (disch:=omega) only [go_sem,Int.reduceEq,↓reduceIte,reduceCtorEq,Nat.reduceEqDiff,Nat.reduceLT,Nat.reduceLeDiff,Nat.reduceAdd,Nat.reduceSub,Nat.reduceMul,Int.reduceToNat,Int.reduceLE,Int.reduceLT,DP,Sm_disk_Disk_may,lentD,boxO,keptO,waitO,rawD,rawB,V.d.injEq,V.sl.injEq,V.ptr.injEq,Ob.box.injEq,Ob.row.injEq,hz,h0,Sg3,St.updIf,ifc_nil,gt_ifc,go_ifc,ite_self,Option.none_or,Option.some_or];(try (revert hK;intro hK;(repeat' first|(refine And.intro ?_ ?_)|(intro hc;first|cases hc|((try rw [hc]);(try simp only [stH] at hc);(try (exfalso;omega)))));all_goals first|(refine hK _ _ ?_;clear hK K;simp only [stU])|exact hK|omega)))
      all_goals (refine Ends.of (nm [(1000000,1000000),(1000001,1000001),(1000002,1000002)]) (by first|exact .inl rfl|exact .inr rfl) ?_;simp (maxSteps:=1000000) (disch:=omega) only [go_sem,Int.reduceEq,↓reduceIte,reduceCtorEq,Nat.reduceEqDiff,Nat.reduceLT,Nat.reduceLeDiff,Nat.reduceAdd,Nat.reduceSub,Nat.reduceMul,Int.reduceToNat,Int.reduceLE,Int.reduceLT,DP,Sm_disk_Disk_may,hout,lentD,boxO,keptO,waitO,rawD,rawB])
  obtain ⟨q,rfl⟩ : ∃ q : Nat,i = q:=⟨i.toNat,by omega⟩
  obtain ⟨p,rfl⟩ : ∃ p : Nat,g = p:=⟨g.toNat,by omega⟩
  have hout : pokeOut ⟨kept,wt,dead,stops,at_,rd,wr,fl⟩ q p = ⟨.d (.v (.bool true)),lentD 1000002 (pokeD ⟨kept,wt,dead,stops,at_,rd,wr,fl⟩ q p)⟩:=by unfold pokeOut;rw [if_pos ⟨hi,hg⟩]
  have h0 : ¬ ((p : Int) < 0):=by omega
  have h1 : ¬ ((p : Int) ≥ 1024):=by omega
  have hq : q < kept.length:=by omega
  have e0:=nth_S kept q hq
  have hol : (kept.getD q []).length = 128:=kl _ (by rw [List.getD_eq_getElem?_getD,List.getElem?_eq_getElem hq];exact List.getElem_mem hq)
  obtain ⟨old,hold⟩ : ∃ old,kept.getD q [] = old:=⟨_,rfl⟩
  rw [hold] at e0 hol
  have hp : p / 8 < 128:=by omega
  have e2:=nth_mB old (q:=p / 8) (by omega)
  have ht : ((p : Int).tdiv 8) = ((p / 8 : Nat) : Int):=rfl
  have hm : ((p : Int).tmod 8) = ((p % 8 : Nat) : Int):=rfl
  repeat' first
 | refine AW.seq ?_
 | refine AW.block ?_
 | refine AW.regl DP_ok [0,1,2,6,7,19,40,41,42,53] ?_
 | (refine AW.regq (id:=3) DP_ok follows bb_disk_Disk_Poke_3 (by kernel_rfl) [0,1,2,6,7,19,40,41,42,53] ?_)
 | (refine AW.regq (id:=8) DP_ok follows bb_disk_Disk_Poke_8 (by kernel_rfl) [0,1,2,6,7,19,40,41,42,53] ?_)
 | refine then_n ?_
 | refine then_r ?_
 | refine then_x ?_
 | refine block_x ?_
 | refine block_o (by decide) ?_
 | refine block_n ?_
 | refine block_r ?_
 | refine AW.skip ?_
 | refine AW.ret ?_
 | refine AW.exit ?_
 | refine AW.cond rfl ?_ ?_
 | refine awl_none rfl ?_
 | refine awl_nil2 ?_
 | refine awl_some rfl rfl (Nat.le_of_ble_eq_true rfl) rfl rfl ?_ ?_
 | refine awc_none rfl ?_
 | refine awc_nilq (by kernel_rfl) (by kernel_rfl) ?_
 | (refine fun (hc : _ = _)=>?_;first|cases hc|((try rw [hc]);(try simp only [stH] at hc);(try (exfalso;omega)));(try ((first|show Awl _ _ _ _ _|show Awc _ _ _ _ _ _);simp only [stU])))
 | ((first|refine fun (K : V → List _ → _) hK=>?_|refine fun (_ : V → V)=>?_);simp (maxSteps:=1000000) (disch:=omega) only [go_sem,Int.reduceEq,↓reduceIte,reduceCtorEq,Nat.reduceEqDiff,Nat.reduceLT,Nat.reduceLeDiff,Nat.reduceAdd,Nat.reduceSub,Nat.reduceMul,Int.reduceToNat,Int.reduceLE,Int.reduceLT,DP,Sm_disk_Disk_may,lentD,boxO,keptO,waitO,rawD,rawB,V.d.injEq,V.sl.injEq,V.ptr.injEq,Ob.box.injEq,Ob.row.injEq,hz,h0,h1,e0,e2,hol,ht,hm,Sg3,St.updIf,ifc_nil,gt_ifc,go_ifc,ite_self,Option.none_or,Option.some_or];(try (revert hK;intro hK;(repeat' first|(refine And.intro ?_ ?_)|(intro hc;first|cases hc|((try rw [hc]);(try simp only [stH] at hc);(try (exfalso;omega)))));all_goals first|(refine hK _ _ ?_;clear hK K;simp only [stU])|exact hK|omega)))
  refine AW.loop_wk (fun k : Nat=>⟨[(0,.ptr 1000000 0),(1,.d (.v (.int .i64 q))),(2,.d (.v (.int .i64 p))),(40,.d (.v (.int .i64 wt.length))),(41,.d (.v (.int .i64 k)))],[(1000000,.box [.sl 1000001 128 0 kept.length true,.sl 1000002 129 0 wt.length true,.d (.v (.bool dead)),.d (.v (.bool stops)),.d (.v (.int .i64 at_)),.d (.v (.int .i64 rd)),.d (.v (.int .i64 wr)),.d (.v (.int .i64 fl))]),(1000001,.row 73 128 ((kept.set q (turnL p old)).map sD)),(1000002,.row 75 129 ((tkW q p wt k).map wD))],73⟩)
    (fun k=>k ≤ wt.length) (fun k=>wt.length - k) 0 (Nat.zero_le _) (fun w0 oa a w hs=>Wk.sr (ρ:=nm []) (Wk.of ?_) hs) ?_
  · have h3 : tkW q p wt 0 = wt:=rfl
    have h4:=row_set old (Go.bits .xor .u8 (old.getD (p / 8) 0) ((128 : Int) / 2 ^ (p % 8))) (q:=p / 8) (by omega)
    have h5 : ((kept.set q (turnL p old)).map sD) = (kept.map sD).set q (.agg ((turnL p old).map mB)):=by simp [List.map_set,sD]
    have h6 : turnL p old = old.set (p / 8) (Go.bits .xor .u8 (old.getD (p / 8) 0) ((128 : Int) / 2 ^ (p % 8))):=rfl
    rw [h5,h6,← h4]
    simp (maxSteps:=1000000) (disch:=omega) only [go_sem,Int.reduceEq,↓reduceIte,reduceCtorEq,Nat.reduceEqDiff,Nat.reduceLT,Nat.reduceLeDiff,Nat.reduceAdd,Nat.reduceSub,Nat.reduceMul,Int.reduceToNat,Int.reduceLE,Int.reduceLT,DP,Sm_disk_Disk_may,h3,Nat.mul_one]
  intro k hk
  have hTl:=tkW_len q p wt k
  by_cases hk1 : k < wt.length
  · have e1:=nth_W (tkW q p wt k) k (by omega)
    rw [tkW_at _ _ hk1] at e1
    have hwk:=wl _ (show wt.getD k (0,[]) ∈ wt by rw [List.getD_eq_getElem?_getD,List.getElem?_eq_getElem hk1];exact List.getElem_mem hk1)
    have hsn:=tkW_step q p hk1
    obtain ⟨⟨wi,ws⟩,hw⟩ : ∃ w,wt.getD k (0,[]) = w:=⟨_,rfl⟩
    rw [hw] at e1 hwk hsn
    simp only at e1 hwk
    obtain ⟨T,hT⟩ : ∃ T,tkW q p wt k = T:=⟨_,rfl⟩
    rw [hT] at e1 hTl hsn
    by_cases hiq : wi = q
    · subst hiq
      have e2:=nth_mW (.d (.v (.int .i64 q))) ws (q:=p / 8) (by omega)
      repeat' ((first
 | refine AW.seq ?_
 | refine AW.block ?_
 | refine AW.regl DP_ok [0,1,2,6,7,19,40,41,42,53] ?_
 | (refine AW.regq (id:=3) DP_ok follows bb_disk_Disk_Poke_3 (by kernel_rfl) [0,1,2,6,7,19,40,41,42,53] ?_)
 | (refine AW.regq (id:=8) DP_ok follows bb_disk_Disk_Poke_8 (by kernel_rfl) [0,1,2,6,7,19,40,41,42,53] ?_)
 | refine then_n ?_
 | refine then_r ?_
 | refine then_x ?_
 | refine block_x ?_
 | refine block_o (by decide) ?_
 | refine block_n ?_
 | refine block_r ?_
 | refine AW.skip ?_
 | refine AW.ret ?_
 | refine AW.exit ?_
 | refine AW.cond rfl ?_ ?_
 | refine awl_none rfl ?_
 | refine awl_nil2 ?_
 | refine awl_some rfl rfl (Nat.le_of_ble_eq_true rfl) rfl rfl ?_ ?_
 | refine awc_none rfl ?_
 | refine awc_nilq (by kernel_rfl) (by kernel_rfl) ?_
 | (refine fun (hc : _ = _)=>?_;first|cases hc|((try rw [hc]);(try simp only [stH] at hc);(try (exfalso;omega)));(try ((first|show Awl _ _ _ _ _|show Awc _ _ _ _ _ _);simp only [stU])))
 | ((first|refine fun (K : V → List _ → _) hK=>?_|refine fun (_ : V → V)=>?_);simp (maxSteps:=1000000) (disch:=omega) only [go_sem,Int.reduceEq,↓reduceIte,reduceCtorEq,Nat.reduceEqDiff,Nat.reduceLT,Nat.reduceLeDiff,Nat.reduceAdd,Nat.reduceSub,Nat.reduceMul,Int.reduceToNat,Int.reduceLE,Int.reduceLT,DP,Sm_disk_Disk_may,hT,e1,e2,hTl,ht,hm,hwk,Sg3,St.updIf,ifc_nil,gt_ifc,go_ifc,ite_self,Option.none_or,Option.some_or];(try (revert hK;intro hK;(repeat' first|(refine And.intro ?_ ?_)|(intro hc;first|cases hc|((try rw [hc]);(try simp only [stH] at hc);(try (exfalso;omega)))));all_goals first|(refine hK _ _ ?_;clear hK K;simp only [stU])|exact hK|omega)))) <;> (fail_if_success (show False;skip)))
      refine ⟨k + 1,by omega,by omega,nm [],Wk.of ?_⟩
      have h5 : ((tkW q p wt (k + 1)).map wD) = (T.map wD).set k (.agg (.v (.int .i64 q) :: (turnL p ws).map mB)):=by rw [hsn,turnW,if_pos rfl];simp [List.map_set,wD]
      have h6 : turnL p ws = ws.set (p / 8) (Go.bits .xor .u8 (ws.getD (p / 8) 0) ((128 : Int) / 2 ^ (p % 8))):=rfl
      have h4:=mid_W (.v (.int .i64 q)) ws (Go.bits .xor .u8 (ws.getD (p / 8) 0) ((128 : Int) / 2 ^ (p % 8))) (q:=p / 8) (by omega)
      rw [h5,h6,← h4]
      simp (maxSteps:=1000000) (disch:=omega) only [go_sem,Int.reduceEq,↓reduceIte,reduceCtorEq,Nat.reduceEqDiff,Nat.reduceLT,Nat.reduceLeDiff,Nat.reduceAdd,Nat.reduceSub,Nat.reduceMul,Int.reduceToNat,Int.reduceLE,Int.reduceLT,DP,Sm_disk_Disk_may,Nat.mul_one]
      rfl
    · repeat' ((first
 | refine AW.seq ?_
 | refine AW.block ?_
 | refine AW.regl DP_ok [0,1,2,6,7,19,40,41,42,53] ?_
 | (refine AW.regq (id:=3) DP_ok follows bb_disk_Disk_Poke_3 (by kernel_rfl) [0,1,2,6,7,19,40,41,42,53] ?_)
 | (refine AW.regq (id:=8) DP_ok follows bb_disk_Disk_Poke_8 (by kernel_rfl) [0,1,2,6,7,19,40,41,42,53] ?_)
 | refine then_n ?_
 | refine then_r ?_
 | refine then_x ?_
 | refine block_x ?_
 | refine block_o (by decide) ?_
 | refine block_n ?_
 | refine block_r ?_
 | refine AW.skip ?_
 | refine AW.ret ?_
 | refine AW.exit ?_
 | refine AW.cond rfl ?_ ?_
 | refine awl_none rfl ?_
 | refine awl_nil2 ?_
 | refine awl_some rfl rfl (Nat.le_of_ble_eq_true rfl) rfl rfl ?_ ?_
 | refine awc_none rfl ?_
 | refine awc_nilq (by kernel_rfl) (by kernel_rfl) ?_
 | (refine fun (hc : _ = _)=>?_;first|cases hc|((try rw [hc]);(try simp only [stH] at hc);(try (exfalso;omega)));(try ((first|show Awl _ _ _ _ _|show Awc _ _ _ _ _ _);simp only [stU])))
 | ((first|refine fun (K : V → List _ → _) hK=>?_|refine fun (_ : V → V)=>?_);simp (maxSteps:=1000000) (disch:=omega) only [go_sem,Int.reduceEq,↓reduceIte,reduceCtorEq,Nat.reduceEqDiff,Nat.reduceLT,Nat.reduceLeDiff,Nat.reduceAdd,Nat.reduceSub,Nat.reduceMul,Int.reduceToNat,Int.reduceLE,Int.reduceLT,DP,Sm_disk_Disk_may,hT,e1,hiq,hTl,ht,hm,Sg3,St.updIf,ifc_nil,gt_ifc,go_ifc,ite_self,Option.none_or,Option.some_or];(try (revert hK;intro hK;(repeat' first|(refine And.intro ?_ ?_)|(intro hc;first|cases hc|((try rw [hc]);(try simp only [stH] at hc);(try (exfalso;omega)))));all_goals first|(refine hK _ _ ?_;clear hK K;simp only [stU])|exact hK|omega)))) <;> (fail_if_success (show False;skip)))
      refine ⟨k + 1,by omega,by omega,nm [],Wk.of ?_⟩
      have h5 : tkW q p wt (k + 1) = T:=by
        rw [hsn,turnW,if_neg hiq,← hw,← hT,← tkW_at q p hk1]
        rw [List.getD_eq_getElem?_getD,List.getElem?_eq_getElem (by rw [tkW_len];exact hk1)]
        exact List.set_getElem_self _
      simp (maxSteps:=1000000) (disch:=omega) only [go_sem,Int.reduceEq,↓reduceIte,reduceCtorEq,Nat.reduceEqDiff,Nat.reduceLT,Nat.reduceLeDiff,Nat.reduceAdd,Nat.reduceSub,Nat.reduceMul,Int.reduceToNat,Int.reduceLE,Int.reduceLT,DP,Sm_disk_Disk_may,h5]
      rfl
  · obtain rfl : k = wt.length:=by omega
    repeat' ((first
 | refine AW.seq ?_
 | refine AW.block ?_
 | refine AW.regl DP_ok [0,1,2,6,7,19,40,41,42,53] ?_
 | (refine AW.regq (id:=3) DP_ok follows bb_disk_Disk_Poke_3 (by kernel_rfl) [0,1,2,6,7,19,40,41,42,53] ?_)
 | (refine AW.regq (id:=8) DP_ok follows bb_disk_Disk_Poke_8 (by kernel_rfl) [0,1,2,6,7,19,40,41,42,53] ?_)
 | refine then_n ?_
 | refine then_r ?_
 | refine then_x ?_
 | refine block_x ?_
 | refine block_o (by decide) ?_
 | refine block_n ?_
 | refine block_r ?_
 | refine AW.skip ?_
 | refine AW.ret ?_
 | refine AW.exit ?_
 | refine AW.cond rfl ?_ ?_
 | refine awl_none rfl ?_
 | refine awl_nil2 ?_
 | refine awl_some rfl rfl (Nat.le_of_ble_eq_true rfl) rfl rfl ?_ ?_
 | refine awc_none rfl ?_
 | refine awc_nilq (by kernel_rfl) (by kernel_rfl) ?_
 | (refine fun (hc : _ = _)=>?_;first|cases hc|((try rw [hc]);(try simp only [stH] at hc);(try (exfalso;omega)));(try ((first|show Awl _ _ _ _ _|show Awc _ _ _ _ _ _);simp only [stU])))
 | ((first|refine fun (K : V → List _ → _) hK=>?_|refine fun (_ : V → V)=>?_);simp (maxSteps:=1000000) (disch:=omega) only [go_sem,Int.reduceEq,↓reduceIte,reduceCtorEq,Nat.reduceEqDiff,Nat.reduceLT,Nat.reduceLeDiff,Nat.reduceAdd,Nat.reduceSub,Nat.reduceMul,Int.reduceToNat,Int.reduceLE,Int.reduceLT,DP,Sm_disk_Disk_may,List.take_length,Sg3,St.updIf,ifc_nil,gt_ifc,go_ifc,ite_self,Option.none_or,Option.some_or];(try (revert hK;intro hK;(repeat' first|(refine And.intro ?_ ?_)|(intro hc;first|cases hc|((try rw [hc]);(try simp only [stH] at hc);(try (exfalso;omega)))));all_goals first|(refine hK _ _ ?_;clear hK K;simp only [stU])|exact hK|omega)))) <;> (fail_if_success (show False;skip)))
    have h5 : tkW q p wt wt.length = wt.map (turnW q p):=by simp [tkW]
    have h6 : pokeD ⟨kept,wt,dead,stops,at_,rd,wr,fl⟩ q p = ⟨kept.set q (turnL p old),wt.map (turnW q p),dead,stops,at_,rd,wr,fl⟩:=by rw [← hold];rfl
    rw [h5]
    all_goals (refine Ends.of (nm [(1000000,1000000),(1000001,1000001),(1000002,1000002)]) (by first|exact .inl rfl|exact .inr rfl) ?_;simp (maxSteps:=1000000) (disch:=omega) only [go_sem,Int.reduceEq,↓reduceIte,reduceCtorEq,Nat.reduceEqDiff,Nat.reduceLT,Nat.reduceLeDiff,Nat.reduceAdd,Nat.reduceSub,Nat.reduceMul,Int.reduceToNat,Int.reduceLE,Int.reduceLT,DP,Sm_disk_Disk_may,hout,h6,List.length_set,List.length_map,lentD,boxO,keptO,waitO,rawD,rawB])
theorem ent_disk_Disk_Poke : Ent Try.prog 23:=⟨_,Try.func23,rfl,by decide⟩
end Go.Proofs.Ytcmnblgekcjpiaa.Am
