import Derived.Test.YtleahjfgedfgmaaZT11
set_option linter.unusedVariables false
set_option linter.unusedSimpArgs false
set_option maxRecDepth 10000
set_option maxHeartbeats 0
namespace Go.Proofs.Ytleahjfgedfgmaa.Am
open Go Go.RowKit Go.Proofs
theorem findX_mem {a : Int} {x : Xt} : ∀ {l : List Xt} {s e : Int},cg s l e → x ∈ l → x.f0 ≤ a → a < x.f0 + x.f4 → ∃ k,findX a l = some k ∧ l.getD k x0 = x
  | [],s,e,_,hx,_,_=>by cases hx
  | y :: r,s,e,h,hx,h1,h2=>by
    obtain ⟨c0,c1,c2⟩:=h
    rcases List.mem_cons.1 hx with rfl|hx
    · exact ⟨0,by simp only [findX];rw [if_pos ⟨h1,h2⟩],rfl⟩
    · have hm:=(cg_mem c2 x hx).2.1
      obtain ⟨k,hk,hg⟩:=findX_mem c2 hx h1 h2
      exact ⟨k + 1,by simp only [findX];rw [if_neg (by omega),hk];rfl,hg⟩
theorem cutX_mem {a b : Int} {y : Xt} {l : List Xt} (h : y ∈ cutX a b l) : ∃ x ∈ l,y = ⟨max x.f0 a,x.f1,x.f2,x.f3 + max x.f0 a - x.f0,min (x.f0 + x.f4) b - max x.f0 a⟩ ∧ max x.f0 a < min (x.f0 + x.f4) b:=by
  obtain ⟨x,hx,hy⟩:=List.mem_flatMap.1 h
  unfold pcX at hy
  split at hy
  · rename_i hc
    exact ⟨x,hx,List.mem_singleton.1 hy,hc⟩
  · cases hy
theorem cg_pos : ∀ {l : List Xt} {s e : Int} {k : Nat},cg s l e → k < l.length → (l.getD k x0).f0 = s + endX (l.take k)
  | [],s,e,k,_,hk=>by simp at hk
  | y :: r,s,e,0,h,_=>by simp only [List.getD_cons_zero,List.take_zero,endX];have:=h.1;omega
  | y :: r,s,e,k + 1,h,hk=>by
    have:=cg_pos (k:=k) h.2.2 (by simpa using hk)
    simp only [List.getD_cons_succ,List.take_succ_cons,endX]
    omega
theorem cutX_all : ∀ {l : List Xt} {s e a b : Int},cg s l e → a ≤ s → e ≤ b → cutX a b l = l
  | [],_,_,_,_,_,_,_=>rfl
  | y :: r,s,e,a,b,h,h1,h2=>by
    obtain ⟨c0,c1,c2⟩:=h
    have ho:=(oneE_iff y).1 c1
    have hle:=(cg_le c2).1
    have hc : cutX a b (y :: r) = pcX a b y ++ cutX a b r:=by simp [cutX]
    rw [hc,cutX_all c2 (by omega) h2]
    unfold pcX
    obtain ⟨q0,q1,q2,q3,q4⟩:=y
    simp only at c0 ho hle ⊢
    rw [if_pos (by omega),show max q0 a = q0 by omega,show min (q0 + q4) b = q0 + q4 by omega,show q3 + q0 - q0 = q3 by omega,show q0 + q4 - q0 = q4 by omega]
    rfl
theorem from_00 {l : List Xt} (hv : vRow 0 l = true) {l1 : List Xt} {f1 : List Int} {p1 : List Nd} (hm : madeN l = .mk l1 f1 p1) : fromOut l = ⟨.tup [.d (.ref (.agg [.list (l.map eD),.list (l1.map eD),.list (f1.map mI),.list (p1.map nD)])),.d (.v (.int .i64 0))],[]⟩:=by
  unfold fromOut;rw [if_pos hv,hm];rfl
noncomputable def TC : Env:=⟨Try.prog,fun f ds out=>(f = 13 ∧ Sp_overdublaw16_Row ds out) ∨ (f = 16 ∧ Sp_tree_From ds out) ∨ (f = 14 ∧ Sp_overdubkeep_Within ds out) ∨ (f = 23 ∧ Sp_tree_Tree_End ds out) ∨ (f = 24 ∧ Sp_tree_Tree_Cut ds out) ∨ (f = 25 ∧ Sp_tree_Tree_Find ds out) ∨ (f = 26 ∧ Sp_overdubkeep_Same_api_Extent ds out) ∨ (f = 18 ∧ Sp_overdublaw19_wakes ds out),Es,fun _=>false,fun f vs lent out=>False,fun f=>none,fun f=>false,false,fun f=>none⟩
theorem TC_sp : ∀ f ds out,TC.Sp f ds out → Ent TC.P f ∧ Good TC.P f (fun a b=>a = ds ∧ b = out):=by
  rintro f ds out (⟨rfl,h⟩|⟨rfl,h⟩|⟨rfl,h⟩|⟨rfl,h⟩|⟨rfl,h⟩|⟨rfl,h⟩|⟨rfl,h⟩|⟨rfl,h⟩)
  · exact ⟨ent_overdublaw16_Row,good_overdublaw16_Row.one h⟩
  · exact ⟨ent_tree_From,good_tree_From.one h⟩
  · exact ⟨ent_overdubkeep_Within,good_overdubkeep_Within.one h⟩
  · exact ⟨ent_tree_Tree_End,good_tree_Tree_End.one h⟩
  · exact ⟨ent_tree_Tree_Cut,good_tree_Tree_Cut.one h⟩
  · exact ⟨ent_tree_Tree_Find,good_tree_Tree_Find.one h⟩
  · exact ⟨ent_overdubkeep_Same_api_Extent,good_overdubkeep_Same_api_Extent.one h⟩
  · exact ⟨ent_overdublaw19_wakes,good_overdublaw19_wakes.one h⟩
theorem TC_sm : ∀ f vs lent out,TC.Sm f vs lent out → Ent TC.P f ∧ GoodM TC.P f (fun a l b=>a = vs ∧ l = lent ∧ b = out):=fun _ _ _ _ h=>h.elim
theorem TC_at : ∀ f k,TC.At f = some k → AtomOk TC.P f k:=fun _ _ h=>nomatch h
theorem TC_ok : TC.Ok:=⟨TC_sp,Es_ok,TC_sm,TC_at⟩
def Sp_overdublaw19_TreeCuts (ds : List D) (out : Out) : Prop:=∃ (l : List Xt) (a b : Int),ds = [.list (l.map eD),.v (.int .i64 a),.v (.int .i64 b)] ∧ l.length ≤ 9223372036854775807 ∧ (∀ e ∈ l,numE e) ∧ out = ⟨.d (.v (.bool true)),[]⟩
def bb_overdublaw19_TreeCuts_14 : List Nat:=[0,1,3,7,7,31,63,127,7,511,1023,2047,4095,4095,16383,32767,65535,131071,262143,524287,1048575,2097151,1048575,1048575,13631487,30408703,63963135,134217727,268435455,536870911,1073741823,2147483647,1073741823,1073741823,13958643711,31138512895,65498251263,137438953471,274877906943,549755813887,1099511627775,2199023255551,1099511627775,1099511627775,14293651161087,31885837205503,67070209294335,140737488355327,1099511627775,282574488338431,1125899906842623,1099511627775,1099511627775,6756498952683519,15763698207424511,33778096716906495,72057594037927935,144115188075855871,288230376151711743,576460752303423487,576460752303423487,2305843009213693951,4611686018427387903,9223372036854775807,576460752303423487,576460752303423487,55916692973432078335,129703669268270284799,277277621857946697727,590295810358705651711,576460752303423487,1181168081469714726911,576460752303423487,4722942943621948637183,17709450771513472974847,37778931862957161709567,75557863725914323419135]
theorem good_overdublaw19_TreeCuts : Good Try.prog 5 Sp_overdublaw19_TreeCuts:=by
  refine good_body (E:=TC) (nt:=193) (rs:=#[.tmp 6]) Try.func5 rfl rfl rfl ?_
  rintro ds out ⟨l,a0,b0,rfl,hl,hn,rfl⟩
  refine ⟨by simp,?_⟩
  have hnt : (∀ e ∈ l,numE e) = True:=eq_true hn
  have hv:=(rowG_ok 20 0 l (by omega) (by omega)).1
  obtain ⟨row,hrow⟩ : ∃ r,rowG 20 0 l = r:=⟨_,rfl⟩
  rw [hrow] at hv
  have t1 : (row.map eD).take row.length = row.map eD:=List.take_of_length_le (by simp)
  refine AW.w2 ⟨[(1,.d (.v (.int .i64 a0))),(2,.d (.v (.int .i64 b0))),(7,.d (.list (row.map eD)))],[],193⟩ ?_ ?_
  · repeat' ((first
 | refine AW.seq ?_
 | refine AW.block ?_
 | refine AW.regl TC_ok [0,1,2,6,7,8,9,10,11,12,13,14,15,17,19,32,53,54,55,143] ?_
 | (refine AW.regq (id:=14) TC_ok follows bb_overdublaw19_TreeCuts_14 (by kernel_rfl) [0,1,2,6,7,8,9,10,11,12,13,14,15,17,19,32,53,54,55,143] ?_)
 | refine then_n ?_
 | refine then_r ?_
 | refine then_x ?_
 | refine block_x ?_
 | refine block_o (by decide) ?_
 | refine block_n ?_
 | refine block_r ?_
 | refine AW.skip ?_
 | refine AW.ret ?_
 | refine AW.exit ?_
 | refine AW.cond rfl ?_ ?_
 | refine awl_none rfl ?_
 | refine awl_nil2 ?_
 | refine awl_some rfl rfl (Nat.le_of_ble_eq_true rfl) rfl rfl ?_ ?_
 | refine awc_none rfl ?_
 | refine awc_some rfl rfl (Nat.le_of_ble_eq_true rfl) rfl rfl ?_ ?_
 | refine awc_nilq (by kernel_rfl) (by kernel_rfl) ?_
 | (refine fun (hc : _ = _)=>?_;first|cases hc|((try rw [hc]);(try simp only [stH] at hc);(try (exfalso;omega)));(try ((first|show Awl _ _ _ _ _|show Awc _ _ _ _ _ _);simp only [stU])))
 | ((first|refine fun (K : V → List _ → _) hK=>?_|refine fun (_ : V → V)=>?_);simp (maxSteps:=1000000) (disch:=omega) only [go_sem,Int.reduceEq,↓reduceIte,reduceCtorEq,Nat.reduceEqDiff,Nat.reduceLT,Nat.reduceLeDiff,Nat.reduceAdd,Nat.reduceSub,Nat.reduceMul,Int.reduceToNat,Int.reduceLE,Int.reduceLT,TC,Sp_overdublaw16_Row,Sp_tree_From,Sp_tree_Tree_End,Sp_overdubkeep_Within,Sp_tree_Tree_Cut,Sp_tree_Tree_Find,Sp_overdubkeep_Same_api_Extent,Sp_overdublaw19_wakes,hnt,hrow,eD_inj,Sg3,St.updIf,ifc_nil,gt_ifc,go_ifc,ite_self,Option.none_or,Option.some_or];(try (revert hK;intro hK;(repeat' first|(refine And.intro ?_ ?_)|(intro hc;first|cases hc|((try rw [hc]);(try simp only [stH] at hc);(try (exfalso;omega)))));all_goals first|(refine hK _ _ ?_;clear hK K;simp only [stU])|exact hK|omega)))) <;> (fail_if_success (show False;skip)))
    refine ⟨fun w0 oa aa w hs=>?_⟩
    have h1:=frz_sr 7 (d:=.list (row.map eD)) (by simp [toD,toD1,gt,go,t1]) (by simp) hs
    refine Wk.sr (ρ:=nm []) (Wk.of ?_) h1
    simp (maxSteps:=1000000) (disch:=omega) only [go_sem,Int.reduceEq,↓reduceIte,reduceCtorEq,Nat.reduceEqDiff,Nat.reduceLT,Nat.reduceLeDiff,Nat.reduceAdd,Nat.reduceSub,Nat.reduceMul,Int.reduceToNat,Int.reduceLE,Int.reduceLT,TC,Sp_overdublaw16_Row,Sp_tree_From,Sp_tree_Tree_End,Sp_overdubkeep_Within,Sp_tree_Tree_Cut,Sp_tree_Tree_Find,Sp_overdubkeep_Same_api_Extent,Sp_overdublaw19_wakes]
  have hrl:=v_len hv
  have hE:=v_end hv
  have hcg:=(vRow_0.1 hv).1
  have hnr : (∀ e ∈ row,numE e) = True:=eq_true (v_num hv)
  have dR : decide (row = row) = true:=decide_eq_true rfl
  obtain ⟨⟨l1,f1,p1⟩,hm⟩ : ∃ n,madeN row = n:=⟨_,rfl⟩
  have hf:=from_00 hv hm
  obtain ⟨e,he⟩ : ∃ e : Int,endX row = e:=⟨_,rfl⟩
  rw [he] at hE hcg
  have hwa:=within_rng (v:=a0) (n:=e + 1) (by omega)
  obtain ⟨a,ha⟩ : ∃ a,within a0 (e + 1) = a:=⟨_,rfl⟩
  rw [ha] at hwa
  have hwb:=within_rng (v:=b0) (n:=e - a + 1) (by omega)
  obtain ⟨b1,hb⟩ : ∃ b,within b0 (e - a + 1) = b:=⟨_,rfl⟩
  rw [hb] at hwb
  obtain ⟨b,hab⟩ : ∃ b,a + b1 = b:=⟨_,rfl⟩
  have hbe : a ≤ b ∧ b ≤ e:=by omega
  have hcc:=(cg_cut (a:=a) (b:=b) hcg).1 (by omega)
  rw [show max 0 a = a by omega,show min e b = b by omega] at hcc
  have hcl:=cutX_len a b row
  have hmem:=fun y (hy : y ∈ cutX a b row)=>cutX_mem hy
  have hall:=cutX_all (a:=0) (b:=e) hcg (Int.le_refl _) (Int.le_refl _)
  have hnone:=(cg_cut (a:=b) (b:=a - 1) hcg).2 (by omega)
  have hfe : findT row e = ⟨.tup [xV x0,.d (.v (.bool false))],[]⟩:=by unfold findT;rw [(findX_cg hcg).2 (by omega)]
  have hf1 : findT row (-1) = ⟨.tup [xV x0,.d (.v (.bool false))],[]⟩:=by unfold findT;rw [(findX_cg hcg).2 (by omega)]
  obtain ⟨C,hC⟩ : ∃ C,cutX a b row = C:=⟨_,rfl⟩
  rw [hC] at hcc hcl hmem
  clear hn hl hm
  repeat' ((first
 | refine AW.seq ?_
 | refine AW.block ?_
 | refine AW.regl TC_ok [0,1,2,6,7,8,9,10,11,12,13,14,15,17,19,32,53,54,55,143] ?_
 | (refine AW.regq (id:=14) TC_ok follows bb_overdublaw19_TreeCuts_14 (by kernel_rfl) [0,1,2,6,7,8,9,10,11,12,13,14,15,17,19,32,53,54,55,143] ?_)
 | refine then_n ?_
 | refine then_r ?_
 | refine then_x ?_
 | refine block_x ?_
 | refine block_o (by decide) ?_
 | refine block_n ?_
 | refine block_r ?_
 | refine AW.skip ?_
 | refine AW.ret ?_
 | refine AW.exit ?_
 | refine AW.cond rfl ?_ ?_
 | refine awl_none rfl ?_
 | refine awl_nil2 ?_
 | refine awl_some rfl rfl (Nat.le_of_ble_eq_true rfl) rfl rfl ?_ ?_
 | refine awc_none rfl ?_
 | refine awc_some rfl rfl (Nat.le_of_ble_eq_true rfl) rfl rfl ?_ ?_
 | refine awc_nilq (by kernel_rfl) (by kernel_rfl) ?_
 | (refine fun (hc : _ = _)=>?_;first|cases hc|((try rw [hc]);(try simp only [stH] at hc);(try (exfalso;omega)));(try ((first|show Awl _ _ _ _ _|show Awc _ _ _ _ _ _);simp only [stU])))
 | ((first|refine fun (K : V → List _ → _) hK=>?_|refine fun (_ : V → V)=>?_);simp (maxSteps:=1000000) (disch:=omega) only [go_sem,Int.reduceEq,↓reduceIte,reduceCtorEq,Nat.reduceEqDiff,Nat.reduceLT,Nat.reduceLeDiff,Nat.reduceAdd,Nat.reduceSub,Nat.reduceMul,Int.reduceToNat,Int.reduceLE,Int.reduceLT,TC,Sp_overdublaw16_Row,Sp_tree_From,Sp_tree_Tree_End,Sp_overdubkeep_Within,Sp_tree_Tree_Cut,Sp_tree_Tree_Find,Sp_overdubkeep_Same_api_Extent,Sp_overdublaw19_wakes,hnr,hf,hv,he,ha,hb,hab,hC,D.ref.injEq,exists_eq',eD_inj,mI_inj,nD_inj,Sg3,St.updIf,ifc_nil,gt_ifc,go_ifc,ite_self,Option.none_or,Option.some_or];(try (revert hK;intro hK;(repeat' first|(refine And.intro ?_ ?_)|(intro hc;first|cases hc|((try rw [hc]);(try simp only [stH] at hc);(try (exfalso;omega)))));all_goals first|(refine hK _ _ ?_;clear hK K;simp only [stU])|exact hK|omega)))) <;> (fail_if_success (show False;skip)))
  refine AW.loop_wk (fun i : Nat=>⟨[(1,.d (.v (.int .i64 a))),(2,.d (.v (.int .i64 b))),(7,.d (.list (row.map eD))),(8,.d (.ref (.agg [.list (row.map eD),.list (l1.map eD),.list (f1.map mI),.list (p1.map nD)]))),(10,.d (.v (.int .i64 e))),(11,.sl 50 5 0 C.length true),(12,.d (.v (.int .i64 (a + endX (C.take i))))),(53,.d (.v (.int .i64 C.length))),(54,.d (.v (.int .i64 i)))],[(50,.row 25 5 (C.map eD))],193⟩)
    (fun i=>i ≤ C.length) (fun i=>C.length - i) 0 (Nat.zero_le _) (fun w0 oa aa w hs=>Wk.sr (ρ:=nm []) (Wk.of ?_) hs) ?_
  · have h0 : endX [] = 0:=rfl
    simp (maxSteps:=1000000) (disch:=omega) only [go_sem,Int.reduceEq,↓reduceIte,reduceCtorEq,Nat.reduceEqDiff,Nat.reduceLT,Nat.reduceLeDiff,Nat.reduceAdd,Nat.reduceSub,Nat.reduceMul,Int.reduceToNat,Int.reduceLE,Int.reduceLT,TC,Sp_overdublaw16_Row,Sp_tree_From,Sp_tree_Tree_End,Sp_overdubkeep_Within,Sp_tree_Tree_Cut,Sp_tree_Tree_Find,Sp_overdubkeep_Same_api_Extent,Sp_overdublaw19_wakes,h0,Int.add_zero]
  intro i hi
  by_cases hi1 : i < C.length
  · have e1:=nth_E C i hi1
    have e2:=cg_pos hcc hi1
    have e3:=hmem _ (mem_getD hi1)
    have e4:=(cg_mem hcc _ (mem_getD hi1))
    have e5:=endX_take hi1
    obtain ⟨⟨q0,q1,q2,q3,q4⟩,hq⟩ : ∃ q,C.getD i x0 = q:=⟨_,rfl⟩
    rw [hq] at e1 e2 e3 e4 e5
    obtain ⟨⟨y0,y1,y2,y3,y4⟩,hx,hy,hlt⟩:=e3
    obtain ⟨m1,m2,m3⟩:=cg_mem hcg _ hx
    simp only at e2 e4 e5 hlt m1 m2 m3
    rw [Xt.mk.injEq] at hy
    simp only at hy
    obtain ⟨h0,h1,h2,h3,h4⟩:=hy
    have ho1:=(oneE_iff _).1 m1
    simp only at ho1
    obtain ⟨k,hk,hkx⟩:=findX_mem (a:=q0) hcg hx (by simp only;omega) (by simp only;omega)
    have hfq : findT row q0 = ⟨.tup [xV ⟨y0,y1,y2,y3,y4⟩,.d (.v (.bool true))],[]⟩:=by unfold findT;rw [hk];simp only;rw [hkx]
    have s1 : a + endX (C.take i) = q0:=e2.symm
    have s2 : a + endX (C.take (i + 1)) = q0 + q4:=by rw [e5];omega
    have hq04 : 0 ≤ q0 ∧ q0 + q4 ≤ 1000:=by omega
    have hq4 : 1 ≤ q4:=by omega
    have d0 : decide (¬ q0 = q0) = false:=by simp
    have d1 : decide (q4 < 1) = false:=decide_eq_false (by omega)
    have d2 : decide (¬ y1 = q1) = false:=decide_eq_false (by omega)
    have d3 : decide (¬ y2 = q2) = false:=decide_eq_false (by omega)
    have d4 : decide (¬ y3 + q0 - y0 = q3) = false:=decide_eq_false (by omega)
    have d5 : decide (y0 + y4 < q0 + q4) = false:=decide_eq_false (by omega)
    clear hmem hcc hcg e4 m1 h0 h1 h2 h3 h4 hlt
    repeat' ((first
 | refine AW.seq ?_
 | refine AW.block ?_
 | refine AW.regl TC_ok [0,1,2,6,7,8,9,10,11,12,13,14,15,17,19,32,53,54,55,143] ?_
 | (refine AW.regq (id:=14) TC_ok follows bb_overdublaw19_TreeCuts_14 (by kernel_rfl) [0,1,2,6,7,8,9,10,11,12,13,14,15,17,19,32,53,54,55,143] ?_)
 | refine then_n ?_
 | refine then_r ?_
 | refine then_x ?_
 | refine block_x ?_
 | refine block_o (by decide) ?_
 | refine block_n ?_
 | refine block_r ?_
 | refine AW.skip ?_
 | refine AW.ret ?_
 | refine AW.exit ?_
 | refine AW.cond rfl ?_ ?_
 | refine awl_none rfl ?_
 | refine awl_nil2 ?_
 | refine awl_some rfl rfl (Nat.le_of_ble_eq_true rfl) rfl rfl ?_ ?_
 | refine awc_none rfl ?_
 | refine awc_some rfl rfl (Nat.le_of_ble_eq_true rfl) rfl rfl ?_ ?_
 | refine awc_nilq (by kernel_rfl) (by kernel_rfl) ?_
 | (refine fun (hc : _ = _)=>?_;first|cases hc|((try rw [hc]);(try simp only [stH] at hc);(try (exfalso;omega)));(try ((first|show Awl _ _ _ _ _|show Awc _ _ _ _ _ _);simp only [stU])))
 | ((first|refine fun (K : V → List _ → _) hK=>?_|refine fun (_ : V → V)=>?_);simp (maxSteps:=1000000) (disch:=omega) only [go_sem,Int.reduceEq,↓reduceIte,reduceCtorEq,Nat.reduceEqDiff,Nat.reduceLT,Nat.reduceLeDiff,Nat.reduceAdd,Nat.reduceSub,Nat.reduceMul,Int.reduceToNat,Int.reduceLE,Int.reduceLT,TC,Sp_overdublaw16_Row,Sp_tree_From,Sp_tree_Tree_End,Sp_overdubkeep_Within,Sp_tree_Tree_Cut,Sp_tree_Tree_Find,Sp_overdubkeep_Same_api_Extent,Sp_overdublaw19_wakes,s1,e1,hfq,hv,d0,d1,d2,d3,d4,d5,xV,eD,mI_eq,all_E,D.ref.injEq,exists_eq',eD_inj,mI_inj,nD_inj,Sg3,St.updIf,ifc_nil,gt_ifc,go_ifc,ite_self,Option.none_or,Option.some_or];(try (revert hK;intro hK;(repeat' first|(refine And.intro ?_ ?_)|(intro hc;first|cases hc|((try rw [hc]);(try simp only [stH] at hc);(try (exfalso;omega)))));all_goals first|(refine hK _ _ ?_;clear hK K;simp only [stU])|exact hK|omega)))) <;> (fail_if_success (show False;skip)))
    refine ⟨i + 1,by omega,by omega,nm [(50,50)],Wk.of ?_⟩
    simp (maxSteps:=1000000) (disch:=omega) only [go_sem,Int.reduceEq,↓reduceIte,reduceCtorEq,Nat.reduceEqDiff,Nat.reduceLT,Nat.reduceLeDiff,Nat.reduceAdd,Nat.reduceSub,Nat.reduceMul,Int.reduceToNat,Int.reduceLE,Int.reduceLT,TC,Sp_overdublaw16_Row,Sp_tree_From,Sp_tree_Tree_End,Sp_overdubkeep_Within,Sp_tree_Tree_Cut,Sp_tree_Tree_Find,Sp_overdubkeep_Same_api_Extent,Sp_overdublaw19_wakes,s2]
    all_goals rfl
  · obtain rfl : i = C.length:=by omega
    have s1 : a + endX (C.take C.length) = b:=by rw [List.take_length];exact (cg_end hcc).symm
    have t2 : (row.map eD).take row.length = row.map eD:=t1
    repeat' ((first
 | refine AW.seq ?_
 | refine AW.block ?_
 | refine AW.regl TC_ok [0,1,2,6,7,8,9,10,11,12,13,14,15,17,19,32,53,54,55,143] ?_
 | (refine AW.regq (id:=14) TC_ok follows bb_overdublaw19_TreeCuts_14 (by kernel_rfl) [0,1,2,6,7,8,9,10,11,12,13,14,15,17,19,32,53,54,55,143] ?_)
 | refine then_n ?_
 | refine then_r ?_
 | refine then_x ?_
 | refine block_x ?_
 | refine block_o (by decide) ?_
 | refine block_n ?_
 | refine block_r ?_
 | refine AW.skip ?_
 | refine AW.ret ?_
 | refine AW.exit ?_
 | refine AW.cond rfl ?_ ?_
 | refine awl_none rfl ?_
 | refine awl_nil2 ?_
 | refine awl_some rfl rfl (Nat.le_of_ble_eq_true rfl) rfl rfl ?_ ?_
 | refine awc_none rfl ?_
 | refine awc_some rfl rfl (Nat.le_of_ble_eq_true rfl) rfl rfl ?_ ?_
 | refine awc_nilq (by kernel_rfl) (by kernel_rfl) ?_
 | (refine fun (hc : _ = _)=>?_;first|cases hc|((try rw [hc]);(try simp only [stH] at hc);(try (exfalso;omega)));(try ((first|show Awl _ _ _ _ _|show Awc _ _ _ _ _ _);simp only [stU])))
 | ((first|refine fun (K : V → List _ → _) hK=>?_|refine fun (_ : V → V)=>?_);simp (maxSteps:=1000000) (disch:=omega) only [go_sem,Int.reduceEq,↓reduceIte,reduceCtorEq,Nat.reduceEqDiff,Nat.reduceLT,Nat.reduceLeDiff,Nat.reduceAdd,Nat.reduceSub,Nat.reduceMul,Int.reduceToNat,Int.reduceLE,Int.reduceLT,TC,Sp_overdublaw16_Row,Sp_tree_From,Sp_tree_Tree_End,Sp_overdubkeep_Within,Sp_tree_Tree_Cut,Sp_tree_Tree_Find,Sp_overdubkeep_Same_api_Extent,Sp_overdublaw19_wakes,s1,hv,hfe,hf1,hall,hnone,dR,t1,xV,x0,all_E,D.ref.injEq,exists_eq',eD_inj,mI_inj,nD_inj,Sg3,St.updIf,ifc_nil,gt_ifc,go_ifc,ite_self,Option.none_or,Option.some_or];(try (revert hK;intro hK;(repeat' first|(refine And.intro ?_ ?_)|(intro hc;first|cases hc|((try rw [hc]);(try simp only [stH] at hc);(try (exfalso;omega)))));all_goals first|(refine hK _ _ ?_;clear hK K;simp only [stU])|exact hK|omega)))) <;> (fail_if_success (show False;skip)))
    all_goals (refine Ends.of (nm []) (by first|exact .inl rfl|exact .inr rfl) ?_;simp (maxSteps:=1000000) (disch:=omega) only [go_sem,Int.reduceEq,↓reduceIte,reduceCtorEq,Nat.reduceEqDiff,Nat.reduceLT,Nat.reduceLeDiff,Nat.reduceAdd,Nat.reduceSub,Nat.reduceMul,Int.reduceToNat,Int.reduceLE,Int.reduceLT,TC,Sp_overdublaw16_Row,Sp_tree_From,Sp_tree_Tree_End,Sp_overdubkeep_Within,Sp_tree_Tree_Cut,Sp_tree_Tree_Find,Sp_overdubkeep_Same_api_Extent,Sp_overdublaw19_wakes])
theorem ent_overdublaw19_TreeCuts : Ent Try.prog 5:=⟨_,Try.func5,rfl,by decide⟩
end Go.Proofs.Ytleahjfgedfgmaa.Am
