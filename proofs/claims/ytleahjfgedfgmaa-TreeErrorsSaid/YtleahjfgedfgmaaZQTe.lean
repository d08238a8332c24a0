import Derived.Test.YtleahjfgedfgmaaZT11
set_option linter.unusedVariables false
set_option linter.unusedSimpArgs false
set_option maxRecDepth 10000
set_option maxHeartbeats 0
namespace Go.Proofs.Ytleahjfgedfgmaa.Am
open Go Go.RowKit Go.Proofs
theorem one_E (a b c d e : Int) (l : List Xt) : ([D.agg [.v (.int .i64 a),.v (.int .i64 b),.v (.int .i64 c),.v (.int .i64 d),.v (.int .i64 e)]] = l.map eD) = ([Xt.mk a b c d e] = l):=by
  rw [show [D.agg [.v (.int .i64 a),.v (.int .i64 b),.v (.int .i64 c),.v (.int .i64 d),.v (.int .i64 e)]] = [Xt.mk a b c d e].map eD from rfl,eD_inj]
theorem one_E2 (x : Xt) (l : List Xt) : ([eD x] = l.map eD) = ([x] = l):=by
  rw [show [eD x] = [x].map eD from rfl,eD_inj]
def longX (n : Nat) : List Xt:=(List.range n).map fun (i : Nat)=>⟨(i : Int),1,1,0,1⟩
theorem longX_succ (k : Nat) : longX (k + 1) = longX k ++ [⟨(k : Int),1,1,0,1⟩]:=by simp [longX,List.range_succ]
theorem longX_len (k : Nat) : (longX k).length = k:=by simp [longX]
theorem longX_cg : ∀ n : Nat,n ≤ 1000 → cg 0 (longX n) n
  | 0,_=>rfl
  | n + 1,h=>by
    rw [longX_succ]
    refine cg_app (longX_cg n (by omega)) ⟨rfl,?_,?_⟩
    · rw [oneE_iff];simp only;omega
    · show (n : Int) + 1 = _;omega
theorem spT_1 {l new : List Xt} {a b : Int} (h : vRow 0 new = false ∨ a < 0 ∨ b < a ∨ endX l < a) : spliceT l a b new = ⟨.tup [.d (.v (.pointer none)),.d (.v (.int .i64 1))],[]⟩:=by
  unfold spliceT;rw [spF_1 h,if_neg (by decide)]
theorem spT_4 {l new : List Xt} {a b : Int} (h : spF l a b new = 4) : spliceT l a b new = ⟨.tup [.d (.v (.pointer none)),.d (.v (.int .i64 4))],[]⟩:=by
  unfold spliceT;rw [h,if_neg (by decide)]
theorem spT_0 {l new : List Xt} {a b : Int} (h : spF l a b new = 0) {l1 : List Xt} {f1 : List Int} {p1 : List Nd} (hm : madeN (spX l a b new) = .mk l1 f1 p1) : spliceT l a b new = ⟨.tup [.d (.ref (.agg [.list ((spX l a b new).map eD),.list (l1.map eD),.list (f1.map mI),.list (p1.map nD)])),.d (.v (.int .i64 0))],[]⟩:=by
  unfold spliceT;rw [if_pos h,hm];rfl
theorem from_0 {l : List Xt} (hv : vRow 0 l = true) {l1 : List Xt} {f1 : List Int} {p1 : List Nd} (hm : madeN l = .mk l1 f1 p1) : fromOut l = ⟨.tup [.d (.ref (.agg [.list (l.map eD),.list (l1.map eD),.list (f1.map mI),.list (p1.map nD)])),.d (.v (.int .i64 0))],[]⟩:=by
  unfold fromOut;rw [if_pos hv,hm];rfl
noncomputable def TE : Env:=⟨Try.prog,fun f ds out=>(f = 13 ∧ Sp_overdublaw16_Row ds out) ∨ (f = 16 ∧ Sp_tree_From ds out) ∨ (f = 14 ∧ Sp_overdubkeep_Within ds out) ∨ (f = 23 ∧ Sp_tree_Tree_End ds out) ∨ (f = 27 ∧ Sp_tree_Tree_Splice ds out) ∨ (f = 28 ∧ Sp_tree_Tree_All ds out) ∨ (f = 26 ∧ Sp_overdubkeep_Same_api_Extent ds out) ∨ (f = 18 ∧ Sp_overdublaw19_wakes ds out),Es,fun f=>decide (f = 27),fun f vs lent out=>False,fun f=>none,fun f=>false,false,fun f=>none⟩
theorem TE_sp : ∀ f ds out,TE.Sp f ds out → Ent TE.P f ∧ Good TE.P f (fun a b=>a = ds ∧ b = out):=by
  rintro f ds out (⟨rfl,h⟩|⟨rfl,h⟩|⟨rfl,h⟩|⟨rfl,h⟩|⟨rfl,h⟩|⟨rfl,h⟩|⟨rfl,h⟩|⟨rfl,h⟩)
  · exact ⟨ent_overdublaw16_Row,good_overdublaw16_Row.one h⟩
  · exact ⟨ent_tree_From,good_tree_From.one h⟩
  · exact ⟨ent_overdubkeep_Within,good_overdubkeep_Within.one h⟩
  · exact ⟨ent_tree_Tree_End,good_tree_Tree_End.one h⟩
  · exact ⟨ent_tree_Tree_Splice,good_tree_Tree_Splice.one h⟩
  · exact ⟨ent_tree_Tree_All,good_tree_Tree_All.one h⟩
  · exact ⟨ent_overdubkeep_Same_api_Extent,good_overdubkeep_Same_api_Extent.one h⟩
  · exact ⟨ent_overdublaw19_wakes,good_overdublaw19_wakes.one h⟩
theorem TE_sm : ∀ f vs lent out,TE.Sm f vs lent out → Ent TE.P f ∧ GoodM TE.P f (fun a l b=>a = vs ∧ l = lent ∧ b = out):=fun _ _ _ _ h=>h.elim
theorem TE_at : ∀ f k,TE.At f = some k → AtomOk TE.P f k:=fun _ _ h=>nomatch h
theorem TE_ok : TE.Ok:=⟨TE_sp,Es_ok,TE_sm,TE_at⟩
def Sp_overdublaw19_TreeErrors (ds : List D) (out : Out) : Prop:=∃ (l : List Xt) (b : Int),ds = [.list (l.map eD),.v (.int .i64 b)] ∧ l.length ≤ 9223372036854775807 ∧ (∀ e ∈ l,numE e) ∧ out = ⟨.d (.v (.bool true)),[]⟩
theorem good_overdublaw19_TreeErrors : Good Try.prog 6 Sp_overdublaw19_TreeErrors:=by
  refine good_body (E:=TE) (nt:=157) (rs:=#[.tmp 4]) Try.func6 rfl rfl rfl ?_
  rintro ds out ⟨l,b0,rfl,hl,hn,rfl⟩
  refine ⟨by simp,?_⟩
  have hnt : (∀ e ∈ l,numE e) = True:=eq_true hn
  have hv:=(rowG_ok 12 0 l (by omega) (by omega)).1
  obtain ⟨row,hrow⟩ : ∃ r,rowG 12 0 l = r:=⟨_,rfl⟩
  rw [hrow] at hv
  have t1 : (row.map eD).take row.length = row.map eD:=List.take_of_length_le (by simp)
  refine AW.w2 ⟨[(1,.d (.v (.int .i64 b0))),(5,.d (.list (row.map eD)))],[],157⟩ ?_ ?_
  · repeat' ((first
 | refine AW.seq ?_
 | refine AW.block ?_
 | refine AW.regl TE_ok [0,1,4,5,6,7,8,9,10,11,12,13,14,15,16,17,18,19,20,21,34,46,105] ?_
 | refine then_n ?_
 | refine then_r ?_
 | refine then_x ?_
 | refine block_x ?_
 | refine block_o (by decide) ?_
 | refine block_n ?_
 | refine block_r ?_
 | refine AW.skip ?_
 | refine AW.ret ?_
 | refine AW.exit ?_
 | refine AW.cond rfl ?_ ?_
 | refine awl_none rfl ?_
 | refine awl_nil2 ?_
 | refine awl_some rfl rfl (Nat.le_of_ble_eq_true rfl) rfl rfl ?_ ?_
 | (refine fun (hc : _ = _)=>?_;first|cases hc|((try rw [hc]);(try simp only [stH] at hc);(try (exfalso;omega)));(try (show Awl _ _ _ _ _;simp only [stU])))
 | ((first|refine fun (K : V → List _ → _) hK=>?_|refine fun (_ : V → V)=>?_);simp (maxSteps:=1000000) (disch:=omega) only [go_sem,Int.reduceEq,↓reduceIte,reduceCtorEq,Nat.reduceEqDiff,Nat.reduceLT,Nat.reduceLeDiff,Nat.reduceAdd,Nat.reduceSub,Nat.reduceMul,Int.reduceToNat,Int.reduceLE,Int.reduceLT,TE,Sp_overdublaw16_Row,Sp_tree_From,Sp_overdubkeep_Within,Sp_tree_Tree_End,Sp_tree_Tree_Splice,Sp_tree_Tree_All,Sp_overdubkeep_Same_api_Extent,Sp_overdublaw19_wakes,hnt,hrow,eD_inj];(try (revert hK;intro hK;(repeat' first|(refine And.intro ?_ ?_)|(intro hc;first|cases hc|((try rw [hc]);(try simp only [stH] at hc);(try (exfalso;omega)))));all_goals first|(refine hK _ _ ?_;clear hK K;simp only [stU])|exact hK|omega)))) <;> (fail_if_success (show False;skip)))
    refine ⟨fun w0 oa aa w hs=>?_⟩
    have h1:=frz_sr 5 (d:=.list (row.map eD)) (by simp [toD,toD1,gt,go,t1]) (by simp) hs
    refine Wk.sr (ρ:=nm []) (Wk.of ?_) h1
    simp (maxSteps:=1000000) (disch:=omega) only [go_sem,Int.reduceEq,↓reduceIte,reduceCtorEq,Nat.reduceEqDiff,Nat.reduceLT,Nat.reduceLeDiff,Nat.reduceAdd,Nat.reduceSub,Nat.reduceMul,Int.reduceToNat,Int.reduceLE,Int.reduceLT,TE,Sp_overdublaw16_Row,Sp_tree_From,Sp_overdubkeep_Within,Sp_tree_Tree_End,Sp_tree_Tree_Splice,Sp_tree_Tree_All,Sp_overdubkeep_Same_api_Extent,Sp_overdublaw19_wakes]
  have hrl:=v_len hv
  have hE:=v_end hv
  have hnr : (∀ e ∈ row,numE e) = True:=eq_true (v_num hv)
  have hbr : (∀ e ∈ row,bdX e) = True:=eq_true (v_bd hv)
  have dR : decide (row = row) = true:=decide_eq_true rfl
  obtain ⟨⟨l1,f1,p1⟩,hm⟩ : ∃ n,madeN row = n:=⟨_,rfl⟩
  have hf:=from_0 hv hm
  have hwb:=within_rng (v:=b0) (n:=40) (by omega)
  obtain ⟨B,hB⟩ : ∃ B,within b0 40 = B:=⟨_,rfl⟩
  rw [hB] at hwb
  obtain ⟨e,he⟩ : ∃ e : Nat,endX row = e:=⟨(endX row).toNat,by omega⟩
  rw [he] at hE
  have hdv : ((e : Int).tdiv 64) = ((e / 64 : Nat) : Int):=rfl
  obtain ⟨q,hq⟩ : ∃ q,e / 64 = q:=⟨_,rfl⟩
  rw [hq] at hdv
  have hq16 : q ≤ 16:=by omega
  have nB : numE (Xt.mk (1 + B) 5 2 0 1) = True:=eq_true (by simp [numE] <;> omega)
  have nN : (∀ x ∈ ([] : List Xt),numE x) = True:=by simp
  have sA:=spT_1 (l:=row) (new:=[Xt.mk (1 + B) 5 2 0 1]) (a:=0) (b:=0) (.inl (by simp [vRow,oneE] <;> omega))
  have sB:=spT_1 (l:=row) (new:=[]) (a:=1 + B) (b:=B) (.inr (.inr (.inl (by omega))))
  have sC:=spT_1 (l:=row) (new:=[]) (a:=(e : Int) + 1 + B) (b:=(e : Int) + 1 + B) (.inr (.inr (.inr (by omega))))
  have sD:=spT_1 (l:=row) (new:=[]) (a:=-1 - B) (b:=0) (.inr (.inl (by omega)))
  clear hn hl hm
  repeat' ((first
 | refine AW.seq ?_
 | refine AW.block ?_
 | refine AW.regl TE_ok [0,1,4,5,6,7,8,9,10,11,12,13,14,15,16,17,18,19,20,21,34,46,105] ?_
 | refine then_n ?_
 | refine then_r ?_
 | refine then_x ?_
 | refine block_x ?_
 | refine block_o (by decide) ?_
 | refine block_n ?_
 | refine block_r ?_
 | refine AW.skip ?_
 | refine AW.ret ?_
 | refine AW.exit ?_
 | refine AW.cond rfl ?_ ?_
 | refine awl_none rfl ?_
 | refine awl_nil2 ?_
 | refine awl_some rfl rfl (Nat.le_of_ble_eq_true rfl) rfl rfl ?_ ?_
 | (refine fun (hc : _ = _)=>?_;first|cases hc|((try rw [hc]);(try simp only [stH] at hc);(try (exfalso;omega)));(try (show Awl _ _ _ _ _;simp only [stU])))
 | ((first|refine fun (K : V → List _ → _) hK=>?_|refine fun (_ : V → V)=>?_);simp (maxSteps:=1000000) (disch:=omega) only [go_sem,Int.reduceEq,↓reduceIte,reduceCtorEq,Nat.reduceEqDiff,Nat.reduceLT,Nat.reduceLeDiff,Nat.reduceAdd,Nat.reduceSub,Nat.reduceMul,Int.reduceToNat,Int.reduceLE,Int.reduceLT,TE,Sp_overdublaw16_Row,Sp_tree_From,Sp_overdubkeep_Within,Sp_tree_Tree_End,Sp_tree_Tree_Splice,Sp_tree_Tree_All,Sp_overdubkeep_Same_api_Extent,Sp_overdublaw19_wakes,hnr,hf,hB,eD_inj];(try (revert hK;intro hK;(repeat' first|(refine And.intro ?_ ?_)|(intro hc;first|cases hc|((try rw [hc]);(try simp only [stH] at hc);(try (exfalso;omega)))));all_goals first|(refine hK _ _ ?_;clear hK K;simp only [stU])|exact hK|omega)))) <;> (fail_if_success (show False;skip)))
  refine AW.loop_wk (fun k : Nat=>⟨[(1,.d (.v (.int .i64 B))),(5,.d (.list (row.map eD))),(6,.d (.ref (.agg [.list (row.map eD),.list (l1.map eD),.list (f1.map mI),.list (p1.map nD)]))),(8,.sl 40 5 0 1 true),(9,.sl 100 5 0 k true),(10,.d (.v (.int .i64 k)))],[(40,.row 25 5 ([Xt.mk (1 + B) 5 2 0 1].map eD)),(100,.row 25 5 ((longX k).map eD))],157⟩)
    (fun k=>k ≤ 1000 - q) (fun k=>1000 - q - k) 0 (Nat.zero_le _) (fun w0 oa aa w hs=>Wk.sr (ρ:=nm []) (Wk.of ?_) (nil_sr 9 100 25 5 rfl (by simp) rfl (by decide) hs)) ?_
  · have h0 : longX 0 = []:=rfl
    simp (maxSteps:=1000000) (disch:=omega) only [go_sem,Int.reduceEq,↓reduceIte,reduceCtorEq,Nat.reduceEqDiff,Nat.reduceLT,Nat.reduceLeDiff,Nat.reduceAdd,Nat.reduceSub,Nat.reduceMul,Int.reduceToNat,Int.reduceLE,Int.reduceLT,TE,Sp_overdublaw16_Row,Sp_tree_From,Sp_overdubkeep_Within,Sp_tree_Tree_End,Sp_tree_Tree_Splice,Sp_tree_Tree_All,Sp_overdubkeep_Same_api_Extent,Sp_overdublaw19_wakes,h0,eD,mI_eq,List.map_cons,List.map_nil]
  intro k hk
  have hkl:=longX_len k
  by_cases hk1 : k < 1000 - q
  · have e7:=longX_succ k
    obtain ⟨R,hR⟩ : ∃ R,longX k = R:=⟨_,rfl⟩
    rw [hR] at e7 hkl
    have c1 : R.map eD ++ [D.agg [.v (.int .i64 (k : Int)),.v (.int .i64 1),.v (.int .i64 1),.v (.int .i64 0),.v (.int .i64 1)]] = (R ++ [Xt.mk (k : Int) 1 1 0 1]).map eD:=by simp [eD,mI]
    repeat' ((first
 | refine AW.seq ?_
 | refine AW.block ?_
 | refine AW.regl TE_ok [0,1,4,5,6,7,8,9,10,11,12,13,14,15,16,17,18,19,20,21,34,46,105] ?_
 | refine then_n ?_
 | refine then_r ?_
 | refine then_x ?_
 | refine block_x ?_
 | refine block_o (by decide) ?_
 | refine block_n ?_
 | refine block_r ?_
 | refine AW.skip ?_
 | refine AW.ret ?_
 | refine AW.exit ?_
 | refine AW.cond rfl ?_ ?_
 | refine awl_none rfl ?_
 | refine awl_nil2 ?_
 | refine awl_some rfl rfl (Nat.le_of_ble_eq_true rfl) rfl rfl ?_ ?_
 | (refine fun (hc : _ = _)=>?_;first|cases hc|((try rw [hc]);(try simp only [stH] at hc);(try (exfalso;omega)));(try (show Awl _ _ _ _ _;simp only [stU])))
 | ((first|refine fun (K : V → List _ → _) hK=>?_|refine fun (_ : V → V)=>?_);simp (maxSteps:=1000000) (disch:=omega) only [go_sem,Int.reduceEq,↓reduceIte,reduceCtorEq,Nat.reduceEqDiff,Nat.reduceLT,Nat.reduceLeDiff,Nat.reduceAdd,Nat.reduceSub,Nat.reduceMul,Int.reduceToNat,Int.reduceLE,Int.reduceLT,TE,Sp_overdublaw16_Row,Sp_tree_From,Sp_overdubkeep_Within,Sp_tree_Tree_End,Sp_tree_Tree_Splice,Sp_tree_Tree_All,Sp_overdubkeep_Same_api_Extent,Sp_overdublaw19_wakes,hv,he,hdv,hR,hkl,c1,all_E,D.ref.injEq,exists_eq',eD_inj,mI_inj,nD_inj];(try (revert hK;intro hK;(repeat' first|(refine And.intro ?_ ?_)|(intro hc;first|cases hc|((try rw [hc]);(try simp only [stH] at hc);(try (exfalso;omega)))));all_goals first|(refine hK _ _ ?_;clear hK K;simp only [stU])|exact hK|omega)))) <;> (fail_if_success (show False;skip)))
    refine ⟨k + 1,by omega,by omega,nm [(40,40),(100,53)],Wk.of ?_⟩
    simp (maxSteps:=1000000) (disch:=omega) only [go_sem,Int.reduceEq,↓reduceIte,reduceCtorEq,Nat.reduceEqDiff,Nat.reduceLT,Nat.reduceLeDiff,Nat.reduceAdd,Nat.reduceSub,Nat.reduceMul,Int.reduceToNat,Int.reduceLE,Int.reduceLT,TE,Sp_overdublaw16_Row,Sp_tree_From,Sp_overdubkeep_Within,Sp_tree_Tree_End,Sp_tree_Tree_Splice,Sp_tree_Tree_All,Sp_overdubkeep_Same_api_Extent,Sp_overdublaw19_wakes,e7]
    all_goals rfl
  obtain rfl : k = 1000 - q:=by omega
  obtain ⟨N,hN⟩ : ∃ N,1000 - q = N:=⟨_,rfl⟩
  rw [hN] at hkl
  have hcg:=longX_cg N (by omega)
  obtain ⟨v1,v2⟩:=cg_v hcg (by omega)
  obtain ⟨R,hR⟩ : ∃ R,longX N = R:=⟨_,rfl⟩
  rw [hR] at hkl v1 v2
  have nR : (∀ x ∈ R,numE x) = True:=eq_true (v_num v1)
  have t2 : (R.map eD).take N = R.map eD:=List.take_of_length_le (by simp [hkl])
  have hNq : (N : Int) = 1000 - (q : Int):=by omega
  have dQ : decide ((N : Int) < 1000 - (q : Int)) = false:=decide_eq_false (by omega)
  have hfF : spF row e e R = if 1000 < (e : Int) + N then 4 else 0:=by
    unfold spF
    rw [if_neg (by rw [v1,he];simp),v2,he]
    have : (e : Int) + N + e - min (e : Int) e = e + N:=by omega
    rw [this]
  by_cases h4 : 1000 < (e : Int) + N
  · rw [if_pos h4] at hfF
    have sU:=spT_4 hfF
    have d4 : decide (1000 < (e : Int) + (N : Int)) = true:=decide_eq_true h4
    repeat' ((first
 | refine AW.seq ?_
 | refine AW.block ?_
 | refine AW.regl TE_ok [0,1,4,5,6,7,8,9,10,11,12,13,14,15,16,17,18,19,20,21,34,46,105] ?_
 | refine then_n ?_
 | refine then_r ?_
 | refine then_x ?_
 | refine block_x ?_
 | refine block_o (by decide) ?_
 | refine block_n ?_
 | refine block_r ?_
 | refine AW.skip ?_
 | refine AW.ret ?_
 | refine AW.exit ?_
 | refine AW.cond rfl ?_ ?_
 | refine awl_none rfl ?_
 | refine awl_nil2 ?_
 | refine awl_some rfl rfl (Nat.le_of_ble_eq_true rfl) rfl rfl ?_ ?_
 | (refine fun (hc : _ = _)=>?_;first|cases hc|((try rw [hc]);(try simp only [stH] at hc);(try (exfalso;omega)));(try (show Awl _ _ _ _ _;simp only [stU])))
 | ((first|refine fun (K : V → List _ → _) hK=>?_|refine fun (_ : V → V)=>?_);simp (maxSteps:=1000000) (disch:=omega) only [go_sem,Int.reduceEq,↓reduceIte,reduceCtorEq,Nat.reduceEqDiff,Nat.reduceLT,Nat.reduceLeDiff,Nat.reduceAdd,Nat.reduceSub,Nat.reduceMul,Int.reduceToNat,Int.reduceLE,Int.reduceLT,TE,Sp_overdublaw16_Row,Sp_tree_From,Sp_overdubkeep_Within,Sp_tree_Tree_End,Sp_tree_Tree_Splice,Sp_tree_Tree_All,Sp_overdubkeep_Same_api_Extent,Sp_overdublaw19_wakes,hN,hR,dQ,hv,he,hdv,hkl,hbr,nB,nN,nR,t1,t2,dR,d4,sA,sB,sC,sD,sU,one_E,one_E2,nil_X,all_E,D.ref.injEq,exists_eq',eD_inj,mI_inj,nD_inj];(try (revert hK;intro hK;(repeat' first|(refine And.intro ?_ ?_)|(intro hc;first|cases hc|((try rw [hc]);(try simp only [stH] at hc);(try (exfalso;omega)))));all_goals first|(refine hK _ _ ?_;clear hK K;simp only [stU])|exact hK|omega)))) <;> (fail_if_success (show False;skip)))
    all_goals (refine Ends.of (nm []) (by first|exact .inl rfl|exact .inr rfl) ?_;simp (maxSteps:=1000000) (disch:=omega) only [go_sem,Int.reduceEq,↓reduceIte,reduceCtorEq,Nat.reduceEqDiff,Nat.reduceLT,Nat.reduceLeDiff,Nat.reduceAdd,Nat.reduceSub,Nat.reduceMul,Int.reduceToNat,Int.reduceLE,Int.reduceLT,TE,Sp_overdublaw16_Row,Sp_tree_From,Sp_overdubkeep_Within,Sp_tree_Tree_End,Sp_tree_Tree_Splice,Sp_tree_Tree_All,Sp_overdubkeep_Same_api_Extent,Sp_overdublaw19_wakes])
  · rw [if_neg h4] at hfF
    obtain ⟨⟨l2,f2,p2⟩,hm2⟩ : ∃ n,madeN (spX row e e R) = n:=⟨_,rfl⟩
    have sU:=spT_0 hfF hm2
    have d4 : decide (1000 < (e : Int) + (N : Int)) = false:=decide_eq_false h4
    generalize spX row e e R = X at *
    repeat' ((first
 | refine AW.seq ?_
 | refine AW.block ?_
 | refine AW.regl TE_ok [0,1,4,5,6,7,8,9,10,11,12,13,14,15,16,17,18,19,20,21,34,46,105] ?_
 | refine then_n ?_
 | refine then_r ?_
 | refine then_x ?_
 | refine block_x ?_
 | refine block_o (by decide) ?_
 | refine block_n ?_
 | refine block_r ?_
 | refine AW.skip ?_
 | refine AW.ret ?_
 | refine AW.exit ?_
 | refine AW.cond rfl ?_ ?_
 | refine awl_none rfl ?_
 | refine awl_nil2 ?_
 | refine awl_some rfl rfl (Nat.le_of_ble_eq_true rfl) rfl rfl ?_ ?_
 | (refine fun (hc : _ = _)=>?_;first|cases hc|((try rw [hc]);(try simp only [stH] at hc);(try (exfalso;omega)));(try (show Awl _ _ _ _ _;simp only [stU])))
 | ((first|refine fun (K : V → List _ → _) hK=>?_|refine fun (_ : V → V)=>?_);simp (maxSteps:=1000000) (disch:=omega) only [go_sem,Int.reduceEq,↓reduceIte,reduceCtorEq,Nat.reduceEqDiff,Nat.reduceLT,Nat.reduceLeDiff,Nat.reduceAdd,Nat.reduceSub,Nat.reduceMul,Int.reduceToNat,Int.reduceLE,Int.reduceLT,TE,Sp_overdublaw16_Row,Sp_tree_From,Sp_overdubkeep_Within,Sp_tree_Tree_End,Sp_tree_Tree_Splice,Sp_tree_Tree_All,Sp_overdubkeep_Same_api_Extent,Sp_overdublaw19_wakes,hN,hR,dQ,hv,he,hdv,hkl,hbr,nB,nN,nR,t1,t2,dR,d4,sA,sB,sC,sD,sU,one_E,one_E2,nil_X,all_E,D.ref.injEq,exists_eq',eD_inj,mI_inj,nD_inj];(try (revert hK;intro hK;(repeat' first|(refine And.intro ?_ ?_)|(intro hc;first|cases hc|((try rw [hc]);(try simp only [stH] at hc);(try (exfalso;omega)))));all_goals first|(refine hK _ _ ?_;clear hK K;simp only [stU])|exact hK|omega)))) <;> (fail_if_success (show False;skip)))
    all_goals (refine Ends.of (nm []) (by first|exact .inl rfl|exact .inr rfl) ?_;simp (maxSteps:=1000000) (disch:=omega) only [go_sem,Int.reduceEq,↓reduceIte,reduceCtorEq,Nat.reduceEqDiff,Nat.reduceLT,Nat.reduceLeDiff,Nat.reduceAdd,Nat.reduceSub,Nat.reduceMul,Int.reduceToNat,Int.reduceLE,Int.reduceLT,TE,Sp_overdublaw16_Row,Sp_tree_From,Sp_overdubkeep_Within,Sp_tree_Tree_End,Sp_tree_Tree_Splice,Sp_tree_Tree_All,Sp_overdubkeep_Same_api_Extent,Sp_overdublaw19_wakes])
theorem ent_overdublaw19_TreeErrors : Ent Try.prog 6:=⟨_,Try.func6,rfl,by decide⟩
end Go.Proofs.Ytleahjfgedfgmaa.Am
