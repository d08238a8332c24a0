import Derived.Test.YtleahjfgedfgmaaZT7
set_option linter.unusedVariables false
set_option linter.unusedSimpArgs false
set_option maxRecDepth 10000
set_option maxHeartbeats 0
namespace Go.Proofs.Ytleahjfgedfgmaa.Am
open Go Go.RowKit Go.Proofs
def numN (n : Nd) : Prop:=∀ c,chk 8 true n = some c → ∀ e ∈ c.1,numE e
def noT : Out:=⟨.tup [.d (.v (.pointer none)),.d (.v (.bool false))],[]⟩
noncomputable def ofOut (n : Nd) : Out:=if n = n0 then ⟨.tup [.d (tD [] n0),.d (.v (.bool true))],[]⟩ else match chk 8 true n with
  | some c=>if vRow 0 c.1 = true then ⟨.tup [.d (tD c.1 n),.d (.v (.bool true))],[]⟩ else noT
  | none=>noT
noncomputable def O0 : Env:=⟨Try.prog,fun f ds out=>(f = 43 ∧ Sp_tree_Node_empty ds out) ∨ (f = 29 ∧ Sp_tree_New ds out) ∨ (f = 44 ∧ Sp_tree_Node_depth ds out) ∨ (f = 45 ∧ Sp_tree_Node_items ds out) ∨ (f = 39 ∧ Sp_extent_Valid ds out) ∨ (f = 46 ∧ Sp_tree_Node_copied ds out),Es,fun _=>false,fun f vs lent out=>False,fun f=>none,fun f=>false,false,fun f=>none⟩
theorem O0_sp : ∀ f ds out,O0.Sp f ds out → Ent O0.P f ∧ Good O0.P f (fun a b=>a = ds ∧ b = out):=by
  rintro f ds out (⟨rfl,h⟩|⟨rfl,h⟩|⟨rfl,h⟩|⟨rfl,h⟩|⟨rfl,h⟩|⟨rfl,h⟩)
  · exact ⟨ent_tree_Node_empty,good_tree_Node_empty.one h⟩
  · exact ⟨ent_tree_New,good_tree_New.one h⟩
  · exact ⟨ent_tree_Node_depth,good_tree_Node_depth.one h⟩
  · exact ⟨ent_tree_Node_items,good_tree_Node_items.one h⟩
  · exact ⟨ent_extent_Valid,good_extent_Valid.one h⟩
  · exact ⟨ent_tree_Node_copied,good_tree_Node_copied.one h⟩
theorem O0_sm : ∀ f vs lent out,O0.Sm f vs lent out → Ent O0.P f ∧ GoodM O0.P f (fun a l b=>a = vs ∧ l = lent ∧ b = out):=fun _ _ _ _ h=>h.elim
theorem O0_at : ∀ f k,O0.At f = some k → AtomOk O0.P f k:=fun _ _ h=>nomatch h
theorem O0_ok : O0.Ok:=⟨O0_sp,Es_ok,O0_sm,O0_at⟩
def Sp_tree_Of (ds : List D) (out : Out) : Prop:=∃ (l : List Xt) (f : List Int) (p : List Nd),ds = [.agg [.list (l.map eD),.list (f.map mI),.list (p.map nD)]] ∧ SzN (.mk l f p) ∧ numN (.mk l f p) ∧ out = ofOut (.mk l f p)
theorem good_tree_Of : Good Try.prog 21 Sp_tree_Of:=by
  refine good_body (E:=O0) (nt:=21) (rs:=#[.tmp 2,.tmp 3]) Try.func21 rfl rfl rfl ?_
  rintro ds out ⟨l,f,p,rfl,hs,hn,rfl⟩
  refine ⟨by simp,?_⟩
  obtain ⟨s1,s2,s3,_⟩:=hs.open
  have hst : SzN (.mk l f p) = True:=eq_true hs
  by_cases h0 : Nd.mk l f p = n0
  · have hz : ofOut (.mk l f p) = ⟨.tup [.d (.ref (.agg [.list [],.list [],.list [],.list []])),.d (.v (.bool true))],[]⟩:=by unfold ofOut;rw [if_pos h0];rfl
    simp only [n0,Nd.mk.injEq] at h0
    have he : decide (l = [] ∧ f = [] ∧ p = []) = true:=decide_eq_true h0
    repeat' ((first
 | refine AW.seq ?_
 | refine AW.block ?_
 | refine AW.regl O0_ok [0,1,2,3,4,6,10,15] ?_
 | refine then_n ?_
 | refine then_r ?_
 | refine then_x ?_
 | refine block_x ?_
 | refine block_o (by decide) ?_
 | refine block_n ?_
 | refine block_r ?_
 | refine AW.skip ?_
 | refine AW.ret ?_
 | refine AW.exit ?_
 | refine AW.cond rfl ?_ ?_
 | refine awl_none rfl ?_
 | refine awl_nil2 ?_
 | (refine fun (hc : _ = _)=>?_;first|cases hc|((try rw [hc]);(try simp only [stH] at hc);(try (exfalso;omega)));(try (show Awl _ _ _ _ _;simp only [stU])))
 | ((first|refine fun (K : V → List _ → _) hK=>?_|refine fun (_ : V → V)=>?_);simp (maxSteps:=1000000) (disch:=omega) only [go_sem,Int.reduceEq,↓reduceIte,reduceCtorEq,Nat.reduceEqDiff,Nat.reduceLT,Nat.reduceLeDiff,Nat.reduceAdd,Nat.reduceSub,Nat.reduceMul,Int.reduceToNat,Int.reduceLE,Int.reduceLT,O0,Sp_tree_Node_empty,Sp_tree_New,Sp_tree_Node_depth,Sp_tree_Node_items,Sp_extent_Valid,Sp_tree_Node_copied,he,eD_inj,mI_inj,nD_inj];(try (revert hK;intro hK;(repeat' first|(refine And.intro ?_ ?_)|(intro hc;first|cases hc|((try rw [hc]);(try simp only [stH] at hc);(try (exfalso;omega)))));all_goals first|(refine hK _ _ ?_;clear hK K;simp only [stU])|exact hK|omega)))) <;> (fail_if_success (show False;skip)))
    all_goals (refine Ends.of (nm []) (by first|exact .inl rfl|exact .inr rfl) ?_;simp (maxSteps:=1000000) (disch:=omega) only [go_sem,Int.reduceEq,↓reduceIte,reduceCtorEq,Nat.reduceEqDiff,Nat.reduceLT,Nat.reduceLeDiff,Nat.reduceAdd,Nat.reduceSub,Nat.reduceMul,Int.reduceToNat,Int.reduceLE,Int.reduceLT,O0,Sp_tree_Node_empty,Sp_tree_New,Sp_tree_Node_depth,Sp_tree_Node_items,Sp_extent_Valid,Sp_tree_Node_copied,hz])
  have he : decide (l = [] ∧ f = [] ∧ p = []) = false:=decide_eq_false fun h=>h0 (by rw [h.1,h.2.1,h.2.2];rfl)
  cases hc : chk 8 true (.mk l f p) with
  | none =>
    have hz : ofOut (.mk l f p) = ⟨.tup [.d (.v (.pointer none)),.d (.v (.bool false))],[]⟩:=by unfold ofOut;rw [if_neg h0,hc];rfl
    have d0 : decide ((-1 : Int) < 0) = true:=by decide
    repeat' ((first
 | refine AW.seq ?_
 | refine AW.block ?_
 | refine AW.regl O0_ok [0,1,2,3,4,6,10,15] ?_
 | refine then_n ?_
 | refine then_r ?_
 | refine then_x ?_
 | refine block_x ?_
 | refine block_o (by decide) ?_
 | refine block_n ?_
 | refine block_r ?_
 | refine AW.skip ?_
 | refine AW.ret ?_
 | refine AW.exit ?_
 | refine AW.cond rfl ?_ ?_
 | refine awl_none rfl ?_
 | refine awl_nil2 ?_
 | (refine fun (hc : _ = _)=>?_;first|cases hc|((try rw [hc]);(try simp only [stH] at hc);(try (exfalso;omega)));(try (show Awl _ _ _ _ _;simp only [stU])))
 | ((first|refine fun (K : V → List _ → _) hK=>?_|refine fun (_ : V → V)=>?_);simp (maxSteps:=1000000) (disch:=omega) only [go_sem,Int.reduceEq,↓reduceIte,reduceCtorEq,Nat.reduceEqDiff,Nat.reduceLT,Nat.reduceLeDiff,Nat.reduceAdd,Nat.reduceSub,Nat.reduceMul,Int.reduceToNat,Int.reduceLE,Int.reduceLT,O0,Sp_tree_Node_empty,Sp_tree_New,Sp_tree_Node_depth,Sp_tree_Node_items,Sp_extent_Valid,Sp_tree_Node_copied,he,hst,hc,dv_n,d0,SpK_tree_Node_depth,Nat.le_refl,eD_inj,mI_inj,nD_inj];(try (revert hK;intro hK;(repeat' first|(refine And.intro ?_ ?_)|(intro hc;first|cases hc|((try rw [hc]);(try simp only [stH] at hc);(try (exfalso;omega)))));all_goals first|(refine hK _ _ ?_;clear hK K;simp only [stU])|exact hK|omega)))) <;> (fail_if_success (show False;skip)))
    all_goals (refine Ends.of (nm []) (by first|exact .inl rfl|exact .inr rfl) ?_;simp (maxSteps:=1000000) (disch:=omega) only [go_sem,Int.reduceEq,↓reduceIte,reduceCtorEq,Nat.reduceEqDiff,Nat.reduceLT,Nat.reduceLeDiff,Nat.reduceAdd,Nat.reduceSub,Nat.reduceMul,Int.reduceToNat,Int.reduceLE,Int.reduceLT,O0,Sp_tree_Node_empty,Sp_tree_New,Sp_tree_Node_depth,Sp_tree_Node_items,Sp_extent_Valid,Sp_tree_Node_copied,hz])
  | some c =>
    obtain ⟨r,d,m⟩:=c
    have hb:=chk_big8 (Nat.le_refl 8) hc
    have hd:=(chk_size hc).1
    obtain ⟨k1,k2⟩:=okc_8 (Nat.le_refl 8) hc
    have k1t : okc 8 (.mk l f p) = True:=eq_true k1
    have k3t : (okc 8 (.mk l f p) ∨ Nd.mk l f p = n0) = True:=eq_true (.inl k1)
    have hnt : (∀ e ∈ r,numE e) = True:=eq_true (hn _ hc)
    have d0 : decide ((d : Int) < 0) = false:=decide_eq_false (by omega)
    have t1 : (r.map eD).take r.length = r.map eD:=List.take_of_length_le (by simp)
    have t2 : (l.map eD).take l.length = l.map eD:=List.take_of_length_le (by simp)
    have t3 : (f.map mI).take f.length = f.map mI:=List.take_of_length_le (by simp)
    have t4 : (p.map nD).take p.length = p.map nD:=List.take_of_length_le (by simp)
    cases hv : vRow 0 r with
    | false =>
      have hz : ofOut (.mk l f p) = ⟨.tup [.d (.v (.pointer none)),.d (.v (.bool false))],[]⟩:=by unfold ofOut;rw [if_neg h0,hc];simp only;rw [if_neg (by rw [hv];decide)];rfl
      repeat' ((first
 | refine AW.seq ?_
 | refine AW.block ?_
 | refine AW.regl O0_ok [0,1,2,3,4,6,10,15] ?_
 | refine then_n ?_
 | refine then_r ?_
 | refine then_x ?_
 | refine block_x ?_
 | refine block_o (by decide) ?_
 | refine block_n ?_
 | refine block_r ?_
 | refine AW.skip ?_
 | refine AW.ret ?_
 | refine AW.exit ?_
 | refine AW.cond rfl ?_ ?_
 | refine awl_none rfl ?_
 | refine awl_nil2 ?_
 | (refine fun (hc : _ = _)=>?_;first|cases hc|((try rw [hc]);(try simp only [stH] at hc);(try (exfalso;omega)));(try (show Awl _ _ _ _ _;simp only [stU])))
 | ((first|refine fun (K : V → List _ → _) hK=>?_|refine fun (_ : V → V)=>?_);simp (maxSteps:=1000000) (disch:=omega) only [go_sem,Int.reduceEq,↓reduceIte,reduceCtorEq,Nat.reduceEqDiff,Nat.reduceLT,Nat.reduceLeDiff,Nat.reduceAdd,Nat.reduceSub,Nat.reduceMul,Int.reduceToNat,Int.reduceLE,Int.reduceLT,O0,Sp_tree_Node_empty,Sp_tree_New,Sp_tree_Node_depth,Sp_tree_Node_items,Sp_extent_Valid,Sp_tree_Node_copied,t1,he,hst,hc,dv_s,d0,k1t,ckR_s,hnt,hv,SpK_tree_Node_depth,SpK_tree_Node_items,Nat.le_refl,eD_inj,mI_inj,nD_inj];(try (revert hK;intro hK;(repeat' first|(refine And.intro ?_ ?_)|(intro hc;first|cases hc|((try rw [hc]);(try simp only [stH] at hc);(try (exfalso;omega)))));all_goals first|(refine hK _ _ ?_;clear hK K;simp only [stU])|exact hK|omega)))) <;> (fail_if_success (show False;skip)))
      all_goals (refine Ends.of (nm []) (by first|exact .inl rfl|exact .inr rfl) ?_;simp (maxSteps:=1000000) (disch:=omega) only [go_sem,Int.reduceEq,↓reduceIte,reduceCtorEq,Nat.reduceEqDiff,Nat.reduceLT,Nat.reduceLeDiff,Nat.reduceAdd,Nat.reduceSub,Nat.reduceMul,Int.reduceToNat,Int.reduceLE,Int.reduceLT,O0,Sp_tree_Node_empty,Sp_tree_New,Sp_tree_Node_depth,Sp_tree_Node_items,Sp_extent_Valid,Sp_tree_Node_copied,hz])
    | true =>
      have hz : ofOut (.mk l f p) = ⟨.tup [.d (.ref (.agg [.list (r.map eD),.list (l.map eD),.list (f.map mI),.list (p.map nD)])),.d (.v (.bool true))],[]⟩:=by unfold ofOut;rw [if_neg h0,hc];simp only;rw [if_pos hv];rfl
      repeat' ((first
 | refine AW.seq ?_
 | refine AW.block ?_
 | refine AW.regl O0_ok [0,1,2,3,4,6,10,15] ?_
 | refine then_n ?_
 | refine then_r ?_
 | refine then_x ?_
 | refine block_x ?_
 | refine block_o (by decide) ?_
 | refine block_n ?_
 | refine block_r ?_
 | refine AW.skip ?_
 | refine AW.ret ?_
 | refine AW.exit ?_
 | refine AW.cond rfl ?_ ?_
 | refine awl_none rfl ?_
 | refine awl_nil2 ?_
 | (refine fun (hc : _ = _)=>?_;first|cases hc|((try rw [hc]);(try simp only [stH] at hc);(try (exfalso;omega)));(try (show Awl _ _ _ _ _;simp only [stU])))
 | ((first|refine fun (K : V → List _ → _) hK=>?_|refine fun (_ : V → V)=>?_);simp (maxSteps:=1000000) (disch:=omega) only [go_sem,Int.reduceEq,↓reduceIte,reduceCtorEq,Nat.reduceEqDiff,Nat.reduceLT,Nat.reduceLeDiff,Nat.reduceAdd,Nat.reduceSub,Nat.reduceMul,Int.reduceToNat,Int.reduceLE,Int.reduceLT,O0,Sp_tree_Node_empty,Sp_tree_New,Sp_tree_Node_depth,Sp_tree_Node_items,Sp_extent_Valid,Sp_tree_Node_copied,t1,he,hst,hc,dv_s,d0,k1t,k3t,ckR_s,hnt,hv,SpK_tree_Node_depth,SpK_tree_Node_items,SpK_tree_Node_copied,Nat.le_refl,eD_inj,mI_inj,nD_inj];(try (revert hK;intro hK;(repeat' first|(refine And.intro ?_ ?_)|(intro hc;first|cases hc|((try rw [hc]);(try simp only [stH] at hc);(try (exfalso;omega)))));all_goals first|(refine hK _ _ ?_;clear hK K;simp only [stU])|exact hK|omega)))) <;> (fail_if_success (show False;skip)))
      refine Ends.weak (fun w0 oa aa w hs=>frzP_sr 2 (id:=20) (l:=[.sl 12 5 0 r.length true,.sl 18 5 0 l.length true,.sl 1018 1 0 f.length true,.sl 2018 3 0 p.length true]) (ds:=[.list (r.map eD),.list (l.map eD),.list (f.map mI),.list (p.map nD)]) rfl rfl (by simp [toDs,toD1,go,t1,t2,t3,t4]) (by simp [idsV]) (by simp) hs) ?_
      (refine Ends.of (nm []) (by first|exact .inl rfl|exact .inr rfl) ?_;simp (maxSteps:=1000000) (disch:=omega) only [go_sem,Int.reduceEq,↓reduceIte,reduceCtorEq,Nat.reduceEqDiff,Nat.reduceLT,Nat.reduceLeDiff,Nat.reduceAdd,Nat.reduceSub,Nat.reduceMul,Int.reduceToNat,Int.reduceLE,Int.reduceLT,O0,Sp_tree_Node_empty,Sp_tree_New,Sp_tree_Node_depth,Sp_tree_Node_items,Sp_extent_Valid,Sp_tree_Node_copied,hz])
theorem ent_tree_Of : Ent Try.prog 21:=⟨_,Try.func21,rfl,by decide⟩
theorem okT_of {row l : List Xt} {f : List Int} {p : List Nd} (h : okT row (.mk l f p)) : numN (.mk l f p) ∧ ∃ t,ofOut (.mk l f p) = ⟨.tup [.d t,.d (.v (.bool true))],[]⟩ ∧ t = tD row (.mk l f p):=by
  rcases h.r with ⟨h1,h2⟩|⟨d,m,hc⟩
  · refine ⟨fun c hc=>?_,tD [] n0,?_,by rw [h1,h2]⟩
    · rw [h2] at hc
      rcases chk_open hc with ⟨_,_,h,_⟩|⟨h,_⟩
      · simp [lst] at h
      · exact absurd rfl h
    · unfold ofOut;rw [if_pos h2]
  · refine ⟨fun c hc'=>?_,tD row (.mk l f p),?_,rfl⟩
    · rw [hc] at hc';cases hc';exact v_num h.v
    · unfold ofOut;rw [if_neg (okT_ne hc),hc];simp only;rw [if_pos h.v]
noncomputable def O1 : Env:=⟨Try.prog,fun f ds out=>(f = 21 ∧ Sp_tree_Of ds out) ∨ (f = 39 ∧ Sp_extent_Valid ds out),Es,fun _=>false,fun f vs lent out=>False,fun f=>none,fun f=>false,false,fun f=>none⟩
theorem O1_sp : ∀ f ds out,O1.Sp f ds out → Ent O1.P f ∧ Good O1.P f (fun a b=>a = ds ∧ b = out):=by
  rintro f ds out (⟨rfl,h⟩|⟨rfl,h⟩)
  · exact ⟨ent_tree_Of,good_tree_Of.one h⟩
  · exact ⟨ent_extent_Valid,good_extent_Valid.one h⟩
theorem O1_sm : ∀ f vs lent out,O1.Sm f vs lent out → Ent O1.P f ∧ GoodM O1.P f (fun a l b=>a = vs ∧ l = lent ∧ b = out):=fun _ _ _ _ h=>h.elim
theorem O1_at : ∀ f k,O1.At f = some k → AtomOk O1.P f k:=fun _ _ h=>nomatch h
theorem O1_ok : O1.Ok:=⟨O1_sp,Es_ok,O1_sm,O1_at⟩
def Sp_tree_Tree_Right (ds : List D) (out : Out) : Prop:=∃ (row l : List Xt) (f : List Int) (p : List Nd),ds = [.ref (.agg [.list (row.map eD),.list (l.map eD),.list (f.map mI),.list (p.map nD)])] ∧ okT row (.mk l f p) ∧ out = ⟨.d (.v (.bool true)),[]⟩
theorem good_tree_Tree_Right : Good Try.prog 33 Sp_tree_Tree_Right:=by
  refine good_body (E:=O1) (nt:=21) (rs:=#[.tmp 2]) Try.func33 rfl rfl rfl ?_
  rintro ds out ⟨row,l,f,p,rfl,hok,rfl⟩
  refine ⟨by simp,?_⟩
  have hst : SzN (.mk l f p) = True:=eq_true hok.s
  obtain ⟨hn,t,ho,ht⟩:=okT_of hok
  have hnt : numN (.mk l f p) = True:=eq_true hn
  have hv:=hok.v
  have hl:=v_len hv
  have hnu : (∀ e ∈ row,numE e) = True:=eq_true (v_num hv)
  have ho : ofOut (.mk l f p) = ⟨.tup [.d (.ref (.agg [.list (row.map eD),.list (l.map eD),.list (f.map mI),.list (p.map nD)])),.d (.v (.bool true))],[]⟩:=by rw [ho,ht];rfl
  repeat' ((first
 | refine AW.seq ?_
 | refine AW.block ?_
 | refine AW.regl O1_ok [0,2,4] ?_
 | refine then_n ?_
 | refine then_r ?_
 | refine then_x ?_
 | refine block_x ?_
 | refine block_o (by decide) ?_
 | refine block_n ?_
 | refine block_r ?_
 | refine AW.skip ?_
 | refine AW.ret ?_
 | refine AW.exit ?_
 | refine AW.cond rfl ?_ ?_
 | refine awl_none rfl ?_
 | refine awl_nil2 ?_
 | refine awl_some rfl rfl (Nat.le_of_ble_eq_true rfl) rfl rfl ?_ ?_
 | (refine fun (hc : _ = _)=>?_;first|cases hc|((try rw [hc]);(try simp only [stH] at hc);(try (exfalso;omega)));(try (show Awl _ _ _ _ _;simp only [stU])))
 | ((first|refine fun (K : V → List _ → _) hK=>?_|refine fun (_ : V → V)=>?_);simp (maxSteps:=1000000) (disch:=omega) only [go_sem,Int.reduceEq,↓reduceIte,reduceCtorEq,Nat.reduceEqDiff,Nat.reduceLT,Nat.reduceLeDiff,Nat.reduceAdd,Nat.reduceSub,Nat.reduceMul,Int.reduceToNat,Int.reduceLE,Int.reduceLT,O1,Sp_tree_Of,Sp_extent_Valid,hst,hnt,ho,hv,hnu,eD_inj,mI_inj,nD_inj];(try (revert hK;intro hK;(repeat' first|(refine And.intro ?_ ?_)|(intro hc;first|cases hc|((try rw [hc]);(try simp only [stH] at hc);(try (exfalso;omega)))));all_goals first|(refine hK _ _ ?_;clear hK K;simp only [stU])|exact hK|omega)))) <;> (fail_if_success (show False;skip)))
  all_goals (refine Ends.of (nm []) (by first|exact .inl rfl|exact .inr rfl) ?_;simp (maxSteps:=1000000) (disch:=omega) only [go_sem,Int.reduceEq,↓reduceIte,reduceCtorEq,Nat.reduceEqDiff,Nat.reduceLT,Nat.reduceLeDiff,Nat.reduceAdd,Nat.reduceSub,Nat.reduceMul,Int.reduceToNat,Int.reduceLE,Int.reduceLT,O1,Sp_tree_Of,Sp_extent_Valid])
theorem ent_tree_Tree_Right : Ent Try.prog 33:=⟨_,Try.func33,rfl,by decide⟩
end Go.Proofs.Ytleahjfgedfgmaa.Am
