import Derived.Test.YtleahjfgedfgmaaZT4
import Derived.Test.YtleahjfgedfgmaaZT5
import Derived.Test.YtleahjfgedfgmaaZT6
set_option linter.unusedVariables false
set_option linter.unusedSimpArgs false
set_option maxRecDepth 10000
set_option maxHeartbeats 0
namespace Go.Proofs.Ytleahjfgedfgmaa.Am
open Go Go.RowKit Go.Proofs
def tD (row : List Xt) : Nd → D
  | .mk l f p=>.ref (.agg [.list (row.map eD),.list (l.map eD),.list (f.map mI),.list (p.map nD)])
structure okT (row : List Xt) (n : Nd) : Prop where
  v : vRow 0 row = true
  s : SzN n
  r : (row = [] ∧ n = n0) ∨ ∃ d m,chk 8 true n = some (row,d,m)
theorem chk_sz : ∀ {k : Nat} {top : Bool} {n : Nd} {c : Ck},chk k top n = some c → SzN n
  | 0,_,_,_,h=>by cases h
  | k + 1,top,.mk l f p,(r,d,m),h=>by
    obtain ⟨d',q,hq,h1,h2,h3,h4,h5⟩:=chk_uni h
    refine .mk _ _ _ (by omega) (by omega) (by omega) fun x hx=>?_
    obtain ⟨i,hi,rfl⟩:=List.getElem_of_mem hx
    obtain ⟨r,m,hc,_⟩:=chkP_get hq i hi
    rw [List.getD_eq_getElem?_getD,List.getElem?_eq_getElem hi] at hc
    exact chk_sz hc
theorem szn0 : SzN n0:=.mk _ _ _ (by simp) (by simp) (by simp) (by simp)
theorem okT_made {l : List Xt} (h : vRow 0 l = true) : okT l (madeN l):=by
  have hl:=v_len h
  rcases made_ok hl with ⟨h1,h2⟩|⟨d,m,hc⟩
  · exact ⟨h,by rw [h2];exact szn0,.inl ⟨h1,h2⟩⟩
  · exact ⟨h,chk_sz hc,.inr ⟨d,m,hc⟩⟩
def fromOut (l : List Xt) : Out:=if vRow 0 l = true then ⟨.tup [.d (tD l (madeN l)),.d (.v (.int .i64 0))],[]⟩ else ⟨.tup [.d (.v (.pointer none)),.d (.v (.int .i64 1))],[]⟩
noncomputable def V0 : Env:=⟨Try.prog,fun f ds out=>False,Es,fun _=>false,fun f vs lent out=>False,fun f=>none,fun f=>false,false,fun f=>none⟩
theorem V0_sp : ∀ f ds out,V0.Sp f ds out → Ent V0.P f ∧ Good V0.P f (fun a b=>a = ds ∧ b = out):=fun _ _ _ h=>h.elim
theorem V0_sm : ∀ f vs lent out,V0.Sm f vs lent out → Ent V0.P f ∧ GoodM V0.P f (fun a l b=>a = vs ∧ l = lent ∧ b = out):=fun _ _ _ _ h=>h.elim
theorem V0_at : ∀ f k,V0.At f = some k → AtomOk V0.P f k:=fun _ _ h=>nomatch h
theorem V0_ok : V0.Ok:=⟨V0_sp,Es_ok,V0_sm,V0_at⟩
def Sp_tree_New (ds : List D) (out : Out) : Prop:=ds = [] ∧ out = ⟨.d (.ref (.agg [.list [],.list [],.list [],.list []])),[]⟩
theorem good_tree_New : Good Try.prog 29 Sp_tree_New:=by
  refine good_body (E:=V0) (nt:=3) (rs:=#[.tmp 0]) Try.func29 rfl rfl rfl ?_
  rintro ds out ⟨rfl,rfl⟩
  refine ⟨by simp,?_⟩
  repeat' first
 | refine AW.seq ?_
 | refine AW.block ?_
 | refine AW.regl V0_ok [0] ?_
 | refine then_n ?_
 | refine then_r ?_
 | refine then_x ?_
 | refine block_x ?_
 | refine block_o (by decide) ?_
 | refine block_n ?_
 | refine block_r ?_
 | refine AW.skip ?_
 | refine AW.ret ?_
 | refine AW.exit ?_
 | refine AW.cond rfl ?_ ?_
 | refine awl_none rfl ?_
 | refine awl_nil2 ?_
 | (refine fun (hc : _ = _)=>?_;first|cases hc|((try rw [hc]);(try simp only [stH] at hc);(try (exfalso;omega)));(try (show Awl _ _ _ _ _;simp only [stU])))
 | ((first|refine fun (K : V → List _ → _) hK=>?_|refine fun (_ : V → V)=>?_);simp (maxSteps:=1000000) (disch:=omega) only [go_sem,Int.reduceEq,↓reduceIte,reduceCtorEq,Nat.reduceEqDiff,Nat.reduceLT,Nat.reduceLeDiff,Nat.reduceAdd,Nat.reduceSub,Nat.reduceMul,Int.reduceToNat,Int.reduceLE,Int.reduceLT,V0];(try (revert hK;intro hK;(repeat' first|(refine And.intro ?_ ?_)|(intro hc;first|cases hc|((try rw [hc]);(try simp only [stH] at hc);(try (exfalso;omega)))));all_goals first|(refine hK _ _ ?_;clear hK K;simp only [stU])|exact hK|omega)))
  refine Ends.weak (fun w0 oa aa w hs=>frzP_sr 0 (id:=2) (l:=[.nil,.nil,.nil,.nil]) (ds:=[.list [],.list [],.list [],.list []]) rfl rfl rfl (by decide) (by decide) hs) ?_
  (refine Ends.of (nm []) (by first|exact .inl rfl|exact .inr rfl) ?_;simp (maxSteps:=1000000) (disch:=omega) only [go_sem,Int.reduceEq,↓reduceIte,reduceCtorEq,Nat.reduceEqDiff,Nat.reduceLT,Nat.reduceLeDiff,Nat.reduceAdd,Nat.reduceSub,Nat.reduceMul,Int.reduceToNat,Int.reduceLE,Int.reduceLT,V0])
theorem ent_tree_New : Ent Try.prog 29:=⟨_,Try.func29,rfl,by decide⟩
noncomputable def V1 : Env:=⟨Try.prog,fun f ds out=>(f = 39 ∧ Sp_extent_Valid ds out) ∨ (f = 40 ∧ Sp_tree_fresh ds out) ∨ (f = 41 ∧ Sp_tree_made ds out),Es,fun _=>false,fun f vs lent out=>False,fun f=>none,fun f=>false,false,fun f=>none⟩
theorem V1_sp : ∀ f ds out,V1.Sp f ds out → Ent V1.P f ∧ Good V1.P f (fun a b=>a = ds ∧ b = out):=by
  rintro f ds out (⟨rfl,h⟩|⟨rfl,h⟩|⟨rfl,h⟩)
  · exact ⟨ent_extent_Valid,good_extent_Valid.one h⟩
  · exact ⟨ent_tree_fresh,good_tree_fresh.one h⟩
  · exact ⟨ent_tree_made,good_tree_made.one h⟩
theorem V1_sm : ∀ f vs lent out,V1.Sm f vs lent out → Ent V1.P f ∧ GoodM V1.P f (fun a l b=>a = vs ∧ l = lent ∧ b = out):=fun _ _ _ _ h=>h.elim
theorem V1_at : ∀ f k,V1.At f = some k → AtomOk V1.P f k:=fun _ _ h=>nomatch h
theorem V1_ok : V1.Ok:=⟨V1_sp,Es_ok,V1_sm,V1_at⟩
def Sp_tree_From (ds : List D) (out : Out) : Prop:=∃ l : List Xt,ds = [.list (l.map eD)] ∧ l.length ≤ 1000000 ∧ (∀ e ∈ l,numE e) ∧ out = fromOut l
theorem good_tree_From : Good Try.prog 16 Sp_tree_From:=by
  refine good_body (E:=V1) (nt:=13) (rs:=#[.tmp 2,.tmp 3]) Try.func16 rfl rfl rfl ?_
  rintro ds out ⟨l,rfl,hl,hn,rfl⟩
  refine ⟨by simp,?_⟩
  have hnt : (∀ e ∈ l,numE e) = True:=eq_true hn
  cases hv : vRow 0 l with
  | false =>
    have hz : fromOut l = ⟨.tup [.d (.v (.pointer none)),.d (.v (.int .i64 1))],[]⟩:=by unfold fromOut;rw [if_neg (by rw [hv];decide)]
    repeat' ((first
 | refine AW.seq ?_
 | refine AW.block ?_
 | refine AW.regl V1_ok [0,2,3,6] ?_
 | refine then_n ?_
 | refine then_r ?_
 | refine then_x ?_
 | refine block_x ?_
 | refine block_o (by decide) ?_
 | refine block_n ?_
 | refine block_r ?_
 | refine AW.skip ?_
 | refine AW.ret ?_
 | refine AW.exit ?_
 | refine AW.cond rfl ?_ ?_
 | refine awl_none rfl ?_
 | refine awl_nil2 ?_
 | (refine fun (hc : _ = _)=>?_;first|cases hc|((try rw [hc]);(try simp only [stH] at hc);(try (exfalso;omega)));(try (show Awl _ _ _ _ _;simp only [stU])))
 | ((first|refine fun (K : V → List _ → _) hK=>?_|refine fun (_ : V → V)=>?_);simp (maxSteps:=1000000) (disch:=omega) only [go_sem,Int.reduceEq,↓reduceIte,reduceCtorEq,Nat.reduceEqDiff,Nat.reduceLT,Nat.reduceLeDiff,Nat.reduceAdd,Nat.reduceSub,Nat.reduceMul,Int.reduceToNat,Int.reduceLE,Int.reduceLT,V1,Sp_extent_Valid,Sp_tree_fresh,Sp_tree_made,hnt,hv,eD_inj];(try (revert hK;intro hK;(repeat' first|(refine And.intro ?_ ?_)|(intro hc;first|cases hc|((try rw [hc]);(try simp only [stH] at hc);(try (exfalso;omega)))));all_goals first|(refine hK _ _ ?_;clear hK K;simp only [stU])|exact hK|omega)))) <;> (fail_if_success (show False;skip)))
    all_goals (refine Ends.of (nm []) (by first|exact .inl rfl|exact .inr rfl) ?_;simp (maxSteps:=1000000) (disch:=omega) only [go_sem,Int.reduceEq,↓reduceIte,reduceCtorEq,Nat.reduceEqDiff,Nat.reduceLT,Nat.reduceLeDiff,Nat.reduceAdd,Nat.reduceSub,Nat.reduceMul,Int.reduceToNat,Int.reduceLE,Int.reduceLT,V1,Sp_extent_Valid,Sp_tree_fresh,Sp_tree_made,hz])
  | true =>
    have hl2:=v_len hv
    obtain ⟨⟨l1,f1,p1⟩,hm⟩ : ∃ n,madeN l = n:=⟨_,rfl⟩
    have hz : fromOut l = ⟨.tup [.d (.ref (.agg [.list (l.map eD),.list (l1.map eD),.list (f1.map mI),.list (p1.map nD)])),.d (.v (.int .i64 0))],[]⟩:=by unfold fromOut;rw [if_pos hv,hm];rfl
    have ht : (l.map eD).take l.length = l.map eD:=List.take_of_length_le (by simp)
    by_cases h0 : l = []
    · have hmo : madeOut l = ⟨.agg [.nil,.nil,.nil],[]⟩:=by unfold madeOut;rw [if_pos h0]
      have he : l1 = [] ∧ f1 = [] ∧ p1 = []:=by
        subst h0
        have : madeN [] = n0:=rfl
        rw [this] at hm
        cases hm;exact ⟨rfl,rfl,rfl⟩
      obtain ⟨rfl,rfl,rfl⟩:=he
      repeat' ((first
 | refine AW.seq ?_
 | refine AW.block ?_
 | refine AW.regl V1_ok [0,2,3,6] ?_
 | refine then_n ?_
 | refine then_r ?_
 | refine then_x ?_
 | refine block_x ?_
 | refine block_o (by decide) ?_
 | refine block_n ?_
 | refine block_r ?_
 | refine AW.skip ?_
 | refine AW.ret ?_
 | refine AW.exit ?_
 | refine AW.cond rfl ?_ ?_
 | refine awl_none rfl ?_
 | refine awl_nil2 ?_
 | (refine fun (hc : _ = _)=>?_;first|cases hc|((try rw [hc]);(try simp only [stH] at hc);(try (exfalso;omega)));(try (show Awl _ _ _ _ _;simp only [stU])))
 | ((first|refine fun (K : V → List _ → _) hK=>?_|refine fun (_ : V → V)=>?_);simp (maxSteps:=1000000) (disch:=omega) only [go_sem,Int.reduceEq,↓reduceIte,reduceCtorEq,Nat.reduceEqDiff,Nat.reduceLT,Nat.reduceLeDiff,Nat.reduceAdd,Nat.reduceSub,Nat.reduceMul,Int.reduceToNat,Int.reduceLE,Int.reduceLT,V1,Sp_extent_Valid,Sp_tree_fresh,Sp_tree_made,hnt,hv,hmo,eD_inj];(try (revert hK;intro hK;(repeat' first|(refine And.intro ?_ ?_)|(intro hc;first|cases hc|((try rw [hc]);(try simp only [stH] at hc);(try (exfalso;omega)))));all_goals first|(refine hK _ _ ?_;clear hK K;simp only [stU])|exact hK|omega)))) <;> (fail_if_success (show False;skip)))
      refine Ends.weak (fun w0 oa aa w hs=>frzP_sr 2 (id:=12) (l:=[.sl 8 5 0 l.length true,.nil,.nil,.nil]) (ds:=[.list (l.map eD),.list [],.list [],.list []]) rfl rfl (by simp [toDs,toD1,go,ht]) (by simp [idsV]) (by simp) hs) ?_
      (refine Ends.of (nm []) (by first|exact .inl rfl|exact .inr rfl) ?_;simp (maxSteps:=1000000) (disch:=omega) only [go_sem,Int.reduceEq,↓reduceIte,reduceCtorEq,Nat.reduceEqDiff,Nat.reduceLT,Nat.reduceLeDiff,Nat.reduceAdd,Nat.reduceSub,Nat.reduceMul,Int.reduceToNat,Int.reduceLE,Int.reduceLT,V1,Sp_extent_Valid,Sp_tree_fresh,Sp_tree_made,hz])
    · have hmo : madeOut l = ⟨.agg [.d (.list (l1.map eD)),.d (.list (f1.map mI)),.d (.list (p1.map nD))],[]⟩:=by unfold madeOut;rw [if_neg h0,hm];rfl
      repeat' ((first
 | refine AW.seq ?_
 | refine AW.block ?_
 | refine AW.regl V1_ok [0,2,3,6] ?_
 | refine then_n ?_
 | refine then_r ?_
 | refine then_x ?_
 | refine block_x ?_
 | refine block_o (by decide) ?_
 | refine block_n ?_
 | refine block_r ?_
 | refine AW.skip ?_
 | refine AW.ret ?_
 | refine AW.exit ?_
 | refine AW.cond rfl ?_ ?_
 | refine awl_none rfl ?_
 | refine awl_nil2 ?_
 | (refine fun (hc : _ = _)=>?_;first|cases hc|((try rw [hc]);(try simp only [stH] at hc);(try (exfalso;omega)));(try (show Awl _ _ _ _ _;simp only [stU])))
 | ((first|refine fun (K : V → List _ → _) hK=>?_|refine fun (_ : V → V)=>?_);simp (maxSteps:=1000000) (disch:=omega) only [go_sem,Int.reduceEq,↓reduceIte,reduceCtorEq,Nat.reduceEqDiff,Nat.reduceLT,Nat.reduceLeDiff,Nat.reduceAdd,Nat.reduceSub,Nat.reduceMul,Int.reduceToNat,Int.reduceLE,Int.reduceLT,V1,Sp_extent_Valid,Sp_tree_fresh,Sp_tree_made,hnt,hv,hmo,eD_inj];(try (revert hK;intro hK;(repeat' first|(refine And.intro ?_ ?_)|(intro hc;first|cases hc|((try rw [hc]);(try simp only [stH] at hc);(try (exfalso;omega)))));all_goals first|(refine hK _ _ ?_;clear hK K;simp only [stU])|exact hK|omega)))) <;> (fail_if_success (show False;skip)))
      refine Ends.weak (fun w0 oa aa w hs=>frzP_sr 2 (id:=12) (l:=[.sl 8 5 0 l.length true,.d (.list (l1.map eD)),.d (.list (f1.map mI)),.d (.list (p1.map nD))]) (ds:=[.list (l.map eD),.list (l1.map eD),.list (f1.map mI),.list (p1.map nD)]) rfl rfl (by simp [toDs,toD1,go,ht]) (by simp [idsV]) (by simp) hs) ?_
      (refine Ends.of (nm []) (by first|exact .inl rfl|exact .inr rfl) ?_;simp (maxSteps:=1000000) (disch:=omega) only [go_sem,Int.reduceEq,↓reduceIte,reduceCtorEq,Nat.reduceEqDiff,Nat.reduceLT,Nat.reduceLeDiff,Nat.reduceAdd,Nat.reduceSub,Nat.reduceMul,Int.reduceToNat,Int.reduceLE,Int.reduceLT,V1,Sp_extent_Valid,Sp_tree_fresh,Sp_tree_made,hz])
theorem ent_tree_From : Ent Try.prog 16:=⟨_,Try.func16,rfl,by decide⟩
noncomputable def V2 : Env:=⟨Try.prog,fun f ds out=>(f = 40 ∧ Sp_tree_fresh ds out) ∨ (f = 47 ∧ Sp_extent_End ds out) ∨ (f = 48 ∧ Sp_extent_Cut ds out) ∨ (f = 49 ∧ Sp_extent_Find ds out) ∨ (f = 50 ∧ Sp_extent_Splice ds out) ∨ (f = 16 ∧ Sp_tree_From ds out) ∨ (f = 43 ∧ Sp_tree_Node_empty ds out) ∨ (f = 51 ∧ Sp_tree_Node_count ds out) ∨ (f = 46 ∧ Sp_tree_Node_copied ds out),Es,fun f=>decide (f = 16),fun f vs lent out=>False,fun f=>none,fun f=>false,false,fun f=>none⟩
theorem V2_sp : ∀ f ds out,V2.Sp f ds out → Ent V2.P f ∧ Good V2.P f (fun a b=>a = ds ∧ b = out):=by
  rintro f ds out (⟨rfl,h⟩|⟨rfl,h⟩|⟨rfl,h⟩|⟨rfl,h⟩|⟨rfl,h⟩|⟨rfl,h⟩|⟨rfl,h⟩|⟨rfl,h⟩|⟨rfl,h⟩)
  · exact ⟨ent_tree_fresh,good_tree_fresh.one h⟩
  · exact ⟨ent_extent_End,good_extent_End.one h⟩
  · exact ⟨ent_extent_Cut,good_extent_Cut.one h⟩
  · exact ⟨ent_extent_Find,good_extent_Find.one h⟩
  · exact ⟨ent_extent_Splice,good_extent_Splice.one h⟩
  · exact ⟨ent_tree_From,good_tree_From.one h⟩
  · exact ⟨ent_tree_Node_empty,good_tree_Node_empty.one h⟩
  · exact ⟨ent_tree_Node_count,good_tree_Node_count.one h⟩
  · exact ⟨ent_tree_Node_copied,good_tree_Node_copied.one h⟩
theorem V2_sm : ∀ f vs lent out,V2.Sm f vs lent out → Ent V2.P f ∧ GoodM V2.P f (fun a l b=>a = vs ∧ l = lent ∧ b = out):=fun _ _ _ _ h=>h.elim
theorem V2_at : ∀ f k,V2.At f = some k → AtomOk V2.P f k:=fun _ _ h=>nomatch h
theorem V2_ok : V2.Ok:=⟨V2_sp,Es_ok,V2_sm,V2_at⟩
def Sp_tree_Tree_All (ds : List D) (out : Out) : Prop:=∃ (row l : List Xt) (f : List Int) (p : List Nd),ds = [.ref (.agg [.list (row.map eD),.list (l.map eD),.list (f.map mI),.list (p.map nD)])] ∧ row.length ≤ 1000000 ∧ out = ⟨.sl 0 5 0 row.length true,[(0,.row 25 5 (row.map eD))]⟩
theorem good_tree_Tree_All : Good Try.prog 28 Sp_tree_Tree_All:=by
  refine good_body (E:=V2) (nt:=8) (rs:=#[.tmp 2]) Try.func28 rfl rfl rfl ?_
  rintro ds out ⟨row,l,f,p,rfl,hl,rfl⟩
  refine ⟨by simp,?_⟩
  repeat' ((first
 | refine AW.seq ?_
 | refine AW.block ?_
 | refine AW.regl V2_ok [0,2] ?_
 | refine then_n ?_
 | refine then_r ?_
 | refine then_x ?_
 | refine block_x ?_
 | refine block_o (by decide) ?_
 | refine block_n ?_
 | refine block_r ?_
 | refine AW.skip ?_
 | refine AW.ret ?_
 | refine AW.exit ?_
 | refine AW.cond rfl ?_ ?_
 | refine awl_none rfl ?_
 | refine awl_nil2 ?_
 | (refine fun (hc : _ = _)=>?_;first|cases hc|((try rw [hc]);(try simp only [stH] at hc);(try (exfalso;omega)));(try (show Awl _ _ _ _ _;simp only [stU])))
 | ((first|refine fun (K : V → List _ → _) hK=>?_|refine fun (_ : V → V)=>?_);simp (maxSteps:=1000000) (disch:=omega) only [go_sem,Int.reduceEq,↓reduceIte,reduceCtorEq,Nat.reduceEqDiff,Nat.reduceLT,Nat.reduceLeDiff,Nat.reduceAdd,Nat.reduceSub,Nat.reduceMul,Int.reduceToNat,Int.reduceLE,Int.reduceLT,V2,Sp_tree_fresh,eD_inj];(try (revert hK;intro hK;(repeat' first|(refine And.intro ?_ ?_)|(intro hc;first|cases hc|((try rw [hc]);(try simp only [stH] at hc);(try (exfalso;omega)))));all_goals first|(refine hK _ _ ?_;clear hK K;simp only [stU])|exact hK|omega)))) <;> (fail_if_success (show False;skip)))
  all_goals (refine Ends.of (nm [(0,7)]) (by first|exact .inl rfl|exact .inr rfl) ?_;simp (maxSteps:=1000000) (disch:=omega) only [go_sem,Int.reduceEq,↓reduceIte,reduceCtorEq,Nat.reduceEqDiff,Nat.reduceLT,Nat.reduceLeDiff,Nat.reduceAdd,Nat.reduceSub,Nat.reduceMul,Int.reduceToNat,Int.reduceLE,Int.reduceLT,V2,Sp_tree_fresh])
theorem ent_tree_Tree_All : Ent Try.prog 28:=⟨_,Try.func28,rfl,by decide⟩
def Sp_tree_Tree_Len (ds : List D) (out : Out) : Prop:=∃ (row l : List Xt) (f : List Int) (p : List Nd),ds = [.ref (.agg [.list (row.map eD),.list (l.map eD),.list (f.map mI),.list (p.map nD)])] ∧ row.length ≤ 1000000 ∧ out = ⟨.d (.v (.int .i64 row.length)),[]⟩
theorem good_tree_Tree_Len : Good Try.prog 34 Sp_tree_Tree_Len:=by
  refine good_body (E:=V2) (nt:=8) (rs:=#[.tmp 2]) Try.func34 rfl rfl rfl ?_
  rintro ds out ⟨row,l,f,p,rfl,hl,rfl⟩
  refine ⟨by simp,?_⟩
  repeat' ((first
 | refine AW.seq ?_
 | refine AW.block ?_
 | refine AW.regl V2_ok [0,2] ?_
 | refine then_n ?_
 | refine then_r ?_
 | refine then_x ?_
 | refine block_x ?_
 | refine block_o (by decide) ?_
 | refine block_n ?_
 | refine block_r ?_
 | refine AW.skip ?_
 | refine AW.ret ?_
 | refine AW.exit ?_
 | refine AW.cond rfl ?_ ?_
 | refine awl_none rfl ?_
 | refine awl_nil2 ?_
 | (refine fun (hc : _ = _)=>?_;first|cases hc|((try rw [hc]);(try simp only [stH] at hc);(try (exfalso;omega)));(try (show Awl _ _ _ _ _;simp only [stU])))
 | ((first|refine fun (K : V → List _ → _) hK=>?_|refine fun (_ : V → V)=>?_);simp (maxSteps:=1000000) (disch:=omega) only [go_sem,Int.reduceEq,↓reduceIte,reduceCtorEq,Nat.reduceEqDiff,Nat.reduceLT,Nat.reduceLeDiff,Nat.reduceAdd,Nat.reduceSub,Nat.reduceMul,Int.reduceToNat,Int.reduceLE,Int.reduceLT,V2,eD_inj];(try (revert hK;intro hK;(repeat' first|(refine And.intro ?_ ?_)|(intro hc;first|cases hc|((try rw [hc]);(try simp only [stH] at hc);(try (exfalso;omega)))));all_goals first|(refine hK _ _ ?_;clear hK K;simp only [stU])|exact hK|omega)))) <;> (fail_if_success (show False;skip)))
  all_goals (refine Ends.of (nm []) (by first|exact .inl rfl|exact .inr rfl) ?_;simp (maxSteps:=1000000) (disch:=omega) only [go_sem,Int.reduceEq,↓reduceIte,reduceCtorEq,Nat.reduceEqDiff,Nat.reduceLT,Nat.reduceLeDiff,Nat.reduceAdd,Nat.reduceSub,Nat.reduceMul,Int.reduceToNat,Int.reduceLE,Int.reduceLT,V2])
theorem ent_tree_Tree_Len : Ent Try.prog 34:=⟨_,Try.func34,rfl,by decide⟩
def Sp_tree_Tree_End (ds : List D) (out : Out) : Prop:=∃ (row l : List Xt) (f : List Int) (p : List Nd),ds = [.ref (.agg [.list (row.map eD),.list (l.map eD),.list (f.map mI),.list (p.map nD)])] ∧ vRow 0 row = true ∧ out = ⟨.d (.v (.int .i64 (endX row))),[]⟩
theorem good_tree_Tree_End : Good Try.prog 23 Sp_tree_Tree_End:=by
  refine good_body (E:=V2) (nt:=8) (rs:=#[.tmp 2]) Try.func23 rfl rfl rfl ?_
  rintro ds out ⟨row,l,f,p,rfl,hv,rfl⟩
  refine ⟨by simp,?_⟩
  have hl:=v_len hv
  have hb : (∀ e ∈ row,bdX e) = True:=eq_true (v_bd hv)
  repeat' ((first
 | refine AW.seq ?_
 | refine AW.block ?_
 | refine AW.regl V2_ok [0,2] ?_
 | refine then_n ?_
 | refine then_r ?_
 | refine then_x ?_
 | refine block_x ?_
 | refine block_o (by decide) ?_
 | refine block_n ?_
 | refine block_r ?_
 | refine AW.skip ?_
 | refine AW.ret ?_
 | refine AW.exit ?_
 | refine AW.cond rfl ?_ ?_
 | refine awl_none rfl ?_
 | refine awl_nil2 ?_
 | (refine fun (hc : _ = _)=>?_;first|cases hc|((try rw [hc]);(try simp only [stH] at hc);(try (exfalso;omega)));(try (show Awl _ _ _ _ _;simp only [stU])))
 | ((first|refine fun (K : V → List _ → _) hK=>?_|refine fun (_ : V → V)=>?_);simp (maxSteps:=1000000) (disch:=omega) only [go_sem,Int.reduceEq,↓reduceIte,reduceCtorEq,Nat.reduceEqDiff,Nat.reduceLT,Nat.reduceLeDiff,Nat.reduceAdd,Nat.reduceSub,Nat.reduceMul,Int.reduceToNat,Int.reduceLE,Int.reduceLT,V2,Sp_extent_End,hb,eD_inj];(try (revert hK;intro hK;(repeat' first|(refine And.intro ?_ ?_)|(intro hc;first|cases hc|((try rw [hc]);(try simp only [stH] at hc);(try (exfalso;omega)))));all_goals first|(refine hK _ _ ?_;clear hK K;simp only [stU])|exact hK|omega)))) <;> (fail_if_success (show False;skip)))
  all_goals (refine Ends.of (nm []) (by first|exact .inl rfl|exact .inr rfl) ?_;simp (maxSteps:=1000000) (disch:=omega) only [go_sem,Int.reduceEq,↓reduceIte,reduceCtorEq,Nat.reduceEqDiff,Nat.reduceLT,Nat.reduceLeDiff,Nat.reduceAdd,Nat.reduceSub,Nat.reduceMul,Int.reduceToNat,Int.reduceLE,Int.reduceLT,V2,Sp_extent_End])
theorem ent_tree_Tree_End : Ent Try.prog 23:=⟨_,Try.func23,rfl,by decide⟩
def Sp_tree_Tree_Cut (ds : List D) (out : Out) : Prop:=∃ (row l : List Xt) (f : List Int) (p : List Nd) (a b : Int),ds = [.ref (.agg [.list (row.map eD),.list (l.map eD),.list (f.map mI),.list (p.map nD)]),.v (.int .i64 a),.v (.int .i64 b)] ∧ vRow 0 row = true ∧ out = ⟨.sl 0 5 0 (cutX a b row).length true,[(0,.row 25 5 ((cutX a b row).map eD))]⟩
theorem good_tree_Tree_Cut : Good Try.prog 24 Sp_tree_Tree_Cut:=by
  refine good_body (E:=V2) (nt:=14) (rs:=#[.tmp 6]) Try.func24 rfl rfl rfl ?_
  rintro ds out ⟨row,l,f,p,a,b,rfl,hv,rfl⟩
  refine ⟨by simp,?_⟩
  have hl:=v_len hv
  have hb : (∀ e ∈ row,bdX e) = True:=eq_true (v_bd hv)
  repeat' ((first
 | refine AW.seq ?_
 | refine AW.block ?_
 | refine AW.regl V2_ok [0,1,2,6] ?_
 | refine then_n ?_
 | refine then_r ?_
 | refine then_x ?_
 | refine block_x ?_
 | refine block_o (by decide) ?_
 | refine block_n ?_
 | refine block_r ?_
 | refine AW.skip ?_
 | refine AW.ret ?_
 | refine AW.exit ?_
 | refine AW.cond rfl ?_ ?_
 | refine awl_none rfl ?_
 | refine awl_nil2 ?_
 | (refine fun (hc : _ = _)=>?_;first|cases hc|((try rw [hc]);(try simp only [stH] at hc);(try (exfalso;omega)));(try (show Awl _ _ _ _ _;simp only [stU])))
 | ((first|refine fun (K : V → List _ → _) hK=>?_|refine fun (_ : V → V)=>?_);simp (maxSteps:=1000000) (disch:=omega) only [go_sem,Int.reduceEq,↓reduceIte,reduceCtorEq,Nat.reduceEqDiff,Nat.reduceLT,Nat.reduceLeDiff,Nat.reduceAdd,Nat.reduceSub,Nat.reduceMul,Int.reduceToNat,Int.reduceLE,Int.reduceLT,V2,Sp_extent_Cut,hb,eD_inj];(try (revert hK;intro hK;(repeat' first|(refine And.intro ?_ ?_)|(intro hc;first|cases hc|((try rw [hc]);(try simp only [stH] at hc);(try (exfalso;omega)))));all_goals first|(refine hK _ _ ?_;clear hK K;simp only [stU])|exact hK|omega)))) <;> (fail_if_success (show False;skip)))
  all_goals (refine Ends.of (nm [(0,13)]) (by first|exact .inl rfl|exact .inr rfl) ?_;simp (maxSteps:=1000000) (disch:=omega) only [go_sem,Int.reduceEq,↓reduceIte,reduceCtorEq,Nat.reduceEqDiff,Nat.reduceLT,Nat.reduceLeDiff,Nat.reduceAdd,Nat.reduceSub,Nat.reduceMul,Int.reduceToNat,Int.reduceLE,Int.reduceLT,V2,Sp_extent_Cut])
theorem ent_tree_Tree_Cut : Ent Try.prog 24:=⟨_,Try.func24,rfl,by decide⟩
def xV (x : Xt) : V:=.agg [.d (.v (.int .i64 x.f0)),.d (.v (.int .i64 x.f1)),.d (.v (.int .i64 x.f2)),.d (.v (.int .i64 x.f3)),.d (.v (.int .i64 x.f4))]
def findT (row : List Xt) (a : Int) : Out:=match findX a row with|some i=>⟨.tup [xV (row.getD i x0),.d (.v (.bool true))],[]⟩|none=>⟨.tup [xV x0,.d (.v (.bool false))],[]⟩
def Sp_tree_Tree_Find (ds : List D) (out : Out) : Prop:=∃ (row l : List Xt) (f : List Int) (p : List Nd) (a : Int),ds = [.ref (.agg [.list (row.map eD),.list (l.map eD),.list (f.map mI),.list (p.map nD)]),.v (.int .i64 a)] ∧ vRow 0 row = true ∧ (-9223372036854775808 ≤ a ∧ a < 9223372036854775808) ∧ out = findT row a
theorem good_tree_Tree_Find : Good Try.prog 25 Sp_tree_Tree_Find:=by
  refine good_body (E:=V2) (nt:=27) (rs:=#[.cell 4 25,.tmp 5]) Try.func25 rfl rfl rfl ?_
  rintro ds out ⟨row,l,f,p,a,rfl,hv,ha,rfl⟩
  refine ⟨by simp,?_⟩
  have hl:=v_len hv
  have hb : (∀ e ∈ row,bdX e ∧ 0 ≤ e.f0) = True:=eq_true fun e he=>⟨v_bd hv e he,(cg_mem (vRow_0.1 hv).1 e he).2.1⟩
  cases hf : findX a row with
  | none =>
    have hz : findT row a = ⟨.tup [xV x0,.d (.v (.bool false))],[]⟩:=by unfold findT;rw [hf]
    repeat' ((first
 | refine AW.seq ?_
 | refine AW.block ?_
 | refine AW.regl V2_ok [0,1,4,5,6,7,18] ?_
 | refine then_n ?_
 | refine then_r ?_
 | refine then_x ?_
 | refine block_x ?_
 | refine block_o (by decide) ?_
 | refine block_n ?_
 | refine block_r ?_
 | refine AW.skip ?_
 | refine AW.ret ?_
 | refine AW.exit ?_
 | refine AW.cond rfl ?_ ?_
 | refine awl_none rfl ?_
 | refine awl_nil2 ?_
 | (refine fun (hc : _ = _)=>?_;first|cases hc|((try rw [hc]);(try simp only [stH] at hc);(try (exfalso;omega)));(try (show Awl _ _ _ _ _;simp only [stU])))
 | ((first|refine fun (K : V → List _ → _) hK=>?_|refine fun (_ : V → V)=>?_);simp (maxSteps:=1000000) (disch:=omega) only [go_sem,Int.reduceEq,↓reduceIte,reduceCtorEq,Nat.reduceEqDiff,Nat.reduceLT,Nat.reduceLeDiff,Nat.reduceAdd,Nat.reduceSub,Nat.reduceMul,Int.reduceToNat,Int.reduceLE,Int.reduceLT,V2,Sp_extent_Find,hb,hf,findD,eD_inj];(try (revert hK;intro hK;(repeat' first|(refine And.intro ?_ ?_)|(intro hc;first|cases hc|((try rw [hc]);(try simp only [stH] at hc);(try (exfalso;omega)))));all_goals first|(refine hK _ _ ?_;clear hK K;simp only [stU])|exact hK|omega)))) <;> (fail_if_success (show False;skip)))
    all_goals (refine Ends.of (nm []) (by first|exact .inl rfl|exact .inr rfl) ?_;simp (maxSteps:=1000000) (disch:=omega) only [go_sem,Int.reduceEq,↓reduceIte,reduceCtorEq,Nat.reduceEqDiff,Nat.reduceLT,Nat.reduceLeDiff,Nat.reduceAdd,Nat.reduceSub,Nat.reduceMul,Int.reduceToNat,Int.reduceLE,Int.reduceLT,V2,Sp_extent_Find,hz,xV,x0])
  | some i =>
    have hz : findT row a = ⟨.tup [xV (row.getD i x0),.d (.v (.bool true))],[]⟩:=by unfold findT;rw [hf]
    have hi:=(findX_lt hf).1
    have e1:=nth_E row i hi
    obtain ⟨⟨q0,q1,q2,q3,q4⟩,hq⟩ : ∃ q,row.getD i x0 = q:=⟨_,rfl⟩
    rw [hq] at e1 hz
    repeat' ((first
 | refine AW.seq ?_
 | refine AW.block ?_
 | refine AW.regl V2_ok [0,1,4,5,6,7,18] ?_
 | refine then_n ?_
 | refine then_r ?_
 | refine then_x ?_
 | refine block_x ?_
 | refine block_o (by decide) ?_
 | refine block_n ?_
 | refine block_r ?_
 | refine AW.skip ?_
 | refine AW.ret ?_
 | refine AW.exit ?_
 | refine AW.cond rfl ?_ ?_
 | refine awl_none rfl ?_
 | refine awl_nil2 ?_
 | (refine fun (hc : _ = _)=>?_;first|cases hc|((try rw [hc]);(try simp only [stH] at hc);(try (exfalso;omega)));(try (show Awl _ _ _ _ _;simp only [stU])))
 | ((first|refine fun (K : V → List _ → _) hK=>?_|refine fun (_ : V → V)=>?_);simp (maxSteps:=1000000) (disch:=omega) only [go_sem,Int.reduceEq,↓reduceIte,reduceCtorEq,Nat.reduceEqDiff,Nat.reduceLT,Nat.reduceLeDiff,Nat.reduceAdd,Nat.reduceSub,Nat.reduceMul,Int.reduceToNat,Int.reduceLE,Int.reduceLT,V2,Sp_extent_Find,hb,hf,findD,e1,eD,mI_eq,all_E,eD_inj];(try (revert hK;intro hK;(repeat' first|(refine And.intro ?_ ?_)|(intro hc;first|cases hc|((try rw [hc]);(try simp only [stH] at hc);(try (exfalso;omega)))));all_goals first|(refine hK _ _ ?_;clear hK K;simp only [stU])|exact hK|omega)))) <;> (fail_if_success (show False;skip)))
    all_goals (refine Ends.of (nm []) (by first|exact .inl rfl|exact .inr rfl) ?_;simp (maxSteps:=1000000) (disch:=omega) only [go_sem,Int.reduceEq,↓reduceIte,reduceCtorEq,Nat.reduceEqDiff,Nat.reduceLT,Nat.reduceLeDiff,Nat.reduceAdd,Nat.reduceSub,Nat.reduceMul,Int.reduceToNat,Int.reduceLE,Int.reduceLT,V2,Sp_extent_Find,hz,xV])
theorem ent_tree_Tree_Find : Ent Try.prog 25:=⟨_,Try.func25,rfl,by decide⟩
noncomputable instance decNd : DecidableEq Nd:=fun _ _=>Classical.propDecidable _
noncomputable def dpT (n : Nd) : Int:=if n = n0 then 0 else dv (chk 8 true n)
def gD (D : Int) (q : Nat × Bool × List Xt × List Int × List Nd × Nat) : Prop:=∃ (r' : List Xt) (d' m' : Nat),chk (q.1 + 1) q.2.1 (.mk q.2.2.1 q.2.2.2.1 q.2.2.2.2.1) = some (r',d',m') ∧ D + 1 = (q.2.2.2.2.2 : Int) + d' ∧ q.2.2.2.2.2 + q.1 = 8
def Sp_tree_Tree_Depth (ds : List D) (out : Out) : Prop:=∃ (row l : List Xt) (f : List Int) (p : List Nd),ds = [.ref (.agg [.list (row.map eD),.list (l.map eD),.list (f.map mI),.list (p.map nD)])] ∧ okT row (.mk l f p) ∧ out = ⟨.d (.v (.int .i64 (dpT (.mk l f p)))),[]⟩
theorem good_tree_Tree_Depth : Good Try.prog 31 Sp_tree_Tree_Depth:=by
  refine good_body (E:=V2) (nt:=26) (rs:=#[.tmp 2]) Try.func31 rfl rfl rfl ?_
  rintro ds out ⟨row,l,f,p,rfl,hok,rfl⟩
  refine ⟨by simp,?_⟩
  obtain ⟨s1,s2,s3,_⟩:=hok.s.open
  rcases hok.r with ⟨_,he⟩|⟨d,m,hc⟩
  · have hz : dpT (.mk l f p) = 0:=by unfold dpT;rw [if_pos he]
    simp only [n0,Nd.mk.injEq] at he
    have he : decide (l = [] ∧ f = [] ∧ p = []) = true:=decide_eq_true he
    repeat' ((first
 | refine AW.seq ?_
 | refine AW.block ?_
 | refine AW.regl V2_ok [0,2,3,4,9,17,24] ?_
 | refine then_n ?_
 | refine then_r ?_
 | refine then_x ?_
 | refine block_x ?_
 | refine block_o (by decide) ?_
 | refine block_n ?_
 | refine block_r ?_
 | refine AW.skip ?_
 | refine AW.ret ?_
 | refine AW.exit ?_
 | refine AW.cond rfl ?_ ?_
 | refine awl_none rfl ?_
 | refine awl_nil2 ?_
 | (refine fun (hc : _ = _)=>?_;first|cases hc|((try rw [hc]);(try simp only [stH] at hc);(try (exfalso;omega)));(try (show Awl _ _ _ _ _;simp only [stU])))
 | ((first|refine fun (K : V → List _ → _) hK=>?_|refine fun (_ : V → V)=>?_);simp (maxSteps:=1000000) (disch:=omega) only [go_sem,Int.reduceEq,↓reduceIte,reduceCtorEq,Nat.reduceEqDiff,Nat.reduceLT,Nat.reduceLeDiff,Nat.reduceAdd,Nat.reduceSub,Nat.reduceMul,Int.reduceToNat,Int.reduceLE,Int.reduceLT,V2,Sp_tree_Node_empty,he,eD_inj,mI_inj,nD_inj];(try (revert hK;intro hK;(repeat' first|(refine And.intro ?_ ?_)|(intro hc;first|cases hc|((try rw [hc]);(try simp only [stH] at hc);(try (exfalso;omega)))));all_goals first|(refine hK _ _ ?_;clear hK K;simp only [stU])|exact hK|omega)))) <;> (fail_if_success (show False;skip)))
    all_goals (refine Ends.of (nm []) (by first|exact .inl rfl|exact .inr rfl) ?_;simp (maxSteps:=1000000) (disch:=omega) only [go_sem,Int.reduceEq,↓reduceIte,reduceCtorEq,Nat.reduceEqDiff,Nat.reduceLT,Nat.reduceLeDiff,Nat.reduceAdd,Nat.reduceSub,Nat.reduceMul,Int.reduceToNat,Int.reduceLE,Int.reduceLT,V2,Sp_tree_Node_empty,hz])
  · have hne : Nd.mk l f p ≠ n0:=by
      intro e;rw [e] at hc
      have:=(chk_open hc)
      rcases this with ⟨_,_,h,_⟩|⟨h,_⟩
      · simp [lst] at h
      · exact h rfl
    have hz : dpT (.mk l f p) = d:=by unfold dpT;rw [if_neg hne,hc];rfl
    have he : decide (l = [] ∧ f = [] ∧ p = []) = false:=decide_eq_false fun h=>hne (by rw [h.1,h.2.1,h.2.2];rfl)
    rw [hz]
    clear hz hok
    repeat' ((first
 | refine AW.seq ?_
 | refine AW.block ?_
 | refine AW.regl V2_ok [0,2,3,4,9,17,24] ?_
 | refine then_n ?_
 | refine then_r ?_
 | refine then_x ?_
 | refine block_x ?_
 | refine block_o (by decide) ?_
 | refine block_n ?_
 | refine block_r ?_
 | refine AW.skip ?_
 | refine AW.ret ?_
 | refine AW.exit ?_
 | refine AW.cond rfl ?_ ?_
 | refine awl_none rfl ?_
 | refine awl_nil2 ?_
 | (refine fun (hc : _ = _)=>?_;first|cases hc|((try rw [hc]);(try simp only [stH] at hc);(try (exfalso;omega)));(try (show Awl _ _ _ _ _;simp only [stU])))
 | ((first|refine fun (K : V → List _ → _) hK=>?_|refine fun (_ : V → V)=>?_);simp (maxSteps:=1000000) (disch:=omega) only [go_sem,Int.reduceEq,↓reduceIte,reduceCtorEq,Nat.reduceEqDiff,Nat.reduceLT,Nat.reduceLeDiff,Nat.reduceAdd,Nat.reduceSub,Nat.reduceMul,Int.reduceToNat,Int.reduceLE,Int.reduceLT,V2,Sp_tree_Node_empty,he,eD_inj,mI_inj,nD_inj];(try (revert hK;intro hK;(repeat' first|(refine And.intro ?_ ?_)|(intro hc;first|cases hc|((try rw [hc]);(try simp only [stH] at hc);(try (exfalso;omega)))));all_goals first|(refine hK _ _ ?_;clear hK K;simp only [stU])|exact hK|omega)))) <;> (fail_if_success (show False;skip)))
    refine AW.loop_wk (fun q : Nat × Bool × List Xt × List Int × List Nd × Nat=>⟨[(3,.d (.v (.int .i64 q.2.2.2.2.2))),(4,.ptr 400 0)],[(400,.box [.d (.list (q.2.2.1.map eD)),.d (.list (q.2.2.2.1.map mI)),.d (.list (q.2.2.2.2.1.map nD))])],26⟩)
      (gD d) (fun q=>q.1) (7,true,l,f,p,1) ⟨row,d,m,hc,by simp only;omega,rfl⟩ (fun w0 oa aa w hs=>Wk.sr (ρ:=nm [(400,4)]) (Wk.of ?_) hs) ?_
    · simp (maxSteps:=1000000) (disch:=omega) only [go_sem,Int.reduceEq,↓reduceIte,reduceCtorEq,Nat.reduceEqDiff,Nat.reduceLT,Nat.reduceLeDiff,Nat.reduceAdd,Nat.reduceSub,Nat.reduceMul,Int.reduceToNat,Int.reduceLE,Int.reduceLT,V2,Sp_tree_Node_empty]
      all_goals rfl
    rintro ⟨k,top,l,f,p,c⟩ ⟨r',d',m',hc,hr,hk⟩
    simp only at hc hr hk
    have hsz : p.length ≤ 8 ∧ (p.length = 0 → d' = 1):=by
      rcases chk_open hc with ⟨rfl,rfl,h1,h2,h3⟩|⟨hp,rfl,h1,h2,h3,_⟩
      · cases h3;exact ⟨by simp,fun _=>rfl⟩
      · exact ⟨h2,fun h=>absurd (List.eq_nil_of_length_eq_zero h) hp⟩
    by_cases hp : 0 < p.length
    · obtain ⟨r2,d2,m2,hd2,hc2,hr2⟩:=chk_head hc hp
      have e1:=nth_N p 0 hp
      obtain ⟨⟨l2,f2,p2⟩,hq⟩ : ∃ q,p.getD 0 n0 = q:=⟨_,rfl⟩
      rw [hq,nD_mk] at e1
      rw [hq] at hc2
      obtain ⟨j,rfl⟩:=ck_pos hc2
      have hpl : 0 < (p.length : Int):=by omega
      have hpl2 : decide (0 < (p.length : Int)) = true:=decide_eq_true hpl
      repeat' ((first
 | refine AW.seq ?_
 | refine AW.block ?_
 | refine AW.regl V2_ok [0,2,3,4,9,17,24] ?_
 | refine then_n ?_
 | refine then_r ?_
 | refine then_x ?_
 | refine block_x ?_
 | refine block_o (by decide) ?_
 | refine block_n ?_
 | refine block_r ?_
 | refine AW.skip ?_
 | refine AW.ret ?_
 | refine AW.exit ?_
 | refine AW.cond rfl ?_ ?_
 | refine awl_none rfl ?_
 | refine awl_nil2 ?_
 | (refine fun (hc : _ = _)=>?_;first|cases hc|((try rw [hc]);(try simp only [stH] at hc);(try (exfalso;omega)));(try (show Awl _ _ _ _ _;simp only [stU])))
 | ((first|refine fun (K : V → List _ → _) hK=>?_|refine fun (_ : V → V)=>?_);simp (maxSteps:=1000000) (disch:=omega) only [go_sem,Int.reduceEq,↓reduceIte,reduceCtorEq,Nat.reduceEqDiff,Nat.reduceLT,Nat.reduceLeDiff,Nat.reduceAdd,Nat.reduceSub,Nat.reduceMul,Int.reduceToNat,Int.reduceLE,Int.reduceLT,V2,Sp_tree_Node_empty,hpl2,e1,all_N];(try (revert hK;intro hK;(repeat' first|(refine And.intro ?_ ?_)|(intro hc;first|cases hc|((try rw [hc]);(try simp only [stH] at hc);(try (exfalso;omega)))));all_goals first|(refine hK _ _ ?_;clear hK K;simp only [stU])|exact hK|omega)))) <;> (fail_if_success (show False;skip)))
      refine ⟨(j,false,l2,f2,p2,c + 1),⟨r2,d2,m2,hc2,by simp only;omega,by simp only;omega⟩,by dsimp only;omega,nm [(400,4)],Wk.of ?_⟩
      simp (maxSteps:=1000000) (disch:=omega) only [go_sem,Int.reduceEq,↓reduceIte,reduceCtorEq,Nat.reduceEqDiff,Nat.reduceLT,Nat.reduceLeDiff,Nat.reduceAdd,Nat.reduceSub,Nat.reduceMul,Int.reduceToNat,Int.reduceLE,Int.reduceLT,V2,Sp_tree_Node_empty]
      all_goals rfl
    · have h1:=hsz.2 (by omega)
      have hpl : decide (0 < (p.length : Int)) = false:=decide_eq_false (by omega)
      have hcd : (c : Int) = (d : Int):=by omega
      repeat' ((first
 | refine AW.seq ?_
 | refine AW.block ?_
 | refine AW.regl V2_ok [0,2,3,4,9,17,24] ?_
 | refine then_n ?_
 | refine then_r ?_
 | refine then_x ?_
 | refine block_x ?_
 | refine block_o (by decide) ?_
 | refine block_n ?_
 | refine block_r ?_
 | refine AW.skip ?_
 | refine AW.ret ?_
 | refine AW.exit ?_
 | refine AW.cond rfl ?_ ?_
 | refine awl_none rfl ?_
 | refine awl_nil2 ?_
 | (refine fun (hc : _ = _)=>?_;first|cases hc|((try rw [hc]);(try simp only [stH] at hc);(try (exfalso;omega)));(try (show Awl _ _ _ _ _;simp only [stU])))
 | ((first|refine fun (K : V → List _ → _) hK=>?_|refine fun (_ : V → V)=>?_);simp (maxSteps:=1000000) (disch:=omega) only [go_sem,Int.reduceEq,↓reduceIte,reduceCtorEq,Nat.reduceEqDiff,Nat.reduceLT,Nat.reduceLeDiff,Nat.reduceAdd,Nat.reduceSub,Nat.reduceMul,Int.reduceToNat,Int.reduceLE,Int.reduceLT,V2,Sp_tree_Node_empty,hpl];(try (revert hK;intro hK;(repeat' first|(refine And.intro ?_ ?_)|(intro hc;first|cases hc|((try rw [hc]);(try simp only [stH] at hc);(try (exfalso;omega)))));all_goals first|(refine hK _ _ ?_;clear hK K;simp only [stU])|exact hK|omega)))) <;> (fail_if_success (show False;skip)))
      all_goals (refine Ends.of (nm []) (by first|exact .inl rfl|exact .inr rfl) ?_;simp (maxSteps:=1000000) (disch:=omega) only [go_sem,Int.reduceEq,↓reduceIte,reduceCtorEq,Nat.reduceEqDiff,Nat.reduceLT,Nat.reduceLeDiff,Nat.reduceAdd,Nat.reduceSub,Nat.reduceMul,Int.reduceToNat,Int.reduceLE,Int.reduceLT,V2,Sp_tree_Node_empty,hcd])
theorem ent_tree_Tree_Depth : Ent Try.prog 31:=⟨_,Try.func31,rfl,by decide⟩
noncomputable def ndT (n : Nd) : Int:=if n = n0 then 0 else (ckM (chk 8 true n) : Int)
def Sp_tree_Tree_Nodes (ds : List D) (out : Out) : Prop:=∃ (row l : List Xt) (f : List Int) (p : List Nd),ds = [.ref (.agg [.list (row.map eD),.list (l.map eD),.list (f.map mI),.list (p.map nD)])] ∧ okT row (.mk l f p) ∧ out = ⟨.d (.v (.int .i64 (ndT (.mk l f p)))),[]⟩
theorem okT_ne {row l : List Xt} {f : List Int} {p : List Nd} {d m : Nat} (hc : chk 8 true (.mk l f p) = some (row,d,m)) : Nd.mk l f p ≠ n0:=by
  intro e;rw [e] at hc
  have:=(chk_open hc)
  rcases this with ⟨_,_,h,_⟩|⟨h,_⟩
  · simp [lst] at h
  · exact h rfl
theorem okT_c {row l : List Xt} {f : List Int} {p : List Nd} (h : okT row (.mk l f p)) : okc 8 (.mk l f p) ∨ Nd.mk l f p = n0:=by
  rcases h.r with ⟨_,he⟩|⟨d,m,hc⟩
  · exact .inr he
  · exact .inl ⟨_,hc,by have:=v_len h.v;simp only;omega⟩
theorem good_tree_Tree_Nodes : Good Try.prog 32 Sp_tree_Tree_Nodes:=by
  refine good_body (E:=V2) (nt:=13) (rs:=#[.tmp 2]) Try.func32 rfl rfl rfl ?_
  rintro ds out ⟨row,l,f,p,rfl,hok,rfl⟩
  refine ⟨by simp,?_⟩
  obtain ⟨s1,s2,s3,_⟩:=hok.s.open
  rcases hok.r with ⟨_,he⟩|⟨d,m,hc⟩
  · have hz : ndT (.mk l f p) = 0:=by unfold ndT;rw [if_pos he]
    simp only [n0,Nd.mk.injEq] at he
    have he : decide (l = [] ∧ f = [] ∧ p = []) = true:=decide_eq_true he
    repeat' ((first
 | refine AW.seq ?_
 | refine AW.block ?_
 | refine AW.regl V2_ok [0,2,7] ?_
 | refine then_n ?_
 | refine then_r ?_
 | refine then_x ?_
 | refine block_x ?_
 | refine block_o (by decide) ?_
 | refine block_n ?_
 | refine block_r ?_
 | refine AW.skip ?_
 | refine AW.ret ?_
 | refine AW.exit ?_
 | refine AW.cond rfl ?_ ?_
 | refine awl_none rfl ?_
 | refine awl_nil2 ?_
 | (refine fun (hc : _ = _)=>?_;first|cases hc|((try rw [hc]);(try simp only [stH] at hc);(try (exfalso;omega)));(try (show Awl _ _ _ _ _;simp only [stU])))
 | ((first|refine fun (K : V → List _ → _) hK=>?_|refine fun (_ : V → V)=>?_);simp (maxSteps:=1000000) (disch:=omega) only [go_sem,Int.reduceEq,↓reduceIte,reduceCtorEq,Nat.reduceEqDiff,Nat.reduceLT,Nat.reduceLeDiff,Nat.reduceAdd,Nat.reduceSub,Nat.reduceMul,Int.reduceToNat,Int.reduceLE,Int.reduceLT,V2,Sp_tree_Node_empty,Sp_tree_Node_count,he,eD_inj,mI_inj,nD_inj];(try (revert hK;intro hK;(repeat' first|(refine And.intro ?_ ?_)|(intro hc;first|cases hc|((try rw [hc]);(try simp only [stH] at hc);(try (exfalso;omega)))));all_goals first|(refine hK _ _ ?_;clear hK K;simp only [stU])|exact hK|omega)))) <;> (fail_if_success (show False;skip)))
    all_goals (refine Ends.of (nm []) (by first|exact .inl rfl|exact .inr rfl) ?_;simp (maxSteps:=1000000) (disch:=omega) only [go_sem,Int.reduceEq,↓reduceIte,reduceCtorEq,Nat.reduceEqDiff,Nat.reduceLT,Nat.reduceLeDiff,Nat.reduceAdd,Nat.reduceSub,Nat.reduceMul,Int.reduceToNat,Int.reduceLE,Int.reduceLT,V2,Sp_tree_Node_empty,Sp_tree_Node_count,hz])
  · have hne:=okT_ne hc
    have hz : ndT (.mk l f p) = (ckM (chk 8 true (.mk l f p)) : Int):=by unfold ndT;rw [if_neg hne]
    have he : decide (l = [] ∧ f = [] ∧ p = []) = false:=decide_eq_false fun h=>hne (by rw [h.1,h.2.1,h.2.2];rfl)
    have hkt : okc 8 (.mk l f p) = True:=eq_true ((okT_c hok).resolve_right hne)
    repeat' ((first
 | refine AW.seq ?_
 | refine AW.block ?_
 | refine AW.regl V2_ok [0,2,7] ?_
 | refine then_n ?_
 | refine then_r ?_
 | refine then_x ?_
 | refine block_x ?_
 | refine block_o (by decide) ?_
 | refine block_n ?_
 | refine block_r ?_
 | refine AW.skip ?_
 | refine AW.ret ?_
 | refine AW.exit ?_
 | refine AW.cond rfl ?_ ?_
 | refine awl_none rfl ?_
 | refine awl_nil2 ?_
 | (refine fun (hc : _ = _)=>?_;first|cases hc|((try rw [hc]);(try simp only [stH] at hc);(try (exfalso;omega)));(try (show Awl _ _ _ _ _;simp only [stU])))
 | ((first|refine fun (K : V → List _ → _) hK=>?_|refine fun (_ : V → V)=>?_);simp (maxSteps:=1000000) (disch:=omega) only [go_sem,Int.reduceEq,↓reduceIte,reduceCtorEq,Nat.reduceEqDiff,Nat.reduceLT,Nat.reduceLeDiff,Nat.reduceAdd,Nat.reduceSub,Nat.reduceMul,Int.reduceToNat,Int.reduceLE,Int.reduceLT,V2,Sp_tree_Node_empty,Sp_tree_Node_count,he,hkt,SpK_tree_Node_count,eD_inj,mI_inj,nD_inj];(try (revert hK;intro hK;(repeat' first|(refine And.intro ?_ ?_)|(intro hc;first|cases hc|((try rw [hc]);(try simp only [stH] at hc);(try (exfalso;omega)))));all_goals first|(refine hK _ _ ?_;clear hK K;simp only [stU])|exact hK|omega)))) <;> (fail_if_success (show False;skip)))
    all_goals (refine Ends.of (nm []) (by first|exact .inl rfl|exact .inr rfl) ?_;simp (maxSteps:=1000000) (disch:=omega) only [go_sem,Int.reduceEq,↓reduceIte,reduceCtorEq,Nat.reduceEqDiff,Nat.reduceLT,Nat.reduceLeDiff,Nat.reduceAdd,Nat.reduceSub,Nat.reduceMul,Int.reduceToNat,Int.reduceLE,Int.reduceLT,V2,Sp_tree_Node_empty,Sp_tree_Node_count,hz])
theorem ent_tree_Tree_Nodes : Ent Try.prog 32:=⟨_,Try.func32,rfl,by decide⟩
def Sp_tree_Tree_Node (ds : List D) (out : Out) : Prop:=∃ (row l : List Xt) (f : List Int) (p : List Nd),ds = [.ref (.agg [.list (row.map eD),.list (l.map eD),.list (f.map mI),.list (p.map nD)])] ∧ okT row (.mk l f p) ∧ out = ⟨.agg [.sl 0 5 0 l.length true,.sl 1 1 0 f.length true,.sl 2 3 0 p.length true],[(0,.row 25 5 (l.map eD)),(1,.row 3 1 (f.map mI)),(2,.row 42 3 (p.map nD))]⟩
theorem good_tree_Tree_Node : Good Try.prog 30 Sp_tree_Tree_Node:=by
  refine good_body (E:=V2) (nt:=8) (rs:=#[.cell 2 42]) Try.func30 rfl rfl rfl ?_
  rintro ds out ⟨row,l,f,p,rfl,hok,rfl⟩
  refine ⟨by simp,?_⟩
  have hkt : (okc 8 (.mk l f p) ∨ Nd.mk l f p = n0) = True:=eq_true (okT_c hok)
  repeat' ((first
 | refine AW.seq ?_
 | refine AW.block ?_
 | refine AW.regl V2_ok [0,2] ?_
 | refine then_n ?_
 | refine then_r ?_
 | refine then_x ?_
 | refine block_x ?_
 | refine block_o (by decide) ?_
 | refine block_n ?_
 | refine block_r ?_
 | refine AW.skip ?_
 | refine AW.ret ?_
 | refine AW.exit ?_
 | refine AW.cond rfl ?_ ?_
 | refine awl_none rfl ?_
 | refine awl_nil2 ?_
 | (refine fun (hc : _ = _)=>?_;first|cases hc|((try rw [hc]);(try simp only [stH] at hc);(try (exfalso;omega)));(try (show Awl _ _ _ _ _;simp only [stU])))
 | ((first|refine fun (K : V → List _ → _) hK=>?_|refine fun (_ : V → V)=>?_);simp (maxSteps:=1000000) (disch:=omega) only [go_sem,Int.reduceEq,↓reduceIte,reduceCtorEq,Nat.reduceEqDiff,Nat.reduceLT,Nat.reduceLeDiff,Nat.reduceAdd,Nat.reduceSub,Nat.reduceMul,Int.reduceToNat,Int.reduceLE,Int.reduceLT,V2,Sp_tree_Node_copied,hkt,SpK_tree_Node_copied,eD_inj,mI_inj,nD_inj];(try (revert hK;intro hK;(repeat' first|(refine And.intro ?_ ?_)|(intro hc;first|cases hc|((try rw [hc]);(try simp only [stH] at hc);(try (exfalso;omega)))));all_goals first|(refine hK _ _ ?_;clear hK K;simp only [stU])|exact hK|omega)))) <;> (fail_if_success (show False;skip)))
  all_goals (refine Ends.of (nm [(0,7),(1,1007),(2,2007)]) (by first|exact .inl rfl|exact .inr rfl) ?_;simp (maxSteps:=1000000) (disch:=omega) only [go_sem,Int.reduceEq,↓reduceIte,reduceCtorEq,Nat.reduceEqDiff,Nat.reduceLT,Nat.reduceLeDiff,Nat.reduceAdd,Nat.reduceSub,Nat.reduceMul,Int.reduceToNat,Int.reduceLE,Int.reduceLT,V2,Sp_tree_Node_copied])
theorem ent_tree_Tree_Node : Ent Try.prog 30:=⟨_,Try.func30,rfl,by decide⟩
def spliceT (row : List Xt) (a b : Int) (new : List Xt) : Out:=if spF row a b new = 0 then ⟨.tup [.d (tD (spX row a b new) (madeN (spX row a b new))),.d (.v (.int .i64 0))],[]⟩ else ⟨.tup [.d (.v (.pointer none)),.d (.v (.int .i64 (spF row a b new)))],[]⟩
def Sp_tree_Tree_Splice (ds : List D) (out : Out) : Prop:=∃ (row l : List Xt) (f : List Int) (p : List Nd) (a b : Int) (new : List Xt),ds = [.ref (.agg [.list (row.map eD),.list (l.map eD),.list (f.map mI),.list (p.map nD)]),.v (.int .i64 a),.v (.int .i64 b),.list (new.map eD)] ∧ vRow 0 row = true ∧ new.length ≤ 1000000 ∧ (∀ e ∈ new,numE e) ∧ out = spliceT row a b new
theorem good_tree_Tree_Splice : Good Try.prog 27 Sp_tree_Tree_Splice:=by
  refine good_body (E:=V2) (nt:=30) (rs:=#[.tmp 8,.tmp 9]) Try.func27 rfl rfl rfl ?_
  rintro ds out ⟨row,l,f,p,a,b,new,rfl,hv,hnl,hnn,rfl⟩
  refine ⟨by simp,?_⟩
  have hnt : (∀ e ∈ new,numE e) = True:=eq_true hnn
  by_cases h0 : spF row a b new = 0
  · obtain ⟨k1,k2,k3,k4,k5,k6⟩:=spF_ok hv h0
    have ho : spliceOut row a b new = ⟨.tup [.sl 0 5 0 (spX row a b new).length true,.d (.v (.int .i64 0))],[(0,.row 25 5 ((spX row a b new).map eD))]⟩:=by unfold spliceOut;rw [if_pos h0]
    have hl2:=v_len k1
    have hn2 : (∀ e ∈ spX row a b new,numE e) = True:=eq_true (v_num k1)
    obtain ⟨⟨l1,f1,p1⟩,hm⟩ : ∃ n,madeN (spX row a b new) = n:=⟨_,rfl⟩
    have hf : fromOut (spX row a b new) = ⟨.tup [.d (.ref (.agg [.list ((spX row a b new).map eD),.list (l1.map eD),.list (f1.map mI),.list (p1.map nD)])),.d (.v (.int .i64 0))],[]⟩:=by unfold fromOut;rw [if_pos k1,hm];rfl
    have hz : spliceT row a b new = ⟨.tup [.d (.ref (.agg [.list ((spX row a b new).map eD),.list (l1.map eD),.list (f1.map mI),.list (p1.map nD)])),.d (.v (.int .i64 0))],[]⟩:=by unfold spliceT;rw [if_pos h0,hm];rfl
    have ht : ((spX row a b new).map eD).take (spX row a b new).length = (spX row a b new).map eD:=List.take_of_length_le (by simp)
    generalize spX row a b new = R at *
    clear k6
    repeat' ((first
 | refine AW.seq ?_
 | refine AW.block ?_
 | refine AW.regl V2_ok [0,1,2,3,8,9,10,11,24] ?_
 | refine then_n ?_
 | refine then_r ?_
 | refine then_x ?_
 | refine block_x ?_
 | refine block_o (by decide) ?_
 | refine block_n ?_
 | refine block_r ?_
 | refine AW.skip ?_
 | refine AW.ret ?_
 | refine AW.exit ?_
 | refine AW.cond rfl ?_ ?_
 | refine awl_none rfl ?_
 | refine awl_nil2 ?_
 | (refine fun (hc : _ = _)=>?_;first|cases hc|((try rw [hc]);(try simp only [stH] at hc);(try (exfalso;omega)));(try (show Awl _ _ _ _ _;simp only [stU])))
 | ((first|refine fun (K : V → List _ → _) hK=>?_|refine fun (_ : V → V)=>?_);simp (maxSteps:=1000000) (disch:=omega) only [go_sem,Int.reduceEq,↓reduceIte,reduceCtorEq,Nat.reduceEqDiff,Nat.reduceLT,Nat.reduceLeDiff,Nat.reduceAdd,Nat.reduceSub,Nat.reduceMul,Int.reduceToNat,Int.reduceLE,Int.reduceLT,V2,Sp_extent_Splice,Sp_tree_From,hnt,ho,hv,hl2,hn2,hf,ht,eD_inj];(try (revert hK;intro hK;(repeat' first|(refine And.intro ?_ ?_)|(intro hc;first|cases hc|((try rw [hc]);(try simp only [stH] at hc);(try (exfalso;omega)))));all_goals first|(refine hK _ _ ?_;clear hK K;simp only [stU])|exact hK|omega)))) <;> (fail_if_success (show False;skip)))
    all_goals (refine Ends.of (nm []) (by first|exact .inl rfl|exact .inr rfl) ?_;simp (maxSteps:=1000000) (disch:=omega) only [go_sem,Int.reduceEq,↓reduceIte,reduceCtorEq,Nat.reduceEqDiff,Nat.reduceLT,Nat.reduceLeDiff,Nat.reduceAdd,Nat.reduceSub,Nat.reduceMul,Int.reduceToNat,Int.reduceLE,Int.reduceLT,V2,Sp_extent_Splice,Sp_tree_From,hz])
  · have ho : spliceOut row a b new = ⟨.tup [.nil,.d (.v (.int .i64 (spF row a b new)))],[]⟩:=by unfold spliceOut;rw [if_neg h0]
    have hz : spliceT row a b new = ⟨.tup [.d (.v (.pointer none)),.d (.v (.int .i64 (spF row a b new)))],[]⟩:=by unfold spliceT;rw [if_neg h0]
    have d0 : decide (¬ spF row a b new = 0) = true:=decide_eq_true h0
    repeat' ((first
 | refine AW.seq ?_
 | refine AW.block ?_
 | refine AW.regl V2_ok [0,1,2,3,8,9,10,11,24] ?_
 | refine then_n ?_
 | refine then_r ?_
 | refine then_x ?_
 | refine block_x ?_
 | refine block_o (by decide) ?_
 | refine block_n ?_
 | refine block_r ?_
 | refine AW.skip ?_
 | refine AW.ret ?_
 | refine AW.exit ?_
 | refine AW.cond rfl ?_ ?_
 | refine awl_none rfl ?_
 | refine awl_nil2 ?_
 | (refine fun (hc : _ = _)=>?_;first|cases hc|((try rw [hc]);(try simp only [stH] at hc);(try (exfalso;omega)));(try (show Awl _ _ _ _ _;simp only [stU])))
 | ((first|refine fun (K : V → List _ → _) hK=>?_|refine fun (_ : V → V)=>?_);simp (maxSteps:=1000000) (disch:=omega) only [go_sem,Int.reduceEq,↓reduceIte,reduceCtorEq,Nat.reduceEqDiff,Nat.reduceLT,Nat.reduceLeDiff,Nat.reduceAdd,Nat.reduceSub,Nat.reduceMul,Int.reduceToNat,Int.reduceLE,Int.reduceLT,V2,Sp_extent_Splice,Sp_tree_From,hnt,ho,hv,d0,eD_inj];(try (revert hK;intro hK;(repeat' first|(refine And.intro ?_ ?_)|(intro hc;first|cases hc|((try rw [hc]);(try simp only [stH] at hc);(try (exfalso;omega)))));all_goals first|(refine hK _ _ ?_;clear hK K;simp only [stU])|exact hK|omega)))) <;> (fail_if_success (show False;skip)))
    all_goals (refine Ends.of (nm []) (by first|exact .inl rfl|exact .inr rfl) ?_;simp (maxSteps:=1000000) (disch:=omega) only [go_sem,Int.reduceEq,↓reduceIte,reduceCtorEq,Nat.reduceEqDiff,Nat.reduceLT,Nat.reduceLeDiff,Nat.reduceAdd,Nat.reduceSub,Nat.reduceMul,Int.reduceToNat,Int.reduceLE,Int.reduceLT,V2,Sp_extent_Splice,Sp_tree_From,hz])
theorem ent_tree_Tree_Splice : Ent Try.prog 27:=⟨_,Try.func27,rfl,by decide⟩
end Go.Proofs.Ytleahjfgedfgmaa.Am
