import Derived.Test.YtigkcigoiinkpaaZNG
set_option linter.unusedVariables false
set_option linter.unusedSimpArgs false
set_option maxRecDepth 10000
set_option maxHeartbeats 0
namespace Go.Proofs.Ytigkcigoiinkpaa.Am
open Go Go.RowKit Go.Proofs
def shE (by' : Int) (e : Xt) : Xt:=⟨e.f0 + by',e.f1,e.f2,e.f3,e.f4⟩
def Sp_overdubref14_Shift (ds : List D) (out : Out) : Prop:=∃ (l : List Xt) (by' : Int),ds = [.list (l.map eD),.v (.int .i64 by')] ∧ l.length ≤ 1000 ∧ (∀ e ∈ l,-9223372036854775808 ≤ e.f0 + by' ∧ e.f0 + by' < 9223372036854775808) ∧ out = ⟨.sl 0 5 0 l.length true,[(0,.row 42 5 ((l.map (shE by')).map eD))]⟩
theorem snoc_Eh (l : List Xt) (a b c d e : Int) : l.map eD ++ [D.agg [.v (.int .i64 a),.v (.int .i64 b),.v (.int .i64 c),.v (.int .i64 d),.v (.int .i64 e)]] = (l ++ [Xt.mk a b c d e]).map eD:=by simp [eD,mI]
theorem good_overdubref14_Shift : Good Try.prog 23 Sp_overdubref14_Shift:=by
  refine good_body (E:=E0) (nt:=28) (rs:=#[.tmp 4]) Try.func23 rfl rfl rfl ?_
  rintro ds out ⟨l,by',rfl,hl,hn,rfl⟩
  refine ⟨by simp,?_⟩
  repeat' first
 | refine AW.seq ?_
 | refine AW.block ?_
 | refine AW.regl E0_ok [0,1,4,5,6,7,9,10,11] ?_
 | refine then_n ?_
 | refine then_r ?_
 | refine then_x ?_
 | refine block_x ?_
 | refine block_o (by decide) ?_
 | refine block_n ?_
 | refine block_r ?_
 | refine AW.skip ?_
 | refine AW.ret ?_
 | refine AW.exit ?_
 | refine AW.cond rfl ?_ ?_
 | refine awl_none rfl ?_
 | refine awl_nil2 ?_
 | (refine fun (hc : _ = _)=>?_;first|cases hc|((try rw [hc]);(try simp only [stH] at hc);(try (exfalso;omega)));(try (show Awl _ _ _ _ _;simp only [stU])))
 | ((first|refine fun (K : V → List _ → _) hK=>?_|refine fun (_ : V → V)=>?_);simp (disch:=omega) only [go_sem,Int.reduceEq,↓reduceIte,reduceCtorEq,Nat.reduceEqDiff,Nat.reduceLT,Nat.reduceLeDiff,Nat.reduceAdd,Nat.reduceSub,Nat.reduceMul,Int.reduceToNat,Int.reduceLE,Int.reduceLT,E0];(try (revert hK;intro hK;(repeat' first|(refine And.intro ?_ ?_)|(intro hc;first|cases hc|((try rw [hc]);(try simp only [stH] at hc);(try (exfalso;omega)))));all_goals first|(refine hK _ _ ?_;clear hK K;simp only [stU])|exact hK|omega)))
  refine AW.loop_wk (fun k : Nat=>⟨[(0,.d (.list (l.map eD))),(1,.d (.v (.int .i64 by'))),(5,.sl 100 5 0 k true),(9,.d (.v (.int .i64 l.length))),(10,.d (.v (.int .i64 k)))],[(100,.row 42 5 (((l.take k).map (shE by')).map eD))],28⟩)
    (fun k=>k ≤ l.length) (fun k=>l.length - k) 0 (by omega) (fun w0 oa a w hs=>Wk.sr (ρ:=nm []) (Wk.of ?_) (nil_sr 5 100 42 5 rfl (by simp) rfl (by decide) hs)) ?_
  · simp (disch:=omega) only [go_sem,Int.reduceEq,↓reduceIte,reduceCtorEq,Nat.reduceEqDiff,Nat.reduceLT,Nat.reduceLeDiff,Nat.reduceAdd,Nat.reduceSub,Nat.reduceMul,Int.reduceToNat,Int.reduceLE,Int.reduceLT,E0]
    all_goals first|done|rfl|exact ⟨rfl,rfl⟩
  · intro k hk
    by_cases hk1 : k < l.length
    · have e1:=hn (l.getD k x0) (by rw [List.getD_eq_getElem?_getD,List.getElem?_eq_getElem hk1];exact List.getElem_mem hk1)
      have e2:=nth_rE l k hk1
      have hs : (l.take (k + 1)).map (shE by') = (l.take k).map (shE by') ++ [shE by' (l.getD k x0)]:=by rw [take_snocG l k x0 hk1,List.map_append];rfl
      obtain ⟨R,hR⟩ : ∃ R,(l.take k).map (shE by') = R:=⟨_,rfl⟩
      have hRl : R.length = k:=by rw [← hR,List.length_map,List.length_take];omega
      have hRm : (R.map eD).length = k:=by rw [List.length_map,hRl]
      rw [hR] at hs ⊢
      clear hn
      generalize l.getD k x0 = e at *
      obtain ⟨f0,f1,f2,f3,f4⟩:=e
      dsimp only at e1 e2
      replace hs : (l.take (k + 1)).map (shE by') = R ++ [⟨f0 + by',f1,f2,f3,f4⟩]:=hs
      repeat' first
 | refine AW.seq ?_
 | refine AW.block ?_
 | refine AW.regl E0_ok [0,1,4,5,6,7,9,10,11] ?_
 | refine then_n ?_
 | refine then_r ?_
 | refine then_x ?_
 | refine block_x ?_
 | refine block_o (by decide) ?_
 | refine block_n ?_
 | refine block_r ?_
 | refine AW.skip ?_
 | refine AW.ret ?_
 | refine AW.exit ?_
 | refine AW.cond rfl ?_ ?_
 | refine awl_none rfl ?_
 | refine awl_nil2 ?_
 | (refine fun (hc : _ = _)=>?_;first|cases hc|((try rw [hc]);(try simp only [stH] at hc);(try (exfalso;omega)));(try (show Awl _ _ _ _ _;simp only [stU])))
 | ((first|refine fun (K : V → List _ → _) hK=>?_|refine fun (_ : V → V)=>?_);simp (disch:=omega) only [go_sem,Int.reduceEq,↓reduceIte,reduceCtorEq,Nat.reduceEqDiff,Nat.reduceLT,Nat.reduceLeDiff,Nat.reduceAdd,Nat.reduceSub,Nat.reduceMul,Int.reduceToNat,Int.reduceLE,Int.reduceLT,E0,e2,hRl,hRm];(try (revert hK;intro hK;(repeat' first|(refine And.intro ?_ ?_)|(intro hc;first|cases hc|((try rw [hc]);(try simp only [stH] at hc);(try (exfalso;omega)))));all_goals first|(refine hK _ _ ?_;clear hK K;simp only [stU])|exact hK|omega)))
      refine ⟨k + 1,by omega,by omega,nm [(100,25)],Wk.of ?_⟩
      simp (disch:=omega) only [go_sem,Int.reduceEq,↓reduceIte,reduceCtorEq,Nat.reduceEqDiff,Nat.reduceLT,Nat.reduceLeDiff,Nat.reduceAdd,Nat.reduceSub,Nat.reduceMul,Int.reduceToNat,Int.reduceLE,Int.reduceLT,E0,hs,snoc_Eh]
      all_goals first|done|rfl|exact ⟨rfl,rfl⟩
    · obtain rfl : k = l.length:=by omega
      have hml : (l.map (shE by')).length = l.length:=List.length_map _
      rw [List.take_length]
      repeat' first
 | refine AW.seq ?_
 | refine AW.block ?_
 | refine AW.regl E0_ok [0,1,4,5,6,7,9,10,11] ?_
 | refine then_n ?_
 | refine then_r ?_
 | refine then_x ?_
 | refine block_x ?_
 | refine block_o (by decide) ?_
 | refine block_n ?_
 | refine block_r ?_
 | refine AW.skip ?_
 | refine AW.ret ?_
 | refine AW.exit ?_
 | refine AW.cond rfl ?_ ?_
 | refine awl_none rfl ?_
 | refine awl_nil2 ?_
 | (refine fun (hc : _ = _)=>?_;first|cases hc|((try rw [hc]);(try simp only [stH] at hc);(try (exfalso;omega)));(try (show Awl _ _ _ _ _;simp only [stU])))
 | ((first|refine fun (K : V → List _ → _) hK=>?_|refine fun (_ : V → V)=>?_);simp (disch:=omega) only [go_sem,Int.reduceEq,↓reduceIte,reduceCtorEq,Nat.reduceEqDiff,Nat.reduceLT,Nat.reduceLeDiff,Nat.reduceAdd,Nat.reduceSub,Nat.reduceMul,Int.reduceToNat,Int.reduceLE,Int.reduceLT,E0];(try (revert hK;intro hK;(repeat' first|(refine And.intro ?_ ?_)|(intro hc;first|cases hc|((try rw [hc]);(try simp only [stH] at hc);(try (exfalso;omega)))));all_goals first|(refine hK _ _ ?_;clear hK K;simp only [stU])|exact hK|omega)))
      (refine Ends.of (nm [(0,100)]) (by first|exact .inl rfl|exact .inr rfl) ?_;simp (disch:=omega) only [go_sem,Int.reduceEq,↓reduceIte,reduceCtorEq,Nat.reduceEqDiff,Nat.reduceLT,Nat.reduceLeDiff,Nat.reduceAdd,Nat.reduceSub,Nat.reduceMul,Int.reduceToNat,Int.reduceLE,Int.reduceLT,E0])
theorem ent_overdubref14_Shift : Ent Try.prog 23:=⟨_,Try.func23,rfl,by decide⟩
noncomputable def QV : Env:=⟨Try.prog,fun f ds out=>(f = 20 ∧ Sp_overdubkeep_Within ds out) ∨ (f = 16 ∧ Sp_overdublaw16_Row ds out) ∨ (f = 23 ∧ Sp_overdubref14_Shift ds out) ∨ (f = 25 ∧ Sp_overdubkeep_Cut_api_Extent ds out) ∨ (f = 24 ∧ Sp_overdubkeep_Copy_api_Extent ds out) ∨ (f = 18 ∧ Sp_node_PackLeaf ds out) ∨ (f = 26 ∧ Sp_overdubref20_PackLeaf ds out) ∨ (f = 14 ∧ Sp_overdubkeep_Same_byte ds out) ∨ (f = 27 ∧ Sp_overdublaw20_read ds out) ∨ (f = 28 ∧ Sp_overdublaw20_spoilt ds out) ∨ (f = 17 ∧ Sp_overdublaw20_wakes ds out),Es,fun _=>false⟩
theorem QV_sp : ∀ f ds out,QV.Sp f ds out → Ent QV.P f ∧ Good QV.P f (fun a b=>a = ds ∧ b = out):=by
  rintro f ds out (⟨rfl,h⟩|⟨rfl,h⟩|⟨rfl,h⟩|⟨rfl,h⟩|⟨rfl,h⟩|⟨rfl,h⟩|⟨rfl,h⟩|⟨rfl,h⟩|⟨rfl,h⟩|⟨rfl,h⟩|⟨rfl,h⟩)
  · exact ⟨ent_overdubkeep_Within,good_overdubkeep_Within.one h⟩
  · exact ⟨ent_overdublaw16_Row,good_overdublaw16_Row.one h⟩
  · exact ⟨ent_overdubref14_Shift,good_overdubref14_Shift.one h⟩
  · exact ⟨ent_overdubkeep_Cut_api_Extent,good_overdubkeep_Cut_api_Extent.one h⟩
  · exact ⟨ent_overdubkeep_Copy_api_Extent,good_overdubkeep_Copy_api_Extent.one h⟩
  · exact ⟨ent_node_PackLeaf,good_node_PackLeaf.one h⟩
  · exact ⟨ent_overdubref20_PackLeaf,good_overdubref20_PackLeaf.one h⟩
  · exact ⟨ent_overdubkeep_Same_byte,good_overdubkeep_Same_byte.one h⟩
  · exact ⟨ent_overdublaw20_read,good_overdublaw20_read.one h⟩
  · exact ⟨ent_overdublaw20_spoilt,good_overdublaw20_spoilt.one h⟩
  · exact ⟨ent_overdublaw20_wakes,good_overdublaw20_wakes.one h⟩
theorem QV_ok : QV.Ok:=⟨QV_sp,Es_ok⟩
def stV (at' c : Int) (sm : Bool) (F : List Xt) : St:=⟨[(0,.sl 100 5 0 F.length true),(2,.d (.v (.int .i64 at'))),(3,.d (.v (.int .u8 c))),(4,.d (.v (.bool sm))),(10,.d (.v (.bool false)))],[(100,.row 42 5 (F.map eD))],62⟩
theorem nil_BV (l : List Int) : (([] : List D) = l.map mB) = (l = []):=by cases l <;> simp
def Sp_overdublaw20_NodeLeaves (ds : List D) (out : Out) : Prop:=∃ (l : List Xt) (rt : Bool) (at' c : Int) (sm : Bool),ds = [.list (l.map eD),.v (.bool rt),.v (.int .i64 at'),.v (.int .u8 c),.v (.bool sm)] ∧ l.length ≤ 9223372036854775807 ∧ (∀ e ∈ l,numE e) ∧ out = ⟨.d (.v (.bool true)),[]⟩
theorem good_overdublaw20_NodeLeaves : Good Try.prog 5 Sp_overdublaw20_NodeLeaves:=by
  refine good_body (E:=QV) (nt:=62) (rs:=#[.tmp 10]) Try.func5 rfl rfl rfl ?_
  rintro ds out ⟨l,rt,at',c,sm,rfl,hl,hn,rfl⟩
  refine ⟨by simp,?_⟩
  refine AW.mx2 (stV at' c sm) (fun F=>F.length ≤ 10) ?_ ?_
  · cases rt
    · have n10 : (10 : Int).toNat = 10:=rfl
      have hl1 : (l.take 10).length ≤ 10:=List.length_take_le ..
      have ht : ((l.take 10).map eD).take (l.take 10).length = (l.take 10).map eD:=List.take_of_length_le (by simp)
      repeat' first
 | refine AW.seq ?_
 | refine AW.block ?_
 | refine AW.regl QV_ok [0,1,2,3,4,10,11,12,13,14,15,16,44] ?_
 | refine then_n ?_
 | refine then_r ?_
 | refine then_x ?_
 | refine block_x ?_
 | refine block_o (by decide) ?_
 | refine block_n ?_
 | refine block_r ?_
 | refine AW.skip ?_
 | refine AW.ret ?_
 | refine AW.exit ?_
 | refine AW.cond rfl ?_ ?_
 | refine awl_none rfl ?_
 | refine awl_nil2 ?_
 | refine awl_some rfl rfl (Nat.le_of_ble_eq_true rfl) rfl rfl ?_ ?_
 | (refine awl_skip rfl rfl (Nat.le_of_ble_eq_true rfl) rfl rfl ?_;simp only [stU])
 | (refine fun (hc : _ = _)=>?_;first|cases hc|((try rw [hc]);(try simp only [stH] at hc);(try (exfalso;omega)));(try (show Awl _ _ _ _ _;simp only [stU])))
 | ((first|refine fun (K : V → List _ → _) hK=>?_|refine fun (_ : V → V)=>?_);simp (disch:=omega) only [go_sem,Int.reduceEq,↓reduceIte,reduceCtorEq,Nat.reduceEqDiff,Nat.reduceLT,Nat.reduceLeDiff,Nat.reduceAdd,Nat.reduceSub,Nat.reduceMul,Int.reduceToNat,Int.reduceLE,Int.reduceLT,QV,Sp_overdubkeep_Within,Sp_overdublaw16_Row,Sp_overdubref14_Shift,Sp_overdubkeep_Cut_api_Extent,Sp_overdubkeep_Copy_api_Extent,Sp_node_PackLeaf,Sp_overdubref20_PackLeaf,Sp_overdubkeep_Same_byte,Sp_overdublaw20_read,Sp_overdublaw20_spoilt,Sp_overdublaw20_wakes,n10,ht,eD_inj];(try (revert hK;intro hK;(repeat' first|(refine And.intro ?_ ?_)|(intro hc;first|cases hc|((try rw [hc]);(try simp only [stH] at hc);(try (exfalso;omega)))));all_goals first|(refine hK _ _ ?_;clear hK K;simp only [stU])|exact hK|omega)))
      refine ⟨l.take 10,hl1,nm [(100,25)],Wk.of ?_⟩
      simp (disch:=omega) only [go_sem,Int.reduceEq,↓reduceIte,reduceCtorEq,Nat.reduceEqDiff,Nat.reduceLT,Nat.reduceLeDiff,Nat.reduceAdd,Nat.reduceSub,Nat.reduceMul,Int.reduceToNat,Int.reduceLE,Int.reduceLT,QV,Sp_overdubkeep_Within,Sp_overdublaw16_Row,Sp_overdubref14_Shift,Sp_overdubkeep_Cut_api_Extent,Sp_overdubkeep_Copy_api_Extent,Sp_node_PackLeaf,Sp_overdubref20_PackLeaf,Sp_overdubkeep_Same_byte,Sp_overdublaw20_read,Sp_overdublaw20_spoilt,Sp_overdublaw20_wakes,stV]
      all_goals first|done|rfl|exact ⟨rfl,rfl⟩
    · have n9 : (9 : Int).toNat = 9:=rfl
      have hq : (∀ e ∈ l,numE e) = True:=eq_true hn
      have hg:=rowG_ok 9 0 l (by omega) (by omega)
      have hok:=(vRow_facts _ 0 (by omega) (by omega) hg.1).1
      have h9:=hg.2
      have wa:=within_rngh (v:=at') (n:=300) (by omega)
      have hsh : (∀ e ∈ rowG 9 0 l,-9223372036854775808 ≤ e.f0 + within at' 300 ∧ e.f0 + within at' 300 < 9223372036854775808) = True:=eq_true fun e he=>by
        have:=(hok e he).1
        omega
      have ht : ((rowG 9 0 l).map eD).take (rowG 9 0 l).length = (rowG 9 0 l).map eD:=List.take_of_length_le (by simp)
      obtain ⟨F,hF⟩ : ∃ F,rowG 9 0 l = F:=⟨_,rfl⟩
      rw [hF] at hsh ht h9
      clear hg hok wa hn
      have hsl : (F.map (shE (within at' 300))).length = F.length:=List.length_map _
      repeat' first
 | refine AW.seq ?_
 | refine AW.block ?_
 | refine AW.regl QV_ok [0,1,2,3,4,10,11,12,13,14,15,16,44] ?_
 | refine then_n ?_
 | refine then_r ?_
 | refine then_x ?_
 | refine block_x ?_
 | refine block_o (by decide) ?_
 | refine block_n ?_
 | refine block_r ?_
 | refine AW.skip ?_
 | refine AW.ret ?_
 | refine AW.exit ?_
 | refine AW.cond rfl ?_ ?_
 | refine awl_none rfl ?_
 | refine awl_nil2 ?_
 | refine awl_some rfl rfl (Nat.le_of_ble_eq_true rfl) rfl rfl ?_ ?_
 | (refine awl_skip rfl rfl (Nat.le_of_ble_eq_true rfl) rfl rfl ?_;simp only [stU])
 | (refine fun (hc : _ = _)=>?_;first|cases hc|((try rw [hc]);(try simp only [stH] at hc);(try (exfalso;omega)));(try (show Awl _ _ _ _ _;simp only [stU])))
 | ((first|refine fun (K : V → List _ → _) hK=>?_|refine fun (_ : V → V)=>?_);simp (disch:=omega) only [go_sem,Int.reduceEq,↓reduceIte,reduceCtorEq,Nat.reduceEqDiff,Nat.reduceLT,Nat.reduceLeDiff,Nat.reduceAdd,Nat.reduceSub,Nat.reduceMul,Int.reduceToNat,Int.reduceLE,Int.reduceLT,QV,Sp_overdubkeep_Within,Sp_overdublaw16_Row,Sp_overdubref14_Shift,Sp_overdubkeep_Cut_api_Extent,Sp_overdubkeep_Copy_api_Extent,Sp_node_PackLeaf,Sp_overdubref20_PackLeaf,Sp_overdubkeep_Same_byte,Sp_overdublaw20_read,Sp_overdublaw20_spoilt,Sp_overdublaw20_wakes,n9,hq,hF,hsh,ht,sc_E,eD_inj];(try (revert hK;intro hK;(repeat' first|(refine And.intro ?_ ?_)|(intro hc;first|cases hc|((try rw [hc]);(try simp only [stH] at hc);(try (exfalso;omega)))));all_goals first|(refine hK _ _ ?_;clear hK K;simp only [stU])|exact hK|omega)))
      refine ⟨F.map (shE (within at' 300)),by rw [hsl];omega,nm [(100,22)],Wk.of ?_⟩
      simp (disch:=omega) only [go_sem,Int.reduceEq,↓reduceIte,reduceCtorEq,Nat.reduceEqDiff,Nat.reduceLT,Nat.reduceLeDiff,Nat.reduceAdd,Nat.reduceSub,Nat.reduceMul,Int.reduceToNat,Int.reduceLE,Int.reduceLT,QV,Sp_overdubkeep_Within,Sp_overdublaw16_Row,Sp_overdubref14_Shift,Sp_overdubkeep_Cut_api_Extent,Sp_overdubkeep_Copy_api_Extent,Sp_node_PackLeaf,Sp_overdubref20_PackLeaf,Sp_overdubkeep_Same_byte,Sp_overdublaw20_read,Sp_overdublaw20_spoilt,Sp_overdublaw20_wakes,stV,hsl]
      all_goals first|done|rfl|exact ⟨rfl,rfl⟩
  clear hn hl
  intro F hF
  have ht : (F.map eD).take F.length = F.map eD:=List.take_of_length_le (by simp)
  by_cases hm : mayF F
  case neg =>
    have p1 : packFOut F = ⟨.tup [.nil,.d (.v (.bool false))],[]⟩:=if_neg hm
    have d0 : decide (([] : List Int) = []) = true:=decide_eq_true rfl
    repeat' first
 | refine AW.seq ?_
 | refine AW.block ?_
 | refine AW.regl QV_ok [0,1,2,3,4,10,11,12,13,14,15,16,44] ?_
 | refine then_n ?_
 | refine then_r ?_
 | refine then_x ?_
 | refine block_x ?_
 | refine block_o (by decide) ?_
 | refine block_n ?_
 | refine block_r ?_
 | refine AW.skip ?_
 | refine AW.ret ?_
 | refine AW.exit ?_
 | refine AW.cond rfl ?_ ?_
 | refine awl_none rfl ?_
 | refine awl_nil2 ?_
 | refine awl_some rfl rfl (Nat.le_of_ble_eq_true rfl) rfl rfl ?_ ?_
 | (refine awl_skip rfl rfl (Nat.le_of_ble_eq_true rfl) rfl rfl ?_;simp only [stU])
 | (refine fun (hc : _ = _)=>?_;first|cases hc|((try rw [hc]);(try simp only [stH] at hc);(try (exfalso;omega)));(try (show Awl _ _ _ _ _;simp only [stU])))
 | ((first|refine fun (K : V → List _ → _) hK=>?_|refine fun (_ : V → V)=>?_);simp (disch:=omega) only [go_sem,Int.reduceEq,↓reduceIte,reduceCtorEq,Nat.reduceEqDiff,Nat.reduceLT,Nat.reduceLeDiff,Nat.reduceAdd,Nat.reduceSub,Nat.reduceMul,Int.reduceToNat,Int.reduceLE,Int.reduceLT,QV,Sp_overdubkeep_Within,Sp_overdublaw16_Row,Sp_overdubref14_Shift,Sp_overdubkeep_Cut_api_Extent,Sp_overdubkeep_Copy_api_Extent,Sp_node_PackLeaf,Sp_overdubref20_PackLeaf,Sp_overdubkeep_Same_byte,Sp_overdublaw20_read,Sp_overdublaw20_spoilt,Sp_overdublaw20_wakes,stV,ht,p1,d0,nil_BV,eD_inj,mB_inj];(try (revert hK;intro hK;(repeat' first|(refine And.intro ?_ ?_)|(intro hc;first|cases hc|((try rw [hc]);(try simp only [stH] at hc);(try (exfalso;omega)))));all_goals first|(refine hK _ _ ?_;clear hK K;simp only [stU])|exact hK|omega)))
    (refine Ends.of (nm []) (by first|exact .inl rfl|exact .inr rfl) ?_;simp (disch:=omega) only [go_sem,Int.reduceEq,↓reduceIte,reduceCtorEq,Nat.reduceEqDiff,Nat.reduceLT,Nat.reduceLeDiff,Nat.reduceAdd,Nat.reduceSub,Nat.reduceMul,Int.reduceToNat,Int.reduceLE,Int.reduceLT,QV,Sp_overdubkeep_Within,Sp_overdublaw16_Row,Sp_overdubref14_Shift,Sp_overdubkeep_Cut_api_Extent,Sp_overdubkeep_Copy_api_Extent,Sp_node_PackLeaf,Sp_overdubref20_PackLeaf,Sp_overdubkeep_Same_byte,Sp_overdublaw20_read,Sp_overdublaw20_spoilt,Sp_overdublaw20_wakes])
  have p1 : packFOut F = ⟨.tup [.sl 0 1 0 128 true,.d (.v (.bool true))],[(0,.row 5 1 ((leafP F).map mB))]⟩:=if_pos hm
  have hPb : Byt (leafP F):=nodP_byt (by omega) (by have:=hm.2.1;omega) (exsB_bytF F)
  have hPl : (leafP F).length = 128:=nodP_len _ _ _
  clear hm
  generalize leafP F = P at *
  have hPy : Byt P = True:=eq_true hPb
  have hPt : (P.map mB).take 128 = P.map mB:=List.take_of_length_le (by rw [List.length_map,hPl];omega)
  have dP : decide (P = P) = true:=decide_eq_true rfl
  have hYy : Byt (spoN P at' c sm) = True:=eq_true (spoN_byt hPb _ _ _)
  have hYl:=spoN_len hPl at' c sm
  have hYt : ((spoN P at' c sm).map mB).take 128 = (spoN P at' c sm).map mB:=List.take_of_length_le (by rw [List.length_map,hYl];omega)
  clear hPb
  repeat' first
 | refine AW.seq ?_
 | refine AW.block ?_
 | refine AW.regl QV_ok [0,1,2,3,4,10,11,12,13,14,15,16,44] ?_
 | refine then_n ?_
 | refine then_r ?_
 | refine then_x ?_
 | refine block_x ?_
 | refine block_o (by decide) ?_
 | refine block_n ?_
 | refine block_r ?_
 | refine AW.skip ?_
 | refine AW.ret ?_
 | refine AW.exit ?_
 | refine AW.cond rfl ?_ ?_
 | refine awl_none rfl ?_
 | refine awl_nil2 ?_
 | refine awl_some rfl rfl (Nat.le_of_ble_eq_true rfl) rfl rfl ?_ ?_
 | (refine awl_skip rfl rfl (Nat.le_of_ble_eq_true rfl) rfl rfl ?_;simp only [stU])
 | (refine fun (hc : _ = _)=>?_;first|cases hc|((try rw [hc]);(try simp only [stH] at hc);(try (exfalso;omega)));(try (show Awl _ _ _ _ _;simp only [stU])))
 | ((first|refine fun (K : V → List _ → _) hK=>?_|refine fun (_ : V → V)=>?_);simp (disch:=omega) only [go_sem,Int.reduceEq,↓reduceIte,reduceCtorEq,Nat.reduceEqDiff,Nat.reduceLT,Nat.reduceLeDiff,Nat.reduceAdd,Nat.reduceSub,Nat.reduceMul,Int.reduceToNat,Int.reduceLE,Int.reduceLT,QV,Sp_overdubkeep_Within,Sp_overdublaw16_Row,Sp_overdubref14_Shift,Sp_overdubkeep_Cut_api_Extent,Sp_overdubkeep_Copy_api_Extent,Sp_node_PackLeaf,Sp_overdubref20_PackLeaf,Sp_overdubkeep_Same_byte,Sp_overdublaw20_read,Sp_overdublaw20_spoilt,Sp_overdublaw20_wakes,stV,ht,p1,hPl,hPy,hPt,dP,hYy,hYl,hYt,eD_inj,mB_inj];(try (revert hK;intro hK;(repeat' first|(refine And.intro ?_ ?_)|(intro hc;first|cases hc|((try rw [hc]);(try simp only [stH] at hc);(try (exfalso;omega)))));all_goals first|(refine hK _ _ ?_;clear hK K;simp only [stU])|exact hK|omega)))
  (refine Ends.of (nm []) (by first|exact .inl rfl|exact .inr rfl) ?_;simp (disch:=omega) only [go_sem,Int.reduceEq,↓reduceIte,reduceCtorEq,Nat.reduceEqDiff,Nat.reduceLT,Nat.reduceLeDiff,Nat.reduceAdd,Nat.reduceSub,Nat.reduceMul,Int.reduceToNat,Int.reduceLE,Int.reduceLT,QV,Sp_overdubkeep_Within,Sp_overdublaw16_Row,Sp_overdubref14_Shift,Sp_overdubkeep_Cut_api_Extent,Sp_overdubkeep_Copy_api_Extent,Sp_node_PackLeaf,Sp_overdubref20_PackLeaf,Sp_overdubkeep_Same_byte,Sp_overdublaw20_read,Sp_overdublaw20_spoilt,Sp_overdublaw20_wakes])
end Go.Proofs.Ytigkcigoiinkpaa.Am
