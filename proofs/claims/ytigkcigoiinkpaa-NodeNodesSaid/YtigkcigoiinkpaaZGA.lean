import Derived.Test.YtigkcigoiinkpaaZFA
section
set_option linter.unusedVariables false
set_option linter.unusedSimpArgs false
set_option maxRecDepth 10000
set_option maxHeartbeats 0
namespace Go.Proofs.Ytigkcigoiinkpaa.Am
open Go Go.RowKit Go.Proofs
theorem getD_byt {l : List Int} (h : Byt l) (i : Nat) : 0 ≤ l.getD i 0 ∧ l.getD i 0 < 256:=by
  rw [List.getD_eq_getElem?_getD]
  by_cases hi : i < l.length
  · rw [List.getElem?_eq_getElem hi];exact h _ (List.getElem_mem hi)
  · rw [List.getElem?_eq_none (by omega)];exact ⟨by decide,by decide⟩
def getOut (l : List Int) : Out:=if 7 < l.length then ⟨.tup [.d (.v (.int .i64 0)),.d (.v (.bool false))],[]⟩ else ⟨.tup [.d (.v (.int .i64 (leV l))),.d (.v (.bool true))],[]⟩
def Sp_field_Get (ds : List D) (out : Out) : Prop:=∃ l : List Int,ds = [.list (l.map mB)] ∧ Byt l ∧ l.length ≤ 9223372036854775807 ∧ out = getOut l
theorem good_field_Get : Good Try.prog 70 Sp_field_Get:=by
  refine good_body (E:=E0) (nt:=25) (rs:=#[.tmp 2,.tmp 3]) Try.func70 rfl rfl rfl ?_
  rintro ds out ⟨l,rfl,hb,hl,rfl⟩
  refine ⟨by simp,?_⟩
  by_cases h7 : 7 < l.length
  · rw [getOut,if_pos h7]
    repeat' first
 | refine AW.seq ?_
 | refine AW.block ?_
 | refine AW.regl E0_ok [0,2,3,4,5,8,13] ?_
 | refine then_n ?_
 | refine then_r ?_
 | refine then_x ?_
 | refine block_x ?_
 | refine block_o (by decide) ?_
 | refine block_n ?_
 | refine block_r ?_
 | refine AW.skip ?_
 | refine AW.ret ?_
 | refine AW.exit ?_
 | refine AW.cond rfl ?_ ?_
 | refine awl_none rfl ?_
 | refine awl_nil2 ?_
 | (refine fun (hc : _ = _)=>?_;first|cases hc|((try rw [hc]);(try simp only [stH] at hc);(try (exfalso;omega)));(try (show Awl _ _ _ _ _;simp only [stU])))
 | ((first|refine fun (K : V → List _ → _) hK=>?_|refine fun (_ : V → V)=>?_);simp (disch:=omega) only [go_sem,Int.reduceEq,↓reduceIte,reduceCtorEq,Nat.reduceEqDiff,Nat.reduceLT,Nat.reduceLeDiff,Nat.reduceAdd,Nat.reduceSub,Nat.reduceMul,Int.reduceToNat,Int.reduceLE,Int.reduceLT,E0];(try (revert hK;intro hK;(repeat' first|(refine And.intro ?_ ?_)|(intro hc;first|cases hc|((try rw [hc]);(try simp only [stH] at hc);(try (exfalso;omega)))));all_goals first|(refine hK _ _ ?_;clear hK K;simp only [stU])|exact hK|omega)))
    (refine Ends.of (nm []) (by first|exact .inl rfl|exact .inr rfl) ?_;simp (disch:=omega) only [go_sem,Int.reduceEq,↓reduceIte,reduceCtorEq,Nat.reduceEqDiff,Nat.reduceLT,Nat.reduceLeDiff,Nat.reduceAdd,Nat.reduceSub,Nat.reduceMul,Int.reduceToNat,Int.reduceLE,Int.reduceLT,E0])
  · rw [getOut,if_neg h7]
    repeat' first
 | refine AW.seq ?_
 | refine AW.block ?_
 | refine AW.regl E0_ok [0,2,3,4,5,8,13] ?_
 | refine then_n ?_
 | refine then_r ?_
 | refine then_x ?_
 | refine block_x ?_
 | refine block_o (by decide) ?_
 | refine block_n ?_
 | refine block_r ?_
 | refine AW.skip ?_
 | refine AW.ret ?_
 | refine AW.exit ?_
 | refine AW.cond rfl ?_ ?_
 | refine awl_none rfl ?_
 | refine awl_nil2 ?_
 | (refine fun (hc : _ = _)=>?_;first|cases hc|((try rw [hc]);(try simp only [stH] at hc);(try (exfalso;omega)));(try (show Awl _ _ _ _ _;simp only [stU])))
 | ((first|refine fun (K : V → List _ → _) hK=>?_|refine fun (_ : V → V)=>?_);simp (disch:=omega) only [go_sem,Int.reduceEq,↓reduceIte,reduceCtorEq,Nat.reduceEqDiff,Nat.reduceLT,Nat.reduceLeDiff,Nat.reduceAdd,Nat.reduceSub,Nat.reduceMul,Int.reduceToNat,Int.reduceLE,Int.reduceLT,E0];(try (revert hK;intro hK;(repeat' first|(refine And.intro ?_ ?_)|(intro hc;first|cases hc|((try rw [hc]);(try simp only [stH] at hc);(try (exfalso;omega)))));all_goals first|(refine hK _ _ ?_;clear hK K;simp only [stU])|exact hK|omega)))
    refine AW.loop_wk (fun k : Nat=>⟨[(0,.d (.list (l.map mB))),(4,.d (.v (.int .i64 (leV (l.drop k))))),(5,.d (.v (.int .i64 ((k : Int) - 1))))],[],25⟩)
      (fun k=>k ≤ l.length) (fun k=>k) l.length (by omega) (fun w0 oa a w hs=>Wk.sr (ρ:=nm []) (Wk.of ?_) hs) ?_
    · simp (disch:=omega) only [go_sem,Int.reduceEq,↓reduceIte,reduceCtorEq,Nat.reduceEqDiff,Nat.reduceLT,Nat.reduceLeDiff,Nat.reduceAdd,Nat.reduceSub,Nat.reduceMul,Int.reduceToNat,Int.reduceLE,Int.reduceLT,E0,List.drop_length,leV]
    · intro k hk
      by_cases hk0 : 0 < k
      · obtain ⟨q,rfl⟩ : ∃ q,k = q + 1:=⟨k - 1,by omega⟩
        have e1:=leV_drop_succ (l:=l) (i:=q) (by omega)
        have e2:=getD_byt hb q
        have e3:=leV_bound (byt_drop hb (q + 1))
        have e4 : (256 : Int) ^ (l.drop (q + 1)).length ≤ 256 ^ 6:=p256_mono (by rw [List.length_drop];omega)
        have e5 : (256 : Int) ^ 6 = 281474976710656:=by decide
        have e6 : nth (l.map mB) q = .v (.int .u8 (l.getD q 0)):=nth_B l q (by omega)
        have e7 : (((q + 1 : Nat) : Int) - 1).toNat = q:=by omega
        have e8 : ((q + 1 : Nat) : Int) - 1 = q:=by omega
        generalize l.getD q 0 = x at *
        generalize leV (l.drop (q + 1)) = v at *
        have e9 : bits .or .i64 (v * 256) x = v * 256 + x:=or256 (by omega) (by omega) (by omega) (by omega)
        rw [e8]
        repeat' first
 | refine AW.seq ?_
 | refine AW.block ?_
 | refine AW.regl E0_ok [0,2,3,4,5,8,13] ?_
 | refine then_n ?_
 | refine then_r ?_
 | refine then_x ?_
 | refine block_x ?_
 | refine block_o (by decide) ?_
 | refine block_n ?_
 | refine block_r ?_
 | refine AW.skip ?_
 | refine AW.ret ?_
 | refine AW.exit ?_
 | refine AW.cond rfl ?_ ?_
 | refine awl_none rfl ?_
 | refine awl_nil2 ?_
 | (refine fun (hc : _ = _)=>?_;first|cases hc|((try rw [hc]);(try simp only [stH] at hc);(try (exfalso;omega)));(try (show Awl _ _ _ _ _;simp only [stU])))
 | ((first|refine fun (K : V → List _ → _) hK=>?_|refine fun (_ : V → V)=>?_);simp (disch:=omega) only [go_sem,Int.reduceEq,↓reduceIte,reduceCtorEq,Nat.reduceEqDiff,Nat.reduceLT,Nat.reduceLeDiff,Nat.reduceAdd,Nat.reduceSub,Nat.reduceMul,Int.reduceToNat,Int.reduceLE,Int.reduceLT,E0,e6,e9,all_B,Int.reducePow];(try (revert hK;intro hK;(repeat' first|(refine And.intro ?_ ?_)|(intro hc;first|cases hc|((try rw [hc]);(try simp only [stH] at hc);(try (exfalso;omega)))));all_goals first|(refine hK _ _ ?_;clear hK K;simp only [stU])|exact hK|omega)))
        have e10 : v * 256 + x = leV (l.drop q):=by rw [e1];omega
        refine ⟨q,by omega,by omega,nm [],Wk.of ?_⟩
        simp (disch:=omega) only [go_sem,Int.reduceEq,↓reduceIte,reduceCtorEq,Nat.reduceEqDiff,Nat.reduceLT,Nat.reduceLeDiff,Nat.reduceAdd,Nat.reduceSub,Nat.reduceMul,Int.reduceToNat,Int.reduceLE,Int.reduceLT,E0,e10]
      · obtain rfl : k = 0:=by omega
        repeat' first
 | refine AW.seq ?_
 | refine AW.block ?_
 | refine AW.regl E0_ok [0,2,3,4,5,8,13] ?_
 | refine then_n ?_
 | refine then_r ?_
 | refine then_x ?_
 | refine block_x ?_
 | refine block_o (by decide) ?_
 | refine block_n ?_
 | refine block_r ?_
 | refine AW.skip ?_
 | refine AW.ret ?_
 | refine AW.exit ?_
 | refine AW.cond rfl ?_ ?_
 | refine awl_none rfl ?_
 | refine awl_nil2 ?_
 | (refine fun (hc : _ = _)=>?_;first|cases hc|((try rw [hc]);(try simp only [stH] at hc);(try (exfalso;omega)));(try (show Awl _ _ _ _ _;simp only [stU])))
 | ((first|refine fun (K : V → List _ → _) hK=>?_|refine fun (_ : V → V)=>?_);simp (disch:=omega) only [go_sem,Int.reduceEq,↓reduceIte,reduceCtorEq,Nat.reduceEqDiff,Nat.reduceLT,Nat.reduceLeDiff,Nat.reduceAdd,Nat.reduceSub,Nat.reduceMul,Int.reduceToNat,Int.reduceLE,Int.reduceLT,E0];(try (revert hK;intro hK;(repeat' first|(refine And.intro ?_ ?_)|(intro hc;first|cases hc|((try rw [hc]);(try simp only [stH] at hc);(try (exfalso;omega)))));all_goals first|(refine hK _ _ ?_;clear hK K;simp only [stU])|exact hK|omega)))
        (refine Ends.of (nm []) (by first|exact .inl rfl|exact .inr rfl) ?_;simp (disch:=omega) only [go_sem,Int.reduceEq,↓reduceIte,reduceCtorEq,Nat.reduceEqDiff,Nat.reduceLT,Nat.reduceLeDiff,Nat.reduceAdd,Nat.reduceSub,Nat.reduceMul,Int.reduceToNat,Int.reduceLE,Int.reduceLT,E0,List.drop_zero])
theorem ent_field_Get : Ent Try.prog 70:=⟨_,Try.func70,rfl,by decide⟩
end Go.Proofs.Ytigkcigoiinkpaa.Am
end
section
set_option linter.unusedVariables false
set_option linter.unusedSimpArgs false
set_option maxRecDepth 10000
set_option maxHeartbeats 0
namespace Go.Proofs.Ytigkcigoiinkpaa.Am
open Go Go.RowKit Go.Proofs
noncomputable def G1 : Env:=⟨Try.prog,fun f ds out=>(f = 70 ∧ Sp_field_Get ds out),Es,fun _=>false⟩
theorem G1_sp : ∀ f ds out,G1.Sp f ds out → Ent G1.P f ∧ Good G1.P f (fun a b=>a = ds ∧ b = out):=by
  rintro f ds out ⟨rfl,h⟩
  exact ⟨ent_field_Get,good_field_Get.one h⟩
theorem G1_ok : G1.Ok:=⟨G1_sp,Es_ok⟩
theorem take_mB (l : List Int) (n : Nat) : (l.map mB).take n = (l.take n).map mB:=List.map_take.symm
theorem drop_mB (l : List Int) (n : Nat) : (l.map mB).drop n = (l.drop n).map mB:=List.map_drop.symm
theorem snoc_I (l : List Int) (x : Int) : l.map mI ++ [D.v (.int .i64 x)] = (l ++ [x]).map mI:=by simp [mI]
def takeOut (l ws : List Int) : Out:=match takeL l ws with
  | none=>⟨.tup [.nil,.d (.v (.bool false))],[]⟩
  | some r=>⟨.tup [.sl 0 1 0 r.length true,.d (.v (.bool true))],[(0,.row 3 1 (r.map mI))]⟩
def Sp_field_Take (ds : List D) (out : Out) : Prop:=∃ l ws : List Int,ds = [.list (l.map mB),.list (ws.map mI)] ∧ Byt l ∧ l.length ≤ 9223372036854775807 ∧ ws.length ≤ 1000000000000 ∧ out = takeOut l ws
def bb_field_Take_8 : List Nat:=[0,0,2,7,0,0,48,15,255]
def cc_field_Take_8 : List (List (Option Bool)):=[[some false,none,none,some false,none,none,none,some false,some false],[none,some false,some false,some false,none,none,none,some false,some false],[none,some true,some false,some false,none,none,none,some false,some false],[some true,some true,some true,some false,none,none,none,some false,some false],[none,none,none,none,some false,none,some false,none,some false],[none,none,none,none,none,some false,some false,none,some false],[none,none,none,none,some true,some true,some false,none,some false],[some true,some true,some true,some true,none,none,none,some false,some false],[some true,some true,some true,some true,some true,some true,some true,some true,some false]]
theorem good_field_Take : Good Try.prog 69 Sp_field_Take:=by
  refine good_body (E:=G1) (nt:=45) (rs:=#[.tmp 4,.tmp 5]) Try.func69 rfl rfl rfl ?_
  rintro ds out ⟨l,ws,rfl,hb,hl,hw,rfl⟩
  refine ⟨by simp,?_⟩
  repeat' first
 | refine AW.seq ?_
 | refine AW.block ?_
 | refine AW.regl G1_ok [0,1,4,5,6,8,9,11,12,13,14,28] ?_
 | (refine AW.regc (id:=8) G1_ok follows bb_field_Take_8 (by kernel_rfl) [0,1,4,5,6,8,9,11,12,13,14,28] ?_)
 | refine then_n ?_
 | refine then_r ?_
 | refine then_x ?_
 | refine block_x ?_
 | refine block_o (by decide) ?_
 | refine block_n ?_
 | refine block_r ?_
 | refine AW.skip ?_
 | refine AW.ret ?_
 | refine AW.exit ?_
 | refine AW.cond rfl ?_ ?_
 | refine awl_none rfl ?_
 | refine awl_nil2 ?_
 | refine awl_some rfl rfl (Nat.le_of_ble_eq_true rfl) rfl rfl ?_ ?_
 | refine awc_none rfl ?_
 | exact each_nil
 | refine each_none rfl ?_ ?_
 | refine awc_leaf2 [some 36,some 37,some 38,some 39,some 40,some 41,some 42,some 6,some 0] cc_field_Take_8 rfl (by kernel_rfl) (by kernel_rfl) ?_ ?_
 | (refine fun (hc : _ = _)=>?_;first|cases hc|((try rw [hc]);(try simp only [stH] at hc);(try (exfalso;omega)));(try ((first|show Awl _ _ _ _ _|show Awc _ _ _ _ _ _);simp only [stU])))
 | ((first|refine fun (K : V → List _ → _) hK=>?_|refine fun (_ : V → V)=>?_|refine fun (bb : Nat → Bool) K hK=>?_);simp (disch:=omega) only [go_sem,Int.reduceEq,↓reduceIte,reduceCtorEq,Nat.reduceEqDiff,Nat.reduceLT,Nat.reduceLeDiff,Nat.reduceAdd,Nat.reduceSub,Nat.reduceMul,Int.reduceToNat,Int.reduceLE,Int.reduceLT,G1,Sp_field_Get,Sg3,St.updIf,ifc_nil,gt_ifc,go_ifc,ite_self,Option.none_or,Option.some_or];(try (revert hK;intro hK;(repeat' first|(refine And.intro ?_ ?_)|(intro hc;first|cases hc|((try rw [hc]);(try simp only [stH] at hc);(try (exfalso;omega)))));all_goals first|(refine hK _ _ ?_;clear hK K;simp only [stU])|exact hK|omega)))
  refine AW.loop_wk (fun p : Nat × List Int × List Int=>⟨[(0,.d (.list (p.2.1.map mB))),(6,.sl 100 1 0 p.2.2.length true),(11,.d (.list (ws.map mI))),(12,.d (.v (.int .i64 ws.length))),(13,.d (.v (.int .i64 p.1)))],[(100,.row 3 1 (p.2.2.map mI))],45⟩)
    (fun p=>p.1 ≤ ws.length ∧ Byt p.2.1 ∧ p.2.1.length ≤ l.length ∧ p.2.2.length = p.1 ∧ takeL l ws = (takeL p.2.1 (ws.drop p.1)).map (p.2.2 ++ ·)) (fun p=>ws.length - p.1) (0,l,[]) ⟨by omega,hb,Nat.le_refl _,rfl,by simp⟩ (fun w0 oa a w hs=>Wk.sr (ρ:=nm []) (Wk.of ?_) (nil_sr 6 100 3 1 rfl (by simp) rfl (by decide) hs)) ?_
  · simp (disch:=omega) only [go_sem,Int.reduceEq,↓reduceIte,reduceCtorEq,Nat.reduceEqDiff,Nat.reduceLT,Nat.reduceLeDiff,Nat.reduceAdd,Nat.reduceSub,Nat.reduceMul,Int.reduceToNat,Int.reduceLE,Int.reduceLT,G1,Sp_field_Get]
  · rintro ⟨k,m,r⟩ ⟨hk,hm,hml,hr,hv⟩
    simp only at hk hm hml hr hv
    by_cases hk1 : k < ws.length
    · have e1 : ws.drop k = ws.getD k 0 :: ws.drop (k + 1):=by rw [List.drop_eq_getElem_cons hk1];simp [List.getD_eq_getElem?_getD,hk1]
      have e2 : nth (ws.map mI) k = .v (.int .i64 (ws.getD k 0)):=nth_I ws k hk1
      rw [e1] at hv
      generalize ws.getD k 0 = w at *
      have hbt : Byt (m.take w.toNat) = True:=by simp only [eq_iff_iff,iff_true];exact byt_take hm _
      by_cases hc : w < 0 ∨ 7 < w ∨ (m.length : Int) < w
      · rw [takeL,if_pos hc,Option.map_none] at hv
        rw [takeOut,hv]
        repeat' first
 | refine AW.seq ?_
 | refine AW.block ?_
 | refine AW.regl G1_ok [0,1,4,5,6,8,9,11,12,13,14,28] ?_
 | (refine AW.regc (id:=8) G1_ok follows bb_field_Take_8 (by kernel_rfl) [0,1,4,5,6,8,9,11,12,13,14,28] ?_)
 | refine then_n ?_
 | refine then_r ?_
 | refine then_x ?_
 | refine block_x ?_
 | refine block_o (by decide) ?_
 | refine block_n ?_
 | refine block_r ?_
 | refine AW.skip ?_
 | refine AW.ret ?_
 | refine AW.exit ?_
 | refine AW.cond rfl ?_ ?_
 | refine awl_none rfl ?_
 | refine awl_nil2 ?_
 | refine awl_some rfl rfl (Nat.le_of_ble_eq_true rfl) rfl rfl ?_ ?_
 | refine awc_none rfl ?_
 | exact each_nil
 | refine each_none rfl ?_ ?_
 | refine awc_leaf2 [some 36,some 37,some 38,some 39,some 40,some 41,some 42,some 6,some 0] cc_field_Take_8 rfl (by kernel_rfl) (by kernel_rfl) ?_ ?_
 | (refine fun (hc : _ = _)=>?_;first|cases hc|((try rw [hc]);(try simp only [stH] at hc);(try (exfalso;omega)));(try ((first|show Awl _ _ _ _ _|show Awc _ _ _ _ _ _);simp only [stU])))
 | ((first|refine fun (K : V → List _ → _) hK=>?_|refine fun (_ : V → V)=>?_|refine fun (bb : Nat → Bool) K hK=>?_);simp (disch:=omega) only [go_sem,Int.reduceEq,↓reduceIte,reduceCtorEq,Nat.reduceEqDiff,Nat.reduceLT,Nat.reduceLeDiff,Nat.reduceAdd,Nat.reduceSub,Nat.reduceMul,Int.reduceToNat,Int.reduceLE,Int.reduceLT,G1,Sp_field_Get,e2,all_I,Sg3,St.updIf,ifc_nil,gt_ifc,go_ifc,ite_self,Option.none_or,Option.some_or];(try (revert hK;intro hK;(repeat' first|(refine And.intro ?_ ?_)|(intro hc;first|cases hc|((try rw [hc]);(try simp only [stH] at hc);(try (exfalso;omega)))));all_goals first|(refine hK _ _ ?_;clear hK K;simp only [stU])|exact hK|omega)))
        all_goals (refine Ends.of (nm []) (by first|exact .inl rfl|exact .inr rfl) ?_;simp (disch:=omega) only [go_sem,Int.reduceEq,↓reduceIte,reduceCtorEq,Nat.reduceEqDiff,Nat.reduceLT,Nat.reduceLeDiff,Nat.reduceAdd,Nat.reduceSub,Nat.reduceMul,Int.reduceToNat,Int.reduceLE,Int.reduceLT,G1,Sp_field_Get])
      · have hg : getOut (m.take w.toNat) = ⟨.tup [.d (.v (.int .i64 (leV (m.take w.toNat)))),.d (.v (.bool true))],[]⟩:=by rw [getOut,if_neg (by rw [List.length_take];omega)]
        have hlt : (m.take w.toNat).length ≤ 7:=by rw [List.length_take];omega
        rw [takeL,if_neg hc] at hv
        repeat' first
 | refine AW.seq ?_
 | refine AW.block ?_
 | refine AW.regl G1_ok [0,1,4,5,6,8,9,11,12,13,14,28] ?_
 | (refine AW.regc (id:=8) G1_ok follows bb_field_Take_8 (by kernel_rfl) [0,1,4,5,6,8,9,11,12,13,14,28] ?_)
 | refine then_n ?_
 | refine then_r ?_
 | refine then_x ?_
 | refine block_x ?_
 | refine block_o (by decide) ?_
 | refine block_n ?_
 | refine block_r ?_
 | refine AW.skip ?_
 | refine AW.ret ?_
 | refine AW.exit ?_
 | refine AW.cond rfl ?_ ?_
 | refine awl_none rfl ?_
 | refine awl_nil2 ?_
 | refine awl_some rfl rfl (Nat.le_of_ble_eq_true rfl) rfl rfl ?_ ?_
 | refine awc_none rfl ?_
 | exact each_nil
 | refine each_none rfl ?_ ?_
 | refine awc_leaf2 [some 36,some 37,some 38,some 39,some 40,some 41,some 42,some 6,some 0] cc_field_Take_8 rfl (by kernel_rfl) (by kernel_rfl) ?_ ?_
 | (refine fun (hc : _ = _)=>?_;first|cases hc|((try rw [hc]);(try simp only [stH] at hc);(try (exfalso;omega)));(try ((first|show Awl _ _ _ _ _|show Awc _ _ _ _ _ _);simp only [stU])))
 | ((first|refine fun (K : V → List _ → _) hK=>?_|refine fun (_ : V → V)=>?_|refine fun (bb : Nat → Bool) K hK=>?_);simp (disch:=omega) only [go_sem,Int.reduceEq,↓reduceIte,reduceCtorEq,Nat.reduceEqDiff,Nat.reduceLT,Nat.reduceLeDiff,Nat.reduceAdd,Nat.reduceSub,Nat.reduceMul,Int.reduceToNat,Int.reduceLE,Int.reduceLT,G1,Sp_field_Get,e2,all_I,all_B,hbt,hg,take_mB,drop_mB,mB_inj,snoc_I,List.take_length,Sg3,St.updIf,ifc_nil,gt_ifc,go_ifc,ite_self,Option.none_or,Option.some_or];(try (revert hK;intro hK;(repeat' first|(refine And.intro ?_ ?_)|(intro hc;first|cases hc|((try rw [hc]);(try simp only [stH] at hc);(try (exfalso;omega)))));all_goals first|(refine hK _ _ ?_;clear hK K;simp only [stU])|exact hK|omega)))
        have hd : (m.drop w.toNat).length ≤ l.length:=by rw [List.length_drop];omega
        have hrl : (r ++ [leV (m.take w.toNat)]).length = k + 1:=by simp [hr]
        refine ⟨(k + 1,m.drop w.toNat,r ++ [leV (m.take w.toNat)]),by dsimp only;omega,byt_drop hm _,hd,hrl,?_,by dsimp only;omega,nm [(100,39)],Wk.of ?_⟩
        · dsimp only
          rw [hv,Option.map_map]
          congr 1
          funext x
          simp
        · simp (disch:=omega) only [go_sem,Int.reduceEq,↓reduceIte,reduceCtorEq,Nat.reduceEqDiff,Nat.reduceLT,Nat.reduceLeDiff,Nat.reduceAdd,Nat.reduceSub,Nat.reduceMul,Int.reduceToNat,Int.reduceLE,Int.reduceLT,G1,Sp_field_Get]
          rfl
    · obtain rfl : k = ws.length:=by omega
      have hz : takeL l ws = some r:=by rw [hv,List.drop_length,takeL];simp
      rw [takeOut,hz]
      repeat' first
 | refine AW.seq ?_
 | refine AW.block ?_
 | refine AW.regl G1_ok [0,1,4,5,6,8,9,11,12,13,14,28] ?_
 | (refine AW.regc (id:=8) G1_ok follows bb_field_Take_8 (by kernel_rfl) [0,1,4,5,6,8,9,11,12,13,14,28] ?_)
 | refine then_n ?_
 | refine then_r ?_
 | refine then_x ?_
 | refine block_x ?_
 | refine block_o (by decide) ?_
 | refine block_n ?_
 | refine block_r ?_
 | refine AW.skip ?_
 | refine AW.ret ?_
 | refine AW.exit ?_
 | refine AW.cond rfl ?_ ?_
 | refine awl_none rfl ?_
 | refine awl_nil2 ?_
 | refine awl_some rfl rfl (Nat.le_of_ble_eq_true rfl) rfl rfl ?_ ?_
 | refine awc_none rfl ?_
 | exact each_nil
 | refine each_none rfl ?_ ?_
 | refine awc_leaf2 [some 36,some 37,some 38,some 39,some 40,some 41,some 42,some 6,some 0] cc_field_Take_8 rfl (by kernel_rfl) (by kernel_rfl) ?_ ?_
 | (refine fun (hc : _ = _)=>?_;first|cases hc|((try rw [hc]);(try simp only [stH] at hc);(try (exfalso;omega)));(try ((first|show Awl _ _ _ _ _|show Awc _ _ _ _ _ _);simp only [stU])))
 | ((first|refine fun (K : V → List _ → _) hK=>?_|refine fun (_ : V → V)=>?_|refine fun (bb : Nat → Bool) K hK=>?_);simp (disch:=omega) only [go_sem,Int.reduceEq,↓reduceIte,reduceCtorEq,Nat.reduceEqDiff,Nat.reduceLT,Nat.reduceLeDiff,Nat.reduceAdd,Nat.reduceSub,Nat.reduceMul,Int.reduceToNat,Int.reduceLE,Int.reduceLT,G1,Sp_field_Get,Sg3,St.updIf,ifc_nil,gt_ifc,go_ifc,ite_self,Option.none_or,Option.some_or];(try (revert hK;intro hK;(repeat' first|(refine And.intro ?_ ?_)|(intro hc;first|cases hc|((try rw [hc]);(try simp only [stH] at hc);(try (exfalso;omega)))));all_goals first|(refine hK _ _ ?_;clear hK K;simp only [stU])|exact hK|omega)))
      all_goals (refine Ends.of (nm [(0,100)]) (by first|exact .inl rfl|exact .inr rfl) ?_;simp (disch:=omega) only [go_sem,Int.reduceEq,↓reduceIte,reduceCtorEq,Nat.reduceEqDiff,Nat.reduceLT,Nat.reduceLeDiff,Nat.reduceAdd,Nat.reduceSub,Nat.reduceMul,Int.reduceToNat,Int.reduceLE,Int.reduceLT,G1,Sp_field_Get])
theorem ent_field_Take : Ent Try.prog 69:=⟨_,Try.func69,rfl,by decide⟩
end Go.Proofs.Ytigkcigoiinkpaa.Am
end
section
set_option linter.unusedVariables false
set_option linter.unusedSimpArgs false
set_option maxRecDepth 10000
set_option maxHeartbeats 0
namespace Go.Proofs.Ytigkcigoiinkpaa.Am
open Go Go.RowKit Go.Proofs
end Go.Proofs.Ytigkcigoiinkpaa.Am
end
section
set_option linter.unusedVariables false
set_option linter.unusedSimpArgs false
set_option maxRecDepth 10000
set_option maxHeartbeats 0
namespace Go.Proofs.Ytigkcigoiinkpaa.Am
open Go Go.RowKit Go.Proofs
section
variable {k t a b : Int} {l : List Xt}
end
end Go.Proofs.Ytigkcigoiinkpaa.Am
end
section
set_option linter.unusedVariables false
set_option linter.unusedSimpArgs false
set_option maxRecDepth 10000
set_option maxHeartbeats 0
namespace Go.Proofs.Ytigkcigoiinkpaa.Am
open Go Go.RowKit Go.Proofs
theorem wd_1 : wd 1 = 1:=rfl
theorem wd_2 : wd 2 = 2:=rfl
theorem putB_take (n : Int) (m : Nat) : ((putB n m).map mB).take m = (putB n m).map mB:=List.take_of_length_le (by simp [putB])
theorem Y5 (a b c d e : List Int) (l : List (List Int)) : ([D.list (a.map mB),D.list (b.map mB),D.list (c.map mB),D.list (d.map mB),D.list (e.map mB)] = l.map bys) = (l = [a,b,c,d,e]):=by
  rw [show [D.list (a.map mB),D.list (b.map mB),D.list (c.map mB),D.list (d.map mB),D.list (e.map mB)] = [a,b,c,d,e].map bys from rfl,Y_inj]
  exact propext eq_comm
def exP (f0 f1 f2 f3 f4 : Int) : List Int:=putB (max 0 f0) 2 ++ (putB (max 0 f1) 2 ++ (putB (max 0 f2) 1 ++ (putB (max 0 f3) 1 ++ putB (max 0 f4) 1)))
theorem exP_eq (e : Xt) : exP e.f0 e.f1 e.f2 e.f3 e.f4 = exB e:=by simp only [exP,exB,putB_leB]
theorem exP_fold (f0 f1 f2 f3 f4 : Int) : putB (max 0 f0) 2 ++ (putB (max 0 f1) 2 ++ (putB (max 0 f2) 1 ++ (putB (max 0 f3) 1 ++ putB (max 0 f4) 1))) = exP f0 f1 f2 f3 f4:=rfl
theorem exP_len (f0 f1 f2 f3 f4 : Int) : (exP f0 f1 f2 f3 f4).length = 7:=by simp [exP,putB_len]
theorem exP_take (f0 f1 f2 f3 f4 : Int) : ((exP f0 f1 f2 f3 f4).map mB).take 7 = (exP f0 f1 f2 f3 f4).map mB:=List.take_of_length_le (by simp [exP_len])
theorem exsB_snoc (l : List Xt) (e : Xt) : exsB (l ++ [e]) = exsB l ++ exB e:=by simp [exsB]
theorem take_snoc (l : List Xt) (k : Nat) (h : k < l.length) : l.take (k + 1) = l.take k ++ [l.getD k x0]:=by
  rw [List.take_succ_eq_append_getElem h];simp [List.getD_eq_getElem?_getD,h]
noncomputable def E3 : Env:=⟨Try.prog,fun f ds out=>(f = 49 ∧ Sp_field_Put ds out) ∨ (f = 48 ∧ Sp_field_Join ds out),Es,fun _=>false⟩
theorem E3_sp : ∀ f ds out,E3.Sp f ds out → Ent E3.P f ∧ Good E3.P f (fun a b=>a = ds ∧ b = out):=by
  rintro f ds out (⟨rfl,h⟩|⟨rfl,h⟩)
  · exact ⟨ent_field_Put,good_field_Put.one h⟩
  · exact ⟨ent_field_Join,good_field_Join.one h⟩
theorem E3_ok : E3.Ok:=⟨E3_sp,Es_ok⟩
def Sp_record_Extents (ds : List D) (out : Out) : Prop:=∃ l : List Xt,ds = [.list (l.map eD)] ∧ l.length < 1000000 ∧ (∀ e ∈ l,numE e) ∧ out = ⟨.sl 0 1 0 (exsB l).length true,[(0,.row 5 1 ((exsB l).map mB))]⟩
def bb_record_Extents_5 : List Nat:=[0,0,2,6,0,16,62,0,128,510,0,1024,4094,0,8192,32766,65534,131070,262143,524287]
def cc_record_Extents_5 : List (List (Option Bool)):=[[some false,none,none,none,none,none,none,none,none,none,none,none,none,none,none,none,none,none,some false,some false],[none,some false,some false,some false,none,none,some false,none,none,some false,none,none,some false,none,none,some false,some false,some false,some false,some false],[none,some true,some false,some false,none,none,some false,none,none,some false,none,none,some false,none,none,some false,some false,some false,some false,some false],[none,some true,some true,some false,none,none,some false,none,none,some false,none,none,some false,none,none,some false,some false,some false,some false,some false],[none,none,none,none,some false,some false,some false,none,none,some false,none,none,some false,none,none,some false,some false,some false,some false,some false],[none,none,none,none,some true,some false,some false,none,none,some false,none,none,some false,none,none,some false,some false,some false,some false,some false],[none,some true,some true,some true,some true,some true,some false,none,none,some false,none,none,some false,none,none,some false,some false,some false,some false,some false],[none,none,none,none,none,none,none,some false,some false,some false,none,none,some false,none,none,some false,some false,some false,some false,some false],[none,none,none,none,none,none,none,some true,some false,some false,none,none,some false,none,none,some false,some false,some false,some false,some false],[none,some true,some true,some true,some true,some true,some true,some true,some true,some false,none,none,some false,none,none,some false,some false,some false,some false,some false],[none,none,none,none,none,none,none,none,none,none,some false,some false,some false,none,none,some false,some false,some false,some false,some false],[none,none,none,none,none,none,none,none,none,none,some true,some false,some false,none,none,some false,some false,some false,some false,some false],[none,some true,some true,some true,some true,some true,some true,some true,some true,some true,some true,some true,some false,none,none,some false,some false,some false,some false,some false],[none,none,none,none,none,none,none,none,none,none,none,none,none,some false,some false,some false,some false,some false,some false,some false],[none,none,none,none,none,none,none,none,none,none,none,none,none,some true,some false,some false,some false,some false,some false,some false],[none,some true,some true,some true,some true,some true,some true,some true,some true,some true,some true,some true,some true,some true,some true,some false,some false,some false,some false,some false],[none,some true,some true,some true,some true,some true,some true,some true,some true,some true,some true,some true,some true,some true,some true,some true,some false,some false,some false,some false],[none,some true,some true,some true,some true,some true,some true,some true,some true,some true,some true,some true,some true,some true,some true,some true,some true,some false,some false,some false],[some true,some true,some true,some true,some true,some true,some true,some true,some true,some true,some true,some true,some true,some true,some true,some true,some true,some true,some false,some false],[some true,some true,some true,some true,some true,some true,some true,some true,some true,some true,some true,some true,some true,some true,some true,some true,some true,some true,some true,some false]]
theorem good_record_Extents : Good Try.prog 51 Sp_record_Extents:=by
  refine good_body (E:=E3) (nt:=33) (rs:=#[.tmp 2]) Try.func51 rfl rfl rfl ?_
  rintro ds out ⟨l,rfl,hl,hn,rfl⟩
  refine ⟨by simp,?_⟩
  repeat' first
 | refine AW.seq ?_
 | refine AW.block ?_
 | refine AW.regl E3_ok [0,2,3,5,6,7,8,9] ?_
 | (refine AW.regc (id:=5) E3_ok follows bb_record_Extents_5 (by kernel_rfl) [0,2,3,5,6,7,8,9] ?_)
 | refine then_n ?_
 | refine then_r ?_
 | refine then_x ?_
 | refine block_x ?_
 | refine block_o (by decide) ?_
 | refine block_n ?_
 | refine block_r ?_
 | refine AW.skip ?_
 | refine AW.ret ?_
 | refine AW.exit ?_
 | refine AW.cond rfl ?_ ?_
 | refine awl_none rfl ?_
 | refine awl_nil2 ?_
 | refine awc_none rfl ?_
 | exact each_nil
 | refine each_none rfl ?_ ?_
 | refine awc_leaf2 [some 12,some 13,some 14,some 15,some 16,some 17,some 18,some 19,some 20,some 21,some 22,some 23,some 24,some 25,some 26,some 27,some 28,some 29,some 30,some 3] cc_record_Extents_5 rfl (by kernel_rfl) (by kernel_rfl) ?_ ?_
 | (refine fun (hc : _ = _)=>?_;first|cases hc|((try rw [hc]);(try simp only [stH] at hc);(try (exfalso;omega)));(try ((first|show Awl _ _ _ _ _|show Awc _ _ _ _ _ _);simp only [stU])))
 | ((first|refine fun (K : V → List _ → _) hK=>?_|refine fun (_ : V → V)=>?_|refine fun (bb : Nat → Bool) K hK=>?_);simp (disch:=omega) only [go_sem,Int.reduceEq,↓reduceIte,reduceCtorEq,Nat.reduceEqDiff,Nat.reduceLT,Nat.reduceLeDiff,Nat.reduceAdd,Nat.reduceSub,Nat.reduceMul,Int.reduceToNat,Int.reduceLE,Int.reduceLT,E3,Sp_field_Put,Sp_field_Join,Sg3,St.updIf,ifc_nil,gt_ifc,go_ifc,ite_self,Option.none_or,Option.some_or];(try (revert hK;intro hK;(repeat' first|(refine And.intro ?_ ?_)|(intro hc;first|cases hc|((try rw [hc]);(try simp only [stH] at hc);(try (exfalso;omega)))));all_goals first|(refine hK _ _ ?_;clear hK K;simp only [stU])|exact hK|omega)))
  refine AW.loop_wk (fun k : Nat=>⟨[(3,.sl 100 1 0 (exsB (l.take k)).length true),(6,.d (.list (l.map eD))),(7,.d (.v (.int .i64 l.length))),(8,.d (.v (.int .i64 k)))],[(100,.row 5 1 ((exsB (l.take k)).map mB))],33⟩)
    (fun k=>k ≤ l.length) (fun k=>l.length - k) 0 (by omega) (fun w0 oa a w hs=>Wk.sr (ρ:=nm []) (Wk.of ?_) (nil_sr 3 100 5 1 rfl (by simp) rfl (by decide) hs)) ?_
  · simp (disch:=omega) only [go_sem,Int.reduceEq,↓reduceIte,reduceCtorEq,Nat.reduceEqDiff,Nat.reduceLT,Nat.reduceLeDiff,Nat.reduceAdd,Nat.reduceSub,Nat.reduceMul,Int.reduceToNat,Int.reduceLE,Int.reduceLT,E3,Sp_field_Put,Sp_field_Join]
    first|done|exact ⟨rfl,rfl⟩|exact ⟨rfl,rfl,rfl⟩|rfl
  · intro k hk
    by_cases hk1 : k < l.length
    · have e1:=hn (l.getD k x0) (by rw [List.getD_eq_getElem?_getD,List.getElem?_eq_getElem hk1];exact List.getElem_mem hk1)
      have e2:=nth_E l k hk1
      have e4 : exsB (l.take (k + 1)) = exsB (l.take k) ++ exB (l.getD k x0):=by rw [take_snoc l k hk1,exsB_snoc]
      have e5:=exsB_length (l.take k)
      have e6 : (l.take k).length = k:=by rw [List.length_take];omega
      have e7:=exP_eq (l.getD k x0)
      generalize l.getD k x0 = e at *
      obtain ⟨f0,f1,f2,f3,f4⟩:=e
      unfold numE at e1
      simp only at e1 e7
      repeat' first
 | refine AW.seq ?_
 | refine AW.block ?_
 | refine AW.regl E3_ok [0,2,3,5,6,7,8,9] ?_
 | (refine AW.regc (id:=5) E3_ok follows bb_record_Extents_5 (by kernel_rfl) [0,2,3,5,6,7,8,9] ?_)
 | refine then_n ?_
 | refine then_r ?_
 | refine then_x ?_
 | refine block_x ?_
 | refine block_o (by decide) ?_
 | refine block_n ?_
 | refine block_r ?_
 | refine AW.skip ?_
 | refine AW.ret ?_
 | refine AW.exit ?_
 | refine AW.cond rfl ?_ ?_
 | refine awl_none rfl ?_
 | refine awl_nil2 ?_
 | refine awc_none rfl ?_
 | exact each_nil
 | refine each_none rfl ?_ ?_
 | refine awc_leaf2 [some 12,some 13,some 14,some 15,some 16,some 17,some 18,some 19,some 20,some 21,some 22,some 23,some 24,some 25,some 26,some 27,some 28,some 29,some 30,some 3] cc_record_Extents_5 rfl (by kernel_rfl) (by kernel_rfl) ?_ ?_
 | (refine fun (hc : _ = _)=>?_;first|cases hc|((try rw [hc]);(try simp only [stH] at hc);(try (exfalso;omega)));(try ((first|show Awl _ _ _ _ _|show Awc _ _ _ _ _ _);simp only [stU])))
 | ((first|refine fun (K : V → List _ → _) hK=>?_|refine fun (_ : V → V)=>?_|refine fun (bb : Nat → Bool) K hK=>?_);simp (disch:=omega) only [go_sem,Int.reduceEq,↓reduceIte,reduceCtorEq,Nat.reduceEqDiff,Nat.reduceLT,Nat.reduceLeDiff,Nat.reduceAdd,Nat.reduceSub,Nat.reduceMul,Int.reduceToNat,Int.reduceLE,Int.reduceLT,E3,Sp_field_Put,Sp_field_Join,e2,eD,mI_eq,wd_1,wd_2,putB_take,Y5,putB_len,exP_fold,exP_len,exP_take,List.flatten_cons,List.flatten_nil,Sg3,St.updIf,ifc_nil,gt_ifc,go_ifc,ite_self,Option.none_or,Option.some_or];(try (revert hK;intro hK;(repeat' first|(refine And.intro ?_ ?_)|(intro hc;first|cases hc|((try rw [hc]);(try simp only [stH] at hc);(try (exfalso;omega)))));all_goals first|(refine hK _ _ ?_;clear hK K;simp only [stU])|exact hK|omega)))
      refine ⟨k + 1,by omega,by omega,nm [(100,30)],Wk.of ?_⟩
      have e8 : (exsB (l.take k)).length + 7 = (exsB (l.take (k + 1))).length:=by rw [e4,List.length_append,exB_length]
      simp (disch:=omega) only [go_sem,Int.reduceEq,↓reduceIte,reduceCtorEq,Nat.reduceEqDiff,Nat.reduceLT,Nat.reduceLeDiff,Nat.reduceAdd,Nat.reduceSub,Nat.reduceMul,Int.reduceToNat,Int.reduceLE,Int.reduceLT,E3,Sp_field_Put,Sp_field_Join,e8]
      exact ⟨rfl,by rw [e4,List.map_append,e7]⟩
    · obtain rfl : k = l.length:=by omega
      repeat' first
 | refine AW.seq ?_
 | refine AW.block ?_
 | refine AW.regl E3_ok [0,2,3,5,6,7,8,9] ?_
 | (refine AW.regc (id:=5) E3_ok follows bb_record_Extents_5 (by kernel_rfl) [0,2,3,5,6,7,8,9] ?_)
 | refine then_n ?_
 | refine then_r ?_
 | refine then_x ?_
 | refine block_x ?_
 | refine block_o (by decide) ?_
 | refine block_n ?_
 | refine block_r ?_
 | refine AW.skip ?_
 | refine AW.ret ?_
 | refine AW.exit ?_
 | refine AW.cond rfl ?_ ?_
 | refine awl_none rfl ?_
 | refine awl_nil2 ?_
 | refine awc_none rfl ?_
 | exact each_nil
 | refine each_none rfl ?_ ?_
 | refine awc_leaf2 [some 12,some 13,some 14,some 15,some 16,some 17,some 18,some 19,some 20,some 21,some 22,some 23,some 24,some 25,some 26,some 27,some 28,some 29,some 30,some 3] cc_record_Extents_5 rfl (by kernel_rfl) (by kernel_rfl) ?_ ?_
 | (refine fun (hc : _ = _)=>?_;first|cases hc|((try rw [hc]);(try simp only [stH] at hc);(try (exfalso;omega)));(try ((first|show Awl _ _ _ _ _|show Awc _ _ _ _ _ _);simp only [stU])))
 | ((first|refine fun (K : V → List _ → _) hK=>?_|refine fun (_ : V → V)=>?_|refine fun (bb : Nat → Bool) K hK=>?_);simp (disch:=omega) only [go_sem,Int.reduceEq,↓reduceIte,reduceCtorEq,Nat.reduceEqDiff,Nat.reduceLT,Nat.reduceLeDiff,Nat.reduceAdd,Nat.reduceSub,Nat.reduceMul,Int.reduceToNat,Int.reduceLE,Int.reduceLT,E3,Sp_field_Put,Sp_field_Join,Sg3,St.updIf,ifc_nil,gt_ifc,go_ifc,ite_self,Option.none_or,Option.some_or];(try (revert hK;intro hK;(repeat' first|(refine And.intro ?_ ?_)|(intro hc;first|cases hc|((try rw [hc]);(try simp only [stH] at hc);(try (exfalso;omega)))));all_goals first|(refine hK _ _ ?_;clear hK K;simp only [stU])|exact hK|omega)))
      (refine Ends.of (nm [(0,100)]) (by first|exact .inl rfl|exact .inr rfl) ?_;simp (disch:=omega) only [go_sem,Int.reduceEq,↓reduceIte,reduceCtorEq,Nat.reduceEqDiff,Nat.reduceLT,Nat.reduceLeDiff,Nat.reduceAdd,Nat.reduceSub,Nat.reduceMul,Int.reduceToNat,Int.reduceLE,Int.reduceLT,E3,Sp_field_Put,Sp_field_Join,List.take_length])
theorem ent_record_Extents : Ent Try.prog 51:=⟨_,Try.func51,rfl,by decide⟩
end Go.Proofs.Ytigkcigoiinkpaa.Am
end
section
set_option linter.unusedVariables false
set_option linter.unusedSimpArgs false
set_option maxRecDepth 10000
set_option maxHeartbeats 0
namespace Go.Proofs.Ytigkcigoiinkpaa.Am
open Go Go.RowKit Go.Proofs
theorem W5 (a b c d e : Int) (ws : List Int) : ([D.v (.int .i64 a),D.v (.int .i64 b),D.v (.int .i64 c),D.v (.int .i64 d),D.v (.int .i64 e)] = ws.map mI) = (ws = [a,b,c,d,e]):=by
  rw [show [D.v (.int .i64 a),D.v (.int .i64 b),D.v (.int .i64 c),D.v (.int .i64 d),D.v (.int .i64 e)] = [a,b,c,d,e].map mI from rfl,mI_inj]
  exact propext eq_comm
theorem snocE (l : List Xt) (a b c d e : Int) : l.map eD ++ [D.agg [.v (.int .i64 a),.v (.int .i64 b),.v (.int .i64 c),.v (.int .i64 d),.v (.int .i64 e)]] = (l ++ [Xt.mk a b c d e]).map eD:=by simp [eD,mI]
noncomputable def G2 : Env:=⟨Try.prog,fun f ds out=>(f = 69 ∧ Sp_field_Take ds out),Es,fun _=>false⟩
theorem G2_sp : ∀ f ds out,G2.Sp f ds out → Ent G2.P f ∧ Good G2.P f (fun a b=>a = ds ∧ b = out):=by
  rintro f ds out ⟨rfl,h⟩
  exact ⟨ent_field_Take,good_field_Take.one h⟩
theorem G2_ok : G2.Ok:=⟨G2_sp,Es_ok⟩
def texOut (l : List Int) (n : Int) : Out:=if n < 0 ∨ (l.length : Int) % 7 ≠ 0 ∨ (l.length : Int) / 7 ≠ n then ⟨.tup [.nil,.d (.v (.bool false))],[]⟩
  else ⟨.tup [.sl 0 5 0 (takeE l n.toNat).length true,.d (.v (.bool true))],[(0,.row 42 5 ((takeE l n.toNat).map eD))]⟩
def Sp_record_TakeExtents (ds : List D) (out : Out) : Prop:=∃ (l : List Int) (n : Int),ds = [.list (l.map mB),.v (.int .i64 n)] ∧ Byt l ∧ l.length ≤ 1000000000000 ∧ out = texOut l n
def bb_record_TakeExtents_7 : List Nat:=[0,0,2,6,0,16,48,0,128,384,0,1024,3072,0,8192,24576,65534,131070,262143,0,524288,524287,4194303]
def cc_record_TakeExtents_7 : List (List (Option Bool)):=[[some false,none,none,none,none,none,none,none,none,none,none,none,none,none,none,none,none,none,some false,none,none,some false,some false],[none,some false,some false,some false,none,none,none,none,none,none,none,none,none,none,none,none,some false,some false,some false,none,none,some false,some false],[none,some true,some false,some false,none,none,none,none,none,none,none,none,none,none,none,none,some false,some false,some false,none,none,some false,some false],[none,some true,some true,some false,none,none,none,none,none,none,none,none,none,none,none,none,some false,some false,some false,none,none,some false,some false],[none,none,none,none,some false,some false,some false,none,none,none,none,none,none,none,none,none,some false,some false,some false,none,none,some false,some false],[none,none,none,none,some true,some false,some false,none,none,none,none,none,none,none,none,none,some false,some false,some false,none,none,some false,some false],[none,none,none,none,some true,some true,some false,none,none,none,none,none,none,none,none,none,some false,some false,some false,none,none,some false,some false],[none,none,none,none,none,none,none,some false,some false,some false,none,none,none,none,none,none,some false,some false,some false,none,none,some false,some false],[none,none,none,none,none,none,none,some true,some false,some false,none,none,none,none,none,none,some false,some false,some false,none,none,some false,some false],[none,none,none,none,none,none,none,some true,some true,some false,none,none,none,none,none,none,some false,some false,some false,none,none,some false,some false],[none,none,none,none,none,none,none,none,none,none,some false,some false,some false,none,none,none,some false,some false,some false,none,none,some false,some false],[none,none,none,none,none,none,none,none,none,none,some true,some false,some false,none,none,none,some false,some false,some false,none,none,some false,some false],[none,none,none,none,none,none,none,none,none,none,some true,some true,some false,none,none,none,some false,some false,some false,none,none,some false,some false],[none,none,none,none,none,none,none,none,none,none,none,none,none,some false,some false,some false,some false,some false,some false,none,none,some false,some false],[none,none,none,none,none,none,none,none,none,none,none,none,none,some true,some false,some false,some false,some false,some false,none,none,some false,some false],[none,none,none,none,none,none,none,none,none,none,none,none,none,some true,some true,some false,some false,some false,some false,none,none,some false,some false],[none,some true,some true,some true,some true,some true,some true,some true,some true,some true,some true,some true,some true,some true,some true,some true,some false,some false,some false,none,none,some false,some false],[none,some true,some true,some true,some true,some true,some true,some true,some true,some true,some true,some true,some true,some true,some true,some true,some true,some false,some false,none,none,some false,some false],[some true,some true,some true,some true,some true,some true,some true,some true,some true,some true,some true,some true,some true,some true,some true,some true,some true,some true,some false,none,none,some false,some false],[none,none,none,none,none,none,none,none,none,none,none,none,none,none,none,none,none,none,none,some false,some false,none,some false],[none,none,none,none,none,none,none,none,none,none,none,none,none,none,none,none,none,none,none,some true,some false,none,some false],[some true,some true,some true,some true,some true,some true,some true,some true,some true,some true,some true,some true,some true,some true,some true,some true,some true,some true,some true,none,none,some false,some false],[some true,some true,some true,some true,some true,some true,some true,some true,some true,some true,some true,some true,some true,some true,some true,some true,some true,some true,some true,some true,some true,some true,some false]]
theorem good_record_TakeExtents : Good Try.prog 67 Sp_record_TakeExtents:=by
  refine good_body (E:=G2) (nt:=56) (rs:=#[.tmp 4,.tmp 5]) Try.func67 rfl rfl rfl ?_
  rintro ds out ⟨l,n,rfl,hb,hl,rfl⟩
  refine ⟨by simp,?_⟩
  have ht : (l.length : Int).tmod 7 = (l.length : Int) % 7:=Int.tmod_eq_emod_of_nonneg (by omega)
  have hd : (l.length : Int).tdiv 7 = (l.length : Int) / 7:=Int.tdiv_eq_ediv_of_nonneg (by omega)
  by_cases hc : n < 0 ∨ (l.length : Int) % 7 ≠ 0 ∨ (l.length : Int) / 7 ≠ n
  · rw [texOut,if_pos hc]
    repeat' first
 | refine AW.seq ?_
 | refine AW.block ?_
 | refine AW.regl G2_ok [0,1,4,5,6,7,23,24,25,26] ?_
 | (refine AW.regc (id:=7) G2_ok follows bb_record_TakeExtents_7 (by kernel_rfl) [0,1,4,5,6,7,23,24,25,26] ?_)
 | refine then_n ?_
 | refine then_r ?_
 | refine then_x ?_
 | refine block_x ?_
 | refine block_o (by decide) ?_
 | refine block_n ?_
 | refine block_r ?_
 | refine AW.skip ?_
 | refine AW.ret ?_
 | refine AW.exit ?_
 | refine AW.cond rfl ?_ ?_
 | refine awl_none rfl ?_
 | refine awl_nil2 ?_
 | refine awl_some rfl rfl (Nat.le_of_ble_eq_true rfl) rfl rfl ?_ ?_
 | refine awc_none rfl ?_
 | exact each_nil
 | refine each_none rfl ?_ ?_
 | refine awc_leaf2 [some 33,some 34,some 35,some 36,some 37,some 38,some 39,some 40,some 41,some 42,some 43,some 44,some 45,some 46,some 47,some 48,some 49,some 50,some 51,some 52,some 53,some 6,some 0] cc_record_TakeExtents_7 rfl (by kernel_rfl) (by kernel_rfl) ?_ ?_
 | (refine fun (hc : _ = _)=>?_;first|cases hc|((try rw [hc]);(try simp only [stH] at hc);(try (exfalso;omega)));(try ((first|show Awl _ _ _ _ _|show Awc _ _ _ _ _ _);simp only [stU])))
 | ((first|refine fun (K : V → List _ → _) hK=>?_|refine fun (_ : V → V)=>?_|refine fun (bb : Nat → Bool) K hK=>?_);simp (disch:=omega) only [go_sem,Int.reduceEq,↓reduceIte,reduceCtorEq,Nat.reduceEqDiff,Nat.reduceLT,Nat.reduceLeDiff,Nat.reduceAdd,Nat.reduceSub,Nat.reduceMul,Int.reduceToNat,Int.reduceLE,Int.reduceLT,G2,Sp_field_Take,ht,hd,Sg3,St.updIf,ifc_nil,gt_ifc,go_ifc,ite_self,Option.none_or,Option.some_or];(try (revert hK;intro hK;(repeat' first|(refine And.intro ?_ ?_)|(intro hc;first|cases hc|((try rw [hc]);(try simp only [stH] at hc);(try (exfalso;omega)))));all_goals first|(refine hK _ _ ?_;clear hK K;simp only [stU])|exact hK|omega)))
    all_goals (refine Ends.of (nm []) (by first|exact .inl rfl|exact .inr rfl) ?_;simp (disch:=omega) only [go_sem,Int.reduceEq,↓reduceIte,reduceCtorEq,Nat.reduceEqDiff,Nat.reduceLT,Nat.reduceLeDiff,Nat.reduceAdd,Nat.reduceSub,Nat.reduceMul,Int.reduceToNat,Int.reduceLE,Int.reduceLT,G2,Sp_field_Take])
  · rw [texOut,if_neg hc]
    obtain ⟨q,rfl⟩ : ∃ q : Nat,n = q:=⟨n.toNat,by omega⟩
    rw [Int.toNat_natCast]
    repeat' first
 | refine AW.seq ?_
 | refine AW.block ?_
 | refine AW.regl G2_ok [0,1,4,5,6,7,23,24,25,26] ?_
 | (refine AW.regc (id:=7) G2_ok follows bb_record_TakeExtents_7 (by kernel_rfl) [0,1,4,5,6,7,23,24,25,26] ?_)
 | refine then_n ?_
 | refine then_r ?_
 | refine then_x ?_
 | refine block_x ?_
 | refine block_o (by decide) ?_
 | refine block_n ?_
 | refine block_r ?_
 | refine AW.skip ?_
 | refine AW.ret ?_
 | refine AW.exit ?_
 | refine AW.cond rfl ?_ ?_
 | refine awl_none rfl ?_
 | refine awl_nil2 ?_
 | refine awl_some rfl rfl (Nat.le_of_ble_eq_true rfl) rfl rfl ?_ ?_
 | refine awc_none rfl ?_
 | exact each_nil
 | refine each_none rfl ?_ ?_
 | refine awc_leaf2 [some 33,some 34,some 35,some 36,some 37,some 38,some 39,some 40,some 41,some 42,some 43,some 44,some 45,some 46,some 47,some 48,some 49,some 50,some 51,some 52,some 53,some 6,some 0] cc_record_TakeExtents_7 rfl (by kernel_rfl) (by kernel_rfl) ?_ ?_
 | (refine fun (hc : _ = _)=>?_;first|cases hc|((try rw [hc]);(try simp only [stH] at hc);(try (exfalso;omega)));(try ((first|show Awl _ _ _ _ _|show Awc _ _ _ _ _ _);simp only [stU])))
 | ((first|refine fun (K : V → List _ → _) hK=>?_|refine fun (_ : V → V)=>?_|refine fun (bb : Nat → Bool) K hK=>?_);simp (disch:=omega) only [go_sem,Int.reduceEq,↓reduceIte,reduceCtorEq,Nat.reduceEqDiff,Nat.reduceLT,Nat.reduceLeDiff,Nat.reduceAdd,Nat.reduceSub,Nat.reduceMul,Int.reduceToNat,Int.reduceLE,Int.reduceLT,G2,Sp_field_Take,ht,hd,Sg3,St.updIf,ifc_nil,gt_ifc,go_ifc,ite_self,Option.none_or,Option.some_or];(try (revert hK;intro hK;(repeat' first|(refine And.intro ?_ ?_)|(intro hc;first|cases hc|((try rw [hc]);(try simp only [stH] at hc);(try (exfalso;omega)))));all_goals first|(refine hK _ _ ?_;clear hK K;simp only [stU])|exact hK|omega)))
    refine AW.loop_wk (fun p : Nat × List Int × List Xt=>⟨[(0,.d (.list (p.2.1.map mB))),(6,.sl 100 5 0 p.2.2.length true),(24,.d (.v (.int .i64 q))),(25,.d (.v (.int .i64 p.1)))],[(100,.row 42 5 (p.2.2.map eD))],56⟩)
      (fun p=>p.1 ≤ q ∧ Byt p.2.1 ∧ p.2.1.length = 7 * (q - p.1) ∧ p.2.2.length = p.1 ∧ takeE l q = p.2.2 ++ takeE p.2.1 (q - p.1)) (fun p=>q - p.1) (0,l,[]) ⟨by omega,hb,by dsimp only;omega,rfl,by simp⟩ (fun w0 oa a w hs=>Wk.sr (ρ:=nm []) (Wk.of ?_) (nil_sr 6 100 42 5 rfl (by simp) rfl (by decide) hs)) ?_
    · simp (disch:=omega) only [go_sem,Int.reduceEq,↓reduceIte,reduceCtorEq,Nat.reduceEqDiff,Nat.reduceLT,Nat.reduceLeDiff,Nat.reduceAdd,Nat.reduceSub,Nat.reduceMul,Int.reduceToNat,Int.reduceLE,Int.reduceLT,G2,Sp_field_Take]
    · rintro ⟨k,m,r⟩ ⟨hk,hm,hml,hr,hv⟩
      simp only at hk hm hml hr hv
      by_cases hk1 : k < q
      · have hg : takeOut m [2,2,1,1,1] = ⟨.tup [.sl 0 1 0 5 true,.d (.v (.bool true))],[(0,.row 3 1 [.v (.int .i64 (leV (m.take 2))),.v (.int .i64 (leV ((m.drop 2).take 2))),.v (.int .i64 (leV ((m.drop 4).take 1))),.v (.int .i64 (leV ((m.drop 5).take 1))),.v (.int .i64 (leV ((m.drop 6).take 1)))])]⟩:=by
          rw [takeOut,takeL_five (by omega)];rfl
        have hmt : Byt m = True:=by simp only [eq_iff_iff,iff_true];exact hm
        have e1 : q - k = (q - (k + 1)) + 1:=by omega
        rw [e1,takeE] at hv
        repeat' first
 | refine AW.seq ?_
 | refine AW.block ?_
 | refine AW.regl G2_ok [0,1,4,5,6,7,23,24,25,26] ?_
 | (refine AW.regc (id:=7) G2_ok follows bb_record_TakeExtents_7 (by kernel_rfl) [0,1,4,5,6,7,23,24,25,26] ?_)
 | refine then_n ?_
 | refine then_r ?_
 | refine then_x ?_
 | refine block_x ?_
 | refine block_o (by decide) ?_
 | refine block_n ?_
 | refine block_r ?_
 | refine AW.skip ?_
 | refine AW.ret ?_
 | refine AW.exit ?_
 | refine AW.cond rfl ?_ ?_
 | refine awl_none rfl ?_
 | refine awl_nil2 ?_
 | refine awl_some rfl rfl (Nat.le_of_ble_eq_true rfl) rfl rfl ?_ ?_
 | refine awc_none rfl ?_
 | exact each_nil
 | refine each_none rfl ?_ ?_
 | refine awc_leaf2 [some 33,some 34,some 35,some 36,some 37,some 38,some 39,some 40,some 41,some 42,some 43,some 44,some 45,some 46,some 47,some 48,some 49,some 50,some 51,some 52,some 53,some 6,some 0] cc_record_TakeExtents_7 rfl (by kernel_rfl) (by kernel_rfl) ?_ ?_
 | (refine fun (hc : _ = _)=>?_;first|cases hc|((try rw [hc]);(try simp only [stH] at hc);(try (exfalso;omega)));(try ((first|show Awl _ _ _ _ _|show Awc _ _ _ _ _ _);simp only [stU])))
 | ((first|refine fun (K : V → List _ → _) hK=>?_|refine fun (_ : V → V)=>?_|refine fun (bb : Nat → Bool) K hK=>?_);simp (disch:=omega) only [go_sem,Int.reduceEq,↓reduceIte,reduceCtorEq,Nat.reduceEqDiff,Nat.reduceLT,Nat.reduceLeDiff,Nat.reduceAdd,Nat.reduceSub,Nat.reduceMul,Int.reduceToNat,Int.reduceLE,Int.reduceLT,G2,Sp_field_Take,ht,hd,hg,hmt,W5,nth,List.getD_cons_zero,List.getD_cons_succ,snocE,take_mB,drop_mB,List.take_length,all_B,Sg3,St.updIf,ifc_nil,gt_ifc,go_ifc,ite_self,Option.none_or,Option.some_or];(try (revert hK;intro hK;(repeat' first|(refine And.intro ?_ ?_)|(intro hc;first|cases hc|((try rw [hc]);(try simp only [stH] at hc);(try (exfalso;omega)))));all_goals first|(refine hK _ _ ?_;clear hK K;simp only [stU])|exact hK|omega)))
        have hm7 : (m.drop 7).length = 7 * (q - (k + 1)):=by rw [List.length_drop];omega
        have hrl : (r ++ [Xt.mk (leV (m.take 2)) (leV ((m.drop 2).take 2)) (leV ((m.drop 4).take 1)) (leV ((m.drop 5).take 1)) (leV ((m.drop 6).take 1))]).length = k + 1:=by simp [hr]
        refine ⟨(k + 1,m.drop 7,r ++ [Xt.mk (leV (m.take 2)) (leV ((m.drop 2).take 2)) (leV ((m.drop 4).take 1)) (leV ((m.drop 5).take 1)) (leV ((m.drop 6).take 1))]),by dsimp only;omega,byt_drop hm _,hm7,hrl,?_,by dsimp only;omega,nm [(100,51)],Wk.of ?_⟩
        · dsimp only
          rw [hv,List.append_assoc]
          rfl
        · simp (disch:=omega) only [go_sem,Int.reduceEq,↓reduceIte,reduceCtorEq,Nat.reduceEqDiff,Nat.reduceLT,Nat.reduceLeDiff,Nat.reduceAdd,Nat.reduceSub,Nat.reduceMul,Int.reduceToNat,Int.reduceLE,Int.reduceLT,G2,Sp_field_Take]
          rfl
      · obtain rfl : k = q:=by omega
        have hz : takeE l k = r:=by rw [hv,Nat.sub_self,takeE,List.append_nil]
        repeat' first
 | refine AW.seq ?_
 | refine AW.block ?_
 | refine AW.regl G2_ok [0,1,4,5,6,7,23,24,25,26] ?_
 | (refine AW.regc (id:=7) G2_ok follows bb_record_TakeExtents_7 (by kernel_rfl) [0,1,4,5,6,7,23,24,25,26] ?_)
 | refine then_n ?_
 | refine then_r ?_
 | refine then_x ?_
 | refine block_x ?_
 | refine block_o (by decide) ?_
 | refine block_n ?_
 | refine block_r ?_
 | refine AW.skip ?_
 | refine AW.ret ?_
 | refine AW.exit ?_
 | refine AW.cond rfl ?_ ?_
 | refine awl_none rfl ?_
 | refine awl_nil2 ?_
 | refine awl_some rfl rfl (Nat.le_of_ble_eq_true rfl) rfl rfl ?_ ?_
 | refine awc_none rfl ?_
 | exact each_nil
 | refine each_none rfl ?_ ?_
 | refine awc_leaf2 [some 33,some 34,some 35,some 36,some 37,some 38,some 39,some 40,some 41,some 42,some 43,some 44,some 45,some 46,some 47,some 48,some 49,some 50,some 51,some 52,some 53,some 6,some 0] cc_record_TakeExtents_7 rfl (by kernel_rfl) (by kernel_rfl) ?_ ?_
 | (refine fun (hc : _ = _)=>?_;first|cases hc|((try rw [hc]);(try simp only [stH] at hc);(try (exfalso;omega)));(try ((first|show Awl _ _ _ _ _|show Awc _ _ _ _ _ _);simp only [stU])))
 | ((first|refine fun (K : V → List _ → _) hK=>?_|refine fun (_ : V → V)=>?_|refine fun (bb : Nat → Bool) K hK=>?_);simp (disch:=omega) only [go_sem,Int.reduceEq,↓reduceIte,reduceCtorEq,Nat.reduceEqDiff,Nat.reduceLT,Nat.reduceLeDiff,Nat.reduceAdd,Nat.reduceSub,Nat.reduceMul,Int.reduceToNat,Int.reduceLE,Int.reduceLT,G2,Sp_field_Take,Sg3,St.updIf,ifc_nil,gt_ifc,go_ifc,ite_self,Option.none_or,Option.some_or];(try (revert hK;intro hK;(repeat' first|(refine And.intro ?_ ?_)|(intro hc;first|cases hc|((try rw [hc]);(try simp only [stH] at hc);(try (exfalso;omega)))));all_goals first|(refine hK _ _ ?_;clear hK K;simp only [stU])|exact hK|omega)))
        all_goals (refine Ends.of (nm [(0,100)]) (by first|exact .inl rfl|exact .inr rfl) ?_;simp (disch:=omega) only [go_sem,Int.reduceEq,↓reduceIte,reduceCtorEq,Nat.reduceEqDiff,Nat.reduceLT,Nat.reduceLeDiff,Nat.reduceAdd,Nat.reduceSub,Nat.reduceMul,Int.reduceToNat,Int.reduceLE,Int.reduceLT,G2,Sp_field_Take,hz])
theorem ent_record_TakeExtents : Ent Try.prog 67:=⟨_,Try.func67,rfl,by decide⟩
end Go.Proofs.Ytigkcigoiinkpaa.Am
end
section
set_option linter.unusedVariables false
set_option linter.unusedSimpArgs false
set_option maxRecDepth 10000
set_option maxHeartbeats 0
namespace Go.Proofs.Ytigkcigoiinkpaa.Am
open Go Go.RowKit Go.Proofs
end Go.Proofs.Ytigkcigoiinkpaa.Am
end
section
set_option linter.unusedVariables false
set_option linter.unusedSimpArgs false
set_option maxRecDepth 10000
set_option maxHeartbeats 0
namespace Go.Proofs.Ytigkcigoiinkpaa.Am
open Go Go.RowKit Go.Proofs
end Go.Proofs.Ytigkcigoiinkpaa.Am
end
