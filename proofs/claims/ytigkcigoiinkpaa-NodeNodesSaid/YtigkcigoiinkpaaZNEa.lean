import Derived.Test.YtigkcigoiinkpaaZN3
import Derived.Test.YtigkcigoiinkpaaZCA
import Derived.Test.YtigkcigoiinkpaaZNH
set_option linter.unusedVariables false
set_option linter.unusedSimpArgs false
set_option maxRecDepth 10000
set_option maxHeartbeats 0
namespace Go.Proofs.Ytigkcigoiinkpaa.Am
open Go Go.RowKit Go.Proofs
def twN (i : Int) : Prop:=0 ≤ i ∧ i < 65536
instance (i : Int) : Decidable (twN i):=inferInstanceAs (Decidable (_ ∧ _))
def Sp_overdubref20_two (ds : List D) (out : Out) : Prop:=∃ i : Int,ds = [.v (.int .i64 i)] ∧ out = ⟨.d (.v (.bool (decide (twN i)))),[]⟩
theorem good_overdubref20_two : Good Try.prog 73 Sp_overdubref20_two:=by
  refine good_body (E:=E0) (nt:=9) (rs:=#[.tmp 2]) Try.func73 rfl rfl rfl ?_
  rintro ds out ⟨i,rfl,rfl⟩
  refine ⟨by simp,?_⟩
  by_cases h1 : 0 ≤ i
  · have d1 : decide (0 ≤ i) = true:=decide_eq_true h1
    have hz : decide (twN i) = decide (i < 65536):=by unfold twN;simp [h1]
    repeat' first
 | refine AW.seq ?_
 | refine AW.block ?_
 | refine AW.regl E0_ok [0,2] ?_
 | refine then_n ?_
 | refine then_r ?_
 | refine then_x ?_
 | refine block_x ?_
 | refine block_o (by decide) ?_
 | refine block_n ?_
 | refine block_r ?_
 | refine AW.skip ?_
 | refine AW.ret ?_
 | refine AW.exit ?_
 | refine AW.cond rfl ?_ ?_
 | refine awl_none rfl ?_
 | refine awl_nil2 ?_
 | refine awl_some rfl rfl (Nat.le_of_ble_eq_true rfl) rfl rfl ?_ ?_
 | (refine fun (hc : _ = _)=>?_;first|cases hc|((try rw [hc]);(try simp only [stH] at hc);(try (exfalso;omega)));(try (show Awl _ _ _ _ _;simp only [stU])))
 | ((first|refine fun (K : V → List _ → _) hK=>?_|refine fun (_ : V → V)=>?_);simp (disch:=omega) only [go_sem,Int.reduceEq,↓reduceIte,reduceCtorEq,Nat.reduceEqDiff,Nat.reduceLT,Nat.reduceLeDiff,Nat.reduceAdd,Nat.reduceSub,Nat.reduceMul,Int.reduceToNat,Int.reduceLE,Int.reduceLT,E0,d1];(try (revert hK;intro hK;(repeat' first|(refine And.intro ?_ ?_)|(intro hc;first|cases hc|((try rw [hc]);(try simp only [stH] at hc);(try (exfalso;omega)))));all_goals first|(refine hK _ _ ?_;clear hK K;simp only [stU])|exact hK|omega)))
    (refine Ends.of (nm []) (by first|exact .inl rfl|exact .inr rfl) ?_;simp (disch:=omega) only [go_sem,Int.reduceEq,↓reduceIte,reduceCtorEq,Nat.reduceEqDiff,Nat.reduceLT,Nat.reduceLeDiff,Nat.reduceAdd,Nat.reduceSub,Nat.reduceMul,Int.reduceToNat,Int.reduceLE,Int.reduceLT,E0,hz])
  · have d1 : decide (0 ≤ i) = false:=decide_eq_false h1
    have hz : decide (twN i) = false:=decide_eq_false fun h=>h1 h.1
    repeat' first
 | refine AW.seq ?_
 | refine AW.block ?_
 | refine AW.regl E0_ok [0,2] ?_
 | refine then_n ?_
 | refine then_r ?_
 | refine then_x ?_
 | refine block_x ?_
 | refine block_o (by decide) ?_
 | refine block_n ?_
 | refine block_r ?_
 | refine AW.skip ?_
 | refine AW.ret ?_
 | refine AW.exit ?_
 | refine AW.cond rfl ?_ ?_
 | refine awl_none rfl ?_
 | refine awl_nil2 ?_
 | refine awl_some rfl rfl (Nat.le_of_ble_eq_true rfl) rfl rfl ?_ ?_
 | (refine fun (hc : _ = _)=>?_;first|cases hc|((try rw [hc]);(try simp only [stH] at hc);(try (exfalso;omega)));(try (show Awl _ _ _ _ _;simp only [stU])))
 | ((first|refine fun (K : V → List _ → _) hK=>?_|refine fun (_ : V → V)=>?_);simp (disch:=omega) only [go_sem,Int.reduceEq,↓reduceIte,reduceCtorEq,Nat.reduceEqDiff,Nat.reduceLT,Nat.reduceLeDiff,Nat.reduceAdd,Nat.reduceSub,Nat.reduceMul,Int.reduceToNat,Int.reduceLE,Int.reduceLT,E0,d1];(try (revert hK;intro hK;(repeat' first|(refine And.intro ?_ ?_)|(intro hc;first|cases hc|((try rw [hc]);(try simp only [stH] at hc);(try (exfalso;omega)))));all_goals first|(refine hK _ _ ?_;clear hK K;simp only [stU])|exact hK|omega)))
    (refine Ends.of (nm []) (by first|exact .inl rfl|exact .inr rfl) ?_;simp (disch:=omega) only [go_sem,Int.reduceEq,↓reduceIte,reduceCtorEq,Nat.reduceEqDiff,Nat.reduceLT,Nat.reduceLeDiff,Nat.reduceAdd,Nat.reduceSub,Nat.reduceMul,Int.reduceToNat,Int.reduceLE,Int.reduceLT,E0,hz])
theorem ent_overdubref20_two : Ent Try.prog 73:=⟨_,Try.func73,rfl,by decide⟩
def Sp_overdubref20_place (ds : List D) (out : Out) : Prop:=∃ i : Int,ds = [.v (.int .i64 i)] ∧ out = ⟨.d (.v (.bool (decide (secN i)))),[]⟩
theorem good_overdubref20_place : Good Try.prog 74 Sp_overdubref20_place:=by
  refine good_body (E:=E0) (nt:=9) (rs:=#[.tmp 2]) Try.func74 rfl rfl rfl ?_
  rintro ds out ⟨i,rfl,rfl⟩
  refine ⟨by simp,?_⟩
  by_cases h1 : 1 ≤ i
  · have d1 : decide (1 ≤ i) = true:=decide_eq_true h1
    have hz : decide (secN i) = decide (i < 4096):=by unfold secN;simp [h1]
    repeat' first
 | refine AW.seq ?_
 | refine AW.block ?_
 | refine AW.regl E0_ok [0,2] ?_
 | refine then_n ?_
 | refine then_r ?_
 | refine then_x ?_
 | refine block_x ?_
 | refine block_o (by decide) ?_
 | refine block_n ?_
 | refine block_r ?_
 | refine AW.skip ?_
 | refine AW.ret ?_
 | refine AW.exit ?_
 | refine AW.cond rfl ?_ ?_
 | refine awl_none rfl ?_
 | refine awl_nil2 ?_
 | refine awl_some rfl rfl (Nat.le_of_ble_eq_true rfl) rfl rfl ?_ ?_
 | (refine fun (hc : _ = _)=>?_;first|cases hc|((try rw [hc]);(try simp only [stH] at hc);(try (exfalso;omega)));(try (show Awl _ _ _ _ _;simp only [stU])))
 | ((first|refine fun (K : V → List _ → _) hK=>?_|refine fun (_ : V → V)=>?_);simp (disch:=omega) only [go_sem,Int.reduceEq,↓reduceIte,reduceCtorEq,Nat.reduceEqDiff,Nat.reduceLT,Nat.reduceLeDiff,Nat.reduceAdd,Nat.reduceSub,Nat.reduceMul,Int.reduceToNat,Int.reduceLE,Int.reduceLT,E0,d1];(try (revert hK;intro hK;(repeat' first|(refine And.intro ?_ ?_)|(intro hc;first|cases hc|((try rw [hc]);(try simp only [stH] at hc);(try (exfalso;omega)))));all_goals first|(refine hK _ _ ?_;clear hK K;simp only [stU])|exact hK|omega)))
    (refine Ends.of (nm []) (by first|exact .inl rfl|exact .inr rfl) ?_;simp (disch:=omega) only [go_sem,Int.reduceEq,↓reduceIte,reduceCtorEq,Nat.reduceEqDiff,Nat.reduceLT,Nat.reduceLeDiff,Nat.reduceAdd,Nat.reduceSub,Nat.reduceMul,Int.reduceToNat,Int.reduceLE,Int.reduceLT,E0,hz])
  · have d1 : decide (1 ≤ i) = false:=decide_eq_false h1
    have hz : decide (secN i) = false:=decide_eq_false fun h=>h1 h.1
    repeat' first
 | refine AW.seq ?_
 | refine AW.block ?_
 | refine AW.regl E0_ok [0,2] ?_
 | refine then_n ?_
 | refine then_r ?_
 | refine then_x ?_
 | refine block_x ?_
 | refine block_o (by decide) ?_
 | refine block_n ?_
 | refine block_r ?_
 | refine AW.skip ?_
 | refine AW.ret ?_
 | refine AW.exit ?_
 | refine AW.cond rfl ?_ ?_
 | refine awl_none rfl ?_
 | refine awl_nil2 ?_
 | refine awl_some rfl rfl (Nat.le_of_ble_eq_true rfl) rfl rfl ?_ ?_
 | (refine fun (hc : _ = _)=>?_;first|cases hc|((try rw [hc]);(try simp only [stH] at hc);(try (exfalso;omega)));(try (show Awl _ _ _ _ _;simp only [stU])))
 | ((first|refine fun (K : V → List _ → _) hK=>?_|refine fun (_ : V → V)=>?_);simp (disch:=omega) only [go_sem,Int.reduceEq,↓reduceIte,reduceCtorEq,Nat.reduceEqDiff,Nat.reduceLT,Nat.reduceLeDiff,Nat.reduceAdd,Nat.reduceSub,Nat.reduceMul,Int.reduceToNat,Int.reduceLE,Int.reduceLT,E0,d1];(try (revert hK;intro hK;(repeat' first|(refine And.intro ?_ ?_)|(intro hc;first|cases hc|((try rw [hc]);(try simp only [stH] at hc);(try (exfalso;omega)))));all_goals first|(refine hK _ _ ?_;clear hK K;simp only [stU])|exact hK|omega)))
    (refine Ends.of (nm []) (by first|exact .inl rfl|exact .inr rfl) ?_;simp (disch:=omega) only [go_sem,Int.reduceEq,↓reduceIte,reduceCtorEq,Nat.reduceEqDiff,Nat.reduceLT,Nat.reduceLeDiff,Nat.reduceAdd,Nat.reduceSub,Nat.reduceMul,Int.reduceToNat,Int.reduceLE,Int.reduceLT,E0,hz])
theorem ent_overdubref20_place : Ent Try.prog 74:=⟨_,Try.func74,rfl,by decide⟩
noncomputable def NEs : Env:=⟨Try.prog,fun f ds out=>(f = 35 ∧ Sp_overdubref01_Summed ds out),Es,fun _=>false⟩
theorem NEs_sp : ∀ f ds out,NEs.Sp f ds out → Ent NEs.P f ∧ Good NEs.P f (fun a b=>a = ds ∧ b = out):=by
  rintro f ds out ⟨rfl,h⟩
  exact ⟨ent_overdubref01_Summed,good_overdubref01_Summed.one h⟩
theorem NEs_ok : NEs.Ok:=⟨NEs_sp,Es_ok⟩
theorem sumd_padN {l : List Int} (h : l.length ≤ 124) : sumdL l 124 = sealL l:=by
  unfold sumdL sealL
  have : toL l 124 = padL l:=by
    unfold toL padL
    rw [show min l.length 124 = l.length by omega,List.take_length,List.drop_replicate]
    rfl
  rw [this]
def Sp_overdubref20_seal (ds : List D) (out : Out) : Prop:=∃ (k n : Int) (it : List Int),ds = [.v (.int .i64 k),.v (.int .i64 n),.list (it.map mB)] ∧ (0 ≤ k ∧ k < 256) ∧ (0 ≤ n ∧ n < 256) ∧ Byt it ∧ it.length ≤ 121 ∧ out = ⟨.sl 0 1 0 128 true,[(0,.row 5 1 ((nodP k n it).map mB))]⟩
theorem good_overdubref20_seal : Good Try.prog 54 Sp_overdubref20_seal:=by
  refine good_body (E:=NEs) (nt:=15) (rs:=#[.tmp 6]) Try.func54 rfl rfl rfl ?_
  rintro ds out ⟨k,n,it,rfl,hk,hn,hb,hl,rfl⟩
  refine ⟨by simp,?_⟩
  have hkm : k % 256 = k:=by omega
  have hnm : n % 256 = n:=by omega
  have hnl:=nodL_len k n it
  have hit : (it.map mB).take it.length = it.map mB:=List.take_of_length_le (by simp)
  have hfold : [D.v (.int .u8 160),D.v (.int .u8 k),D.v (.int .u8 n)] ++ it.map mB = (nodL k n it).map mB:=rfl
  have hfold' : D.v (.int .u8 160) :: D.v (.int .u8 k) :: D.v (.int .u8 n) :: it.map mB = (nodL k n it).map mB:=rfl
  have hy : Byt (nodL k n it) = True:=eq_true (nodL_byt hk hn hb)
  have hs : sumdL (nodL k n it) 124 = nodP k n it:=sumd_padN (by omega)
  have hpl : (nodP k n it).length = 128:=nodP_len _ _ _
  have hnt : ((nodL k n it).map mB).take (3 + it.length) = (nodL k n it).map mB:=List.take_of_length_le (by simp [hnl])
  repeat' first
 | refine AW.seq ?_
 | refine AW.block ?_
 | refine AW.regl NEs_ok [0,1,2,6] ?_
 | refine then_n ?_
 | refine then_r ?_
 | refine then_x ?_
 | refine block_x ?_
 | refine block_o (by decide) ?_
 | refine block_n ?_
 | refine block_r ?_
 | refine AW.skip ?_
 | refine AW.ret ?_
 | refine AW.exit ?_
 | refine AW.cond rfl ?_ ?_
 | refine awl_none rfl ?_
 | refine awl_nil2 ?_
 | (refine fun (hc : _ = _)=>?_;first|cases hc|((try rw [hc]);(try simp only [stH] at hc);(try (exfalso;omega)));(try (show Awl _ _ _ _ _;simp only [stU])))
 | ((first|refine fun (K : V → List _ → _) hK=>?_|refine fun (_ : V → V)=>?_);simp (disch:=omega) only [go_sem,Int.reduceEq,↓reduceIte,reduceCtorEq,Nat.reduceEqDiff,Nat.reduceLT,Nat.reduceLeDiff,Nat.reduceAdd,Nat.reduceSub,Nat.reduceMul,Int.reduceToNat,Int.reduceLE,Int.reduceLT,NEs,Sp_overdubref01_Summed,hkm,hnm,wrap_u8,hit,hfold,hfold',hnl,hnt,hy,hs,hpl,mB_inj];(try (revert hK;intro hK;(repeat' first|(refine And.intro ?_ ?_)|(intro hc;first|cases hc|((try rw [hc]);(try simp only [stH] at hc);(try (exfalso;omega)))));all_goals first|(refine hK _ _ ?_;clear hK K;simp only [stU])|exact hK|omega)))
  (refine Ends.of (nm [(0,14)]) (by first|exact .inl rfl|exact .inr rfl) ?_;simp (disch:=omega) only [go_sem,Int.reduceEq,↓reduceIte,reduceCtorEq,Nat.reduceEqDiff,Nat.reduceLT,Nat.reduceLeDiff,Nat.reduceAdd,Nat.reduceSub,Nat.reduceMul,Int.reduceToNat,Int.reduceLE,Int.reduceLT,NEs,Sp_overdubref01_Summed,hs,hpl])
theorem ent_overdubref20_seal : Ent Try.prog 54:=⟨_,Try.func54,rfl,by decide⟩
def Sp_overdubref01_Whole (ds : List D) (out : Out) : Prop:=∃ b : List Int,ds = [.list (b.map mB)] ∧ Byt b ∧ b.length ≤ 9223372036854775807 ∧ out = ⟨.d (.v (.bool (decide (isOpen b)))),[]⟩
theorem byt_strw {l m : List Int} (hl : ∀ x ∈ l,0 ≤ x ∧ x < 256) (hm : ∀ x ∈ m,0 ≤ x ∧ x < 256) : binV .eql (bsV l) (bsV m) = some (.bool (decide (l = m))):=byt_str hl hm
def bb_overdubref01_Whole_1 : List Nat:=[0,1,3,7,15,31,63,127,15,271,1023,2047,4095]
def cc_overdubref01_Whole_1 : List (List (Option Bool)):=[[some false,some false,some false,some false,some false,some false,some false,some false,some false,some false,some false,some false,some false],[some true,some false,some false,some false,some false,some false,some false,some false,some false,some false,some false,some false,some false],[some true,some true,some false,some false,some false,some false,some false,some false,some false,some false,some false,some false,some false],[some true,some true,some true,some false,some false,some false,some false,some false,some false,some false,some false,some false,some false],[some true,some true,some true,some true,some false,some false,some false,some false,none,none,some false,some false,some false],[some true,some true,some true,some true,some true,some false,some false,some false,none,none,some false,some false,some false],[some true,some true,some true,some true,some true,some true,some false,some false,none,none,some false,some false,some false],[some true,some true,some true,some true,some true,some true,some true,some false,none,none,some false,some false,some false],[some true,some true,some true,some true,none,none,none,none,some false,some false,some false,some false,some false],[some true,some true,some true,some true,none,none,none,none,some true,some false,some false,some false,some false],[some true,some true,some true,some true,some true,some true,some true,some true,some true,some true,some false,some false,some false],[some true,some true,some true,some true,some true,some true,some true,some true,some true,some true,some true,some false,some false],[some true,some true,some true,some true,some true,some true,some true,some true,some true,some true,some true,some true,some false]]
theorem good_overdubref01_Whole : Good Try.prog 83 Sp_overdubref01_Whole:=by
  refine good_body (E:=NEs) (nt:=15) (rs:=#[.tmp 2]) Try.func83 rfl rfl rfl ?_
  rintro ds out ⟨b,rfl,hb,hl,rfl⟩
  refine ⟨by simp,?_⟩
  by_cases h8 : b.length = 128
  case neg =>
    have hz : decide (isOpen b) = false:=decide_eq_false fun h=>h8 h.1
    have d8 : decide ((b.length : Int) = 128) = false:=decide_eq_false (by omega)
    repeat' first
 | refine AW.seq ?_
 | refine AW.block ?_
 | refine AW.regl NEs_ok [0,2] ?_
 | (refine AW.regc (id:=1) NEs_ok follows bb_overdubref01_Whole_1 (by kernel_rfl) [0,2] ?_)
 | refine then_n ?_
 | refine then_r ?_
 | refine then_x ?_
 | refine block_x ?_
 | refine block_o (by decide) ?_
 | refine block_n ?_
 | refine block_r ?_
 | refine AW.skip ?_
 | refine AW.ret ?_
 | refine AW.exit ?_
 | refine AW.cond rfl ?_ ?_
 | refine awl_none rfl ?_
 | refine awl_nil2 ?_
 | refine awc_none rfl ?_
 | refine awc_some rfl rfl (Nat.le_of_ble_eq_true rfl) rfl rfl ?_ ?_
 | exact each_nil
 | (refine each_some rfl rfl (Nat.le_of_ble_eq_true rfl) rfl ?_ ?_;first|(rw [if_pos rfl])|(rw [if_neg (by decide)];exact ⟨rfl,rfl⟩))
 | refine each_none rfl ?_ ?_
 | refine awc_leaf2 [some 3,some 4,some 5,some 6,some 7,some 8,some 9,some 10,some 11,some 12,some 13,some 14,some 2] cc_overdubref01_Whole_1 rfl (by kernel_rfl) (by kernel_rfl) ?_ ?_
 | (refine fun (hc : _ = _)=>?_;first|cases hc|((try rw [hc]);(try simp only [stH] at hc);(try (exfalso;omega)));(try ((first|show Awl _ _ _ _ _|show Awc _ _ _ _ _ _);simp only [stU])))
 | ((first|refine fun (K : V → List _ → _) hK=>?_|refine fun (_ : V → V)=>?_|refine fun (bb : Nat → Bool) K hK=>?_);simp (disch:=omega) only [go_sem,Int.reduceEq,↓reduceIte,reduceCtorEq,Nat.reduceEqDiff,Nat.reduceLT,Nat.reduceLeDiff,Nat.reduceAdd,Nat.reduceSub,Nat.reduceMul,Int.reduceToNat,Int.reduceLE,Int.reduceLT,NEs,Sp_overdubref01_Summed,d8,Sg3,St.updIf,ifc_nil,gt_ifc,go_ifc,ite_self,Option.none_or,Option.some_or];(try (revert hK;intro hK;(repeat' first|(refine And.intro ?_ ?_)|(intro hc;first|cases hc|((try rw [hc]);(try simp only [stH] at hc);(try (exfalso;omega)))));all_goals first|(refine hK _ _ ?_;clear hK K;simp only [stU])|exact hK|omega)))
    (refine Ends.of (nm []) (by first|exact .inl rfl|exact .inr rfl) ?_;simp (disch:=omega) only [go_sem,Int.reduceEq,↓reduceIte,reduceCtorEq,Nat.reduceEqDiff,Nat.reduceLT,Nat.reduceLeDiff,Nat.reduceAdd,Nat.reduceSub,Nat.reduceMul,Int.reduceToNat,Int.reduceLE,Int.reduceLT,NEs,Sp_overdubref01_Summed,hz])
  have d8 : decide ((b.length : Int) = 128) = true:=decide_eq_true (by omega)
  have ht : (b.map mB).take 124 = (b.take 124).map mB:=List.map_take.symm
  have hy : Byt (b.take 124) = True:=eq_true (byt_take hb _)
  have hk : (b.take 124).length = 124:=by rw [List.length_take];omega
  have e : toL (b.take 124) 0 = b.take 124:=by unfold toL;simp
  have hs : sumdL (b.take 124) 0 = b.take 124 ++ sumL (b.take 124):=by unfold sumdL;rw [e]
  have hsl : (b.take 124 ++ sumL (b.take 124)).length = 128:=by rw [List.length_append,hk,sumL_len]
  have hst : ((b.take 124 ++ sumL (b.take 124)).map mB).take 128 = (b.take 124 ++ sumL (b.take 124)).map mB:=List.take_of_length_le (by rw [List.length_map,hsl];omega)
  have hstr:=byt_strw (byt_append (byt_take hb 124) (sumL_byt (b.take 124))) hb
  have hz : decide (isOpen b) = decide (b.take 124 ++ sumL (b.take 124) = b):=by
    rw [decide_eq_decide]
    unfold isOpen
    constructor
    · rintro ⟨_,h⟩
      rw [h];exact List.take_append_drop _ _
    · intro h
      refine ⟨h8,?_⟩
      have h2:=congrArg (List.drop 124) h
      rw [List.drop_left' hk] at h2
      exact h2
  generalize b.take 124 ++ sumL (b.take 124) = R at *
  repeat' first
 | refine AW.seq ?_
 | refine AW.block ?_
 | refine AW.regl NEs_ok [0,2] ?_
 | (refine AW.regc (id:=1) NEs_ok follows bb_overdubref01_Whole_1 (by kernel_rfl) [0,2] ?_)
 | refine then_n ?_
 | refine then_r ?_
 | refine then_x ?_
 | refine block_x ?_
 | refine block_o (by decide) ?_
 | refine block_n ?_
 | refine block_r ?_
 | refine AW.skip ?_
 | refine AW.ret ?_
 | refine AW.exit ?_
 | refine AW.cond rfl ?_ ?_
 | refine awl_none rfl ?_
 | refine awl_nil2 ?_
 | refine awc_none rfl ?_
 | refine awc_some rfl rfl (Nat.le_of_ble_eq_true rfl) rfl rfl ?_ ?_
 | exact each_nil
 | (refine each_some rfl rfl (Nat.le_of_ble_eq_true rfl) rfl ?_ ?_;first|(rw [if_pos rfl])|(rw [if_neg (by decide)];exact ⟨rfl,rfl⟩))
 | refine each_none rfl ?_ ?_
 | refine awc_leaf2 [some 3,some 4,some 5,some 6,some 7,some 8,some 9,some 10,some 11,some 12,some 13,some 14,some 2] cc_overdubref01_Whole_1 rfl (by kernel_rfl) (by kernel_rfl) ?_ ?_
 | (refine fun (hc : _ = _)=>?_;first|cases hc|((try rw [hc]);(try simp only [stH] at hc);(try (exfalso;omega)));(try ((first|show Awl _ _ _ _ _|show Awc _ _ _ _ _ _);simp only [stU])))
 | ((first|refine fun (K : V → List _ → _) hK=>?_|refine fun (_ : V → V)=>?_|refine fun (bb : Nat → Bool) K hK=>?_);simp (disch:=omega) only [go_sem,Int.reduceEq,↓reduceIte,reduceCtorEq,Nat.reduceEqDiff,Nat.reduceLT,Nat.reduceLeDiff,Nat.reduceAdd,Nat.reduceSub,Nat.reduceMul,Int.reduceToNat,Int.reduceLE,Int.reduceLT,NEs,Sp_overdubref01_Summed,d8,ht,hy,hk,hs,hsl,hst,hstr,h8,mB_inj,Sg3,St.updIf,ifc_nil,gt_ifc,go_ifc,ite_self,Option.none_or,Option.some_or];(try (revert hK;intro hK;(repeat' first|(refine And.intro ?_ ?_)|(intro hc;first|cases hc|((try rw [hc]);(try simp only [stH] at hc);(try (exfalso;omega)))));all_goals first|(refine hK _ _ ?_;clear hK K;simp only [stU])|exact hK|omega)))
  (refine Ends.of (nm []) (by first|exact .inl rfl|exact .inr rfl) ?_;simp (disch:=omega) only [go_sem,Int.reduceEq,↓reduceIte,reduceCtorEq,Nat.reduceEqDiff,Nat.reduceLT,Nat.reduceLeDiff,Nat.reduceAdd,Nat.reduceSub,Nat.reduceMul,Int.reduceToNat,Int.reduceLE,Int.reduceLT,NEs,Sp_overdubref01_Summed,hz])
theorem ent_overdubref01_Whole : Ent Try.prog 83:=⟨_,Try.func83,rfl,by decide⟩
end Go.Proofs.Ytigkcigoiinkpaa.Am
