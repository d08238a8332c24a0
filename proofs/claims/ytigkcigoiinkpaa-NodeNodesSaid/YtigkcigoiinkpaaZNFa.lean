import Derived.Test.YtigkcigoiinkpaaZNEf
import Derived.Test.YtigkcigoiinkpaaZN5
import Derived.Test.YtigkcigoiinkpaaZN7
import Derived.Test.YtigkcigoiinkpaaZN8
set_option linter.unusedVariables false
set_option linter.unusedSimpArgs false
set_option maxRecDepth 10000
set_option maxHeartbeats 0
namespace Go.Proofs.Ytigkcigoiinkpaa.Am
open Go Go.RowKit Go.Proofs
theorem byt_strnN {l m : List Int} (hl : ∀ x ∈ l,0 ≤ x ∧ x < 256) (hm : ∀ x ∈ m,0 ≤ x ∧ x < 256) : binV .neq (bsV l) (bsV m) = some (.bool (!decide (l = m))):=by
  have h:=byt_str hl hm
  unfold bsV at h ⊢
  simp only [binV,Option.some.injEq,Value.bool.injEq] at h ⊢
  rw [h]
def ropOut (k : Int) (b : List Int) : Out:=if oH k b then ⟨.tup [.d (.v (.int .i64 (nN b))),.d (.list ((nI b).map mB)),.d (.v (.bool true))],[]⟩ else ⟨.tup [.d (.v (.int .i64 0)),.nil,.d (.v (.bool false))],[]⟩
noncomputable def NF1 : Env:=⟨Try.prog,fun f ds out=>(f = 83 ∧ Sp_overdubref01_Whole ds out),Es,fun _=>false⟩
theorem NF1_sp : ∀ f ds out,NF1.Sp f ds out → Ent NF1.P f ∧ Good NF1.P f (fun a b=>a = ds ∧ b = out):=by
  rintro f ds out ⟨rfl,h⟩
  exact ⟨ent_overdubref01_Whole,good_overdubref01_Whole.one h⟩
theorem NF1_ok : NF1.Ok:=⟨NF1_sp,Es_ok⟩
def Sp_overdubref20_open (ds : List D) (out : Out) : Prop:=∃ (b : List Int) (k : Int),ds = [.list (b.map mB),.v (.int .i64 k)] ∧ Byt b ∧ b.length ≤ 9223372036854775807 ∧ out = ropOut k b
def bb_overdubref20_open_3 : List Nat:=[0,1,3,7,0,16,15,127,255]
theorem good_overdubref20_open : Good Try.prog 76 Sp_overdubref20_open:=by
  refine good_body (E:=NF1) (nt:=30) (rs:=#[.tmp 4,.tmp 5,.tmp 6]) Try.func76 rfl rfl rfl ?_
  rintro ds out ⟨b,k,rfl,hb,hl,rfl⟩
  refine ⟨by simp,?_⟩
  have hbt : Byt b = True:=eq_true hb
  by_cases ho : isOpen b
  case neg =>
    have hz : ropOut k b = ⟨.tup [.d (.v (.int .i64 0)),.nil,.d (.v (.bool false))],[]⟩:=if_neg fun h=>ho h.1
    have d0 : decide (isOpen b) = false:=decide_eq_false ho
    repeat' first
 | refine AW.seq ?_
 | refine AW.block ?_
 | refine AW.regl NF1_ok [0,1,4,5,6,23] ?_
 | (refine AW.regq (id:=3) NF1_ok follows bb_overdubref20_open_3 (by kernel_rfl) [0,1,4,5,6,23] ?_)
 | refine then_n ?_
 | refine then_r ?_
 | refine then_x ?_
 | refine block_x ?_
 | refine block_o (by decide) ?_
 | refine block_n ?_
 | refine block_r ?_
 | refine AW.skip ?_
 | refine AW.ret ?_
 | refine AW.exit ?_
 | refine AW.cond rfl ?_ ?_
 | refine awl_none rfl ?_
 | refine awl_nil2 ?_
 | refine awl_some rfl rfl (Nat.le_of_ble_eq_true rfl) rfl rfl ?_ ?_
 | refine awc_none rfl ?_
 | refine awc_nilq (by kernel_rfl) (by kernel_rfl) ?_
 | (refine fun (hc : _ = _)=>?_;first|cases hc|((try rw [hc]);(try simp only [stH] at hc);(try (exfalso;omega)));(try ((first|show Awl _ _ _ _ _|show Awc _ _ _ _ _ _);simp only [stU])))
 | ((first|refine fun (K : V → List _ → _) hK=>?_|refine fun (_ : V → V)=>?_);simp (disch:=omega) only [go_sem,Int.reduceEq,↓reduceIte,reduceCtorEq,Nat.reduceEqDiff,Nat.reduceLT,Nat.reduceLeDiff,Nat.reduceAdd,Nat.reduceSub,Nat.reduceMul,Int.reduceToNat,Int.reduceLE,Int.reduceLT,NF1,Sp_overdubref01_Whole,hbt,d0,mB_inj,Sg3,St.updIf,ifc_nil,gt_ifc,go_ifc,ite_self,Option.none_or,Option.some_or];(try (revert hK;intro hK;(repeat' first|(refine And.intro ?_ ?_)|(intro hc;first|cases hc|((try rw [hc]);(try simp only [stH] at hc);(try (exfalso;omega)))));all_goals first|(refine hK _ _ ?_;clear hK K;simp only [stU])|exact hK|omega)))
    (refine Ends.of (nm []) (by first|exact .inl rfl|exact .inr rfl) ?_;simp (disch:=omega) only [go_sem,Int.reduceEq,↓reduceIte,reduceCtorEq,Nat.reduceEqDiff,Nat.reduceLT,Nat.reduceLeDiff,Nat.reduceAdd,Nat.reduceSub,Nat.reduceMul,Int.reduceToNat,Int.reduceLE,Int.reduceLT,NF1,Sp_overdubref01_Whole,hz])
  have d0 : decide (isOpen b) = true:=decide_eq_true ho
  have h8:=ho.1
  have g0 : nth (b.map mB) 0 = .v (.int .u8 (b.getD 0 0)):=nth_B b 0 (by omega)
  have g1 : nth (b.map mB) 1 = .v (.int .u8 (b.getD 1 0)):=nth_B b 1 (by omega)
  have g2 : nth (b.map mB) 2 = .v (.int .u8 (b.getD 2 0)):=nth_B b 2 (by omega)
  have r0:=getD_byt hb 0
  have r1:=getD_byt hb 1
  have r2:=getD_byt hb 2
  have hnN : b.getD 2 0 = nN b:=rfl
  have hcut : ((b.map mB).take 124).drop 3 = (nI b).map mB:=by unfold nI;rw [← List.map_take,← List.map_drop]
  by_cases c0 : b.getD 0 0 = 160
  case neg =>
    have hz : ropOut k b = ⟨.tup [.d (.v (.int .i64 0)),.nil,.d (.v (.bool false))],[]⟩:=if_neg fun h=>c0 h.2.1
    have d1 : decide (b.getD 0 0 = 160) = false:=decide_eq_false c0
    clear ho
    generalize b.getD 0 0 = u0 at *
    generalize b.getD 1 0 = u1 at *
    repeat' first
 | refine AW.seq ?_
 | refine AW.block ?_
 | refine AW.regl NF1_ok [0,1,4,5,6,23] ?_
 | (refine AW.regq (id:=3) NF1_ok follows bb_overdubref20_open_3 (by kernel_rfl) [0,1,4,5,6,23] ?_)
 | refine then_n ?_
 | refine then_r ?_
 | refine then_x ?_
 | refine block_x ?_
 | refine block_o (by decide) ?_
 | refine block_n ?_
 | refine block_r ?_
 | refine AW.skip ?_
 | refine AW.ret ?_
 | refine AW.exit ?_
 | refine AW.cond rfl ?_ ?_
 | refine awl_none rfl ?_
 | refine awl_nil2 ?_
 | refine awl_some rfl rfl (Nat.le_of_ble_eq_true rfl) rfl rfl ?_ ?_
 | refine awc_none rfl ?_
 | refine awc_nilq (by kernel_rfl) (by kernel_rfl) ?_
 | (refine fun (hc : _ = _)=>?_;first|cases hc|((try rw [hc]);(try simp only [stH] at hc);(try (exfalso;omega)));(try ((first|show Awl _ _ _ _ _|show Awc _ _ _ _ _ _);simp only [stU])))
 | ((first|refine fun (K : V → List _ → _) hK=>?_|refine fun (_ : V → V)=>?_);simp (disch:=omega) only [go_sem,Int.reduceEq,↓reduceIte,reduceCtorEq,Nat.reduceEqDiff,Nat.reduceLT,Nat.reduceLeDiff,Nat.reduceAdd,Nat.reduceSub,Nat.reduceMul,Int.reduceToNat,Int.reduceLE,Int.reduceLT,NF1,Sp_overdubref01_Whole,hbt,h8,d0,d1,g0,g1,decide_not,mB_inj,Sg3,St.updIf,ifc_nil,gt_ifc,go_ifc,ite_self,Option.none_or,Option.some_or];(try (revert hK;intro hK;(repeat' first|(refine And.intro ?_ ?_)|(intro hc;first|cases hc|((try rw [hc]);(try simp only [stH] at hc);(try (exfalso;omega)))));all_goals first|(refine hK _ _ ?_;clear hK K;simp only [stU])|exact hK|omega)))
    (refine Ends.of (nm []) (by first|exact .inl rfl|exact .inr rfl) ?_;simp (disch:=omega) only [go_sem,Int.reduceEq,↓reduceIte,reduceCtorEq,Nat.reduceEqDiff,Nat.reduceLT,Nat.reduceLeDiff,Nat.reduceAdd,Nat.reduceSub,Nat.reduceMul,Int.reduceToNat,Int.reduceLE,Int.reduceLT,NF1,Sp_overdubref01_Whole,hz])
  by_cases c1 : b.getD 1 0 = k
  case neg =>
    have hz : ropOut k b = ⟨.tup [.d (.v (.int .i64 0)),.nil,.d (.v (.bool false))],[]⟩:=if_neg fun h=>c1 h.2.2
    have d1 : decide (b.getD 0 0 = 160) = true:=decide_eq_true c0
    have d2 : decide (b.getD 1 0 = k) = false:=decide_eq_false c1
    clear ho
    generalize b.getD 0 0 = u0 at *
    generalize b.getD 1 0 = u1 at *
    repeat' first
 | refine AW.seq ?_
 | refine AW.block ?_
 | refine AW.regl NF1_ok [0,1,4,5,6,23] ?_
 | (refine AW.regq (id:=3) NF1_ok follows bb_overdubref20_open_3 (by kernel_rfl) [0,1,4,5,6,23] ?_)
 | refine then_n ?_
 | refine then_r ?_
 | refine then_x ?_
 | refine block_x ?_
 | refine block_o (by decide) ?_
 | refine block_n ?_
 | refine block_r ?_
 | refine AW.skip ?_
 | refine AW.ret ?_
 | refine AW.exit ?_
 | refine AW.cond rfl ?_ ?_
 | refine awl_none rfl ?_
 | refine awl_nil2 ?_
 | refine awl_some rfl rfl (Nat.le_of_ble_eq_true rfl) rfl rfl ?_ ?_
 | refine awc_none rfl ?_
 | refine awc_nilq (by kernel_rfl) (by kernel_rfl) ?_
 | (refine fun (hc : _ = _)=>?_;first|cases hc|((try rw [hc]);(try simp only [stH] at hc);(try (exfalso;omega)));(try ((first|show Awl _ _ _ _ _|show Awc _ _ _ _ _ _);simp only [stU])))
 | ((first|refine fun (K : V → List _ → _) hK=>?_|refine fun (_ : V → V)=>?_);simp (disch:=omega) only [go_sem,Int.reduceEq,↓reduceIte,reduceCtorEq,Nat.reduceEqDiff,Nat.reduceLT,Nat.reduceLeDiff,Nat.reduceAdd,Nat.reduceSub,Nat.reduceMul,Int.reduceToNat,Int.reduceLE,Int.reduceLT,NF1,Sp_overdubref01_Whole,hbt,h8,d0,d1,d2,g0,g1,decide_not,mB_inj,Sg3,St.updIf,ifc_nil,gt_ifc,go_ifc,ite_self,Option.none_or,Option.some_or];(try (revert hK;intro hK;(repeat' first|(refine And.intro ?_ ?_)|(intro hc;first|cases hc|((try rw [hc]);(try simp only [stH] at hc);(try (exfalso;omega)))));all_goals first|(refine hK _ _ ?_;clear hK K;simp only [stU])|exact hK|omega)))
    (refine Ends.of (nm []) (by first|exact .inl rfl|exact .inr rfl) ?_;simp (disch:=omega) only [go_sem,Int.reduceEq,↓reduceIte,reduceCtorEq,Nat.reduceEqDiff,Nat.reduceLT,Nat.reduceLeDiff,Nat.reduceAdd,Nat.reduceSub,Nat.reduceMul,Int.reduceToNat,Int.reduceLE,Int.reduceLT,NF1,Sp_overdubref01_Whole,hz])
  have hz : ropOut k b = ⟨.tup [.d (.v (.int .i64 (nN b))),.d (.list ((nI b).map mB)),.d (.v (.bool true))],[]⟩:=if_pos ⟨ho,c0,c1⟩
  have d1 : decide (b.getD 0 0 = 160) = true:=decide_eq_true c0
  have d2 : decide (b.getD 1 0 = k) = true:=decide_eq_true c1
  clear ho
  rw [hnN] at g2 r2
  generalize b.getD 0 0 = u0 at *
  generalize b.getD 1 0 = u1 at *
  generalize nN b = u2 at *
  repeat' first
 | refine AW.seq ?_
 | refine AW.block ?_
 | refine AW.regl NF1_ok [0,1,4,5,6,23] ?_
 | (refine AW.regq (id:=3) NF1_ok follows bb_overdubref20_open_3 (by kernel_rfl) [0,1,4,5,6,23] ?_)
 | refine then_n ?_
 | refine then_r ?_
 | refine then_x ?_
 | refine block_x ?_
 | refine block_o (by decide) ?_
 | refine block_n ?_
 | refine block_r ?_
 | refine AW.skip ?_
 | refine AW.ret ?_
 | refine AW.exit ?_
 | refine AW.cond rfl ?_ ?_
 | refine awl_none rfl ?_
 | refine awl_nil2 ?_
 | refine awl_some rfl rfl (Nat.le_of_ble_eq_true rfl) rfl rfl ?_ ?_
 | refine awc_none rfl ?_
 | refine awc_nilq (by kernel_rfl) (by kernel_rfl) ?_
 | (refine fun (hc : _ = _)=>?_;first|cases hc|((try rw [hc]);(try simp only [stH] at hc);(try (exfalso;omega)));(try ((first|show Awl _ _ _ _ _|show Awc _ _ _ _ _ _);simp only [stU])))
 | ((first|refine fun (K : V → List _ → _) hK=>?_|refine fun (_ : V → V)=>?_);simp (disch:=omega) only [go_sem,Int.reduceEq,↓reduceIte,reduceCtorEq,Nat.reduceEqDiff,Nat.reduceLT,Nat.reduceLeDiff,Nat.reduceAdd,Nat.reduceSub,Nat.reduceMul,Int.reduceToNat,Int.reduceLE,Int.reduceLT,NF1,Sp_overdubref01_Whole,hbt,h8,d0,d1,d2,g0,g1,g2,hcut,decide_not,mB_inj,Sg3,St.updIf,ifc_nil,gt_ifc,go_ifc,ite_self,Option.none_or,Option.some_or];(try (revert hK;intro hK;(repeat' first|(refine And.intro ?_ ?_)|(intro hc;first|cases hc|((try rw [hc]);(try simp only [stH] at hc);(try (exfalso;omega)))));all_goals first|(refine hK _ _ ?_;clear hK K;simp only [stU])|exact hK|omega)))
  (refine Ends.of (nm []) (by first|exact .inl rfl|exact .inr rfl) ?_;simp (disch:=omega) only [go_sem,Int.reduceEq,↓reduceIte,reduceCtorEq,Nat.reduceEqDiff,Nat.reduceLT,Nat.reduceLeDiff,Nat.reduceAdd,Nat.reduceSub,Nat.reduceMul,Int.reduceToNat,Int.reduceLE,Int.reduceLT,NF1,Sp_overdubref01_Whole,hz,hcut])
theorem ent_overdubref20_open : Ent Try.prog 76:=⟨_,Try.func76,rfl,by decide⟩
noncomputable def NF2 : Env:=⟨Try.prog,fun f ds out=>(f = 76 ∧ Sp_overdubref20_open ds out) ∨ (f = 77 ∧ Sp_overdubref14_TakeExtents ds out) ∨ (f = 26 ∧ Sp_overdubref20_PackLeaf ds out),Es,fun _=>false⟩
theorem NF2_sp : ∀ f ds out,NF2.Sp f ds out → Ent NF2.P f ∧ Good NF2.P f (fun a b=>a = ds ∧ b = out):=by
  rintro f ds out (⟨rfl,h⟩|⟨rfl,h⟩|⟨rfl,h⟩)
  · exact ⟨ent_overdubref20_open,good_overdubref20_open.one h⟩
  · exact ⟨ent_overdubref14_TakeExtents,good_overdubref14_TakeExtents.one h⟩
  · exact ⟨ent_overdubref20_PackLeaf,good_overdubref20_PackLeaf.one h⟩
theorem NF2_ok : NF2.Ok:=⟨NF2_sp,Es_ok⟩
def Sp_overdubref20_Leaf (ds : List D) (out : Out) : Prop:=∃ b : List Int,ds = [.list (b.map mB)] ∧ Byt b ∧ b.length ≤ 9223372036854775807 ∧ out = leafOut b
theorem good_overdubref20_Leaf : Good Try.prog 56 Sp_overdubref20_Leaf:=by
  refine good_body (E:=NF2) (nt:=49) (rs:=#[.tmp 2,.tmp 3]) Try.func56 rfl rfl rfl ?_
  rintro ds out ⟨b,rfl,hb,hl,rfl⟩
  refine ⟨by simp,?_⟩
  have hbt : Byt b = True:=eq_true hb
  by_cases ho : oH 1 b
  case neg =>
    have hop : ropOut 1 b = ⟨.tup [.d (.v (.int .i64 0)),.nil,.d (.v (.bool false))],[]⟩:=if_neg ho
    have hz : leafOut b = ⟨.tup [.nil,.d (.v (.bool false))],[]⟩:=if_neg fun h=>ho h.1
    repeat' first
 | refine AW.seq ?_
 | refine AW.block ?_
 | refine AW.regl NF2_ok [0,2,3,4,5,6,7,9,24,47] ?_
 | refine then_n ?_
 | refine then_r ?_
 | refine then_x ?_
 | refine block_x ?_
 | refine block_o (by decide) ?_
 | refine block_n ?_
 | refine block_r ?_
 | refine AW.skip ?_
 | refine AW.ret ?_
 | refine AW.exit ?_
 | refine AW.cond rfl ?_ ?_
 | refine awl_none rfl ?_
 | refine awl_nil2 ?_
 | refine awl_some rfl rfl (Nat.le_of_ble_eq_true rfl) rfl rfl ?_ ?_
 | (refine fun (hc : _ = _)=>?_;first|cases hc|((try rw [hc]);(try simp only [stH] at hc);(try (exfalso;omega)));(try (show Awl _ _ _ _ _;simp only [stU])))
 | ((first|refine fun (K : V → List _ → _) hK=>?_|refine fun (_ : V → V)=>?_);simp (disch:=omega) only [go_sem,Int.reduceEq,↓reduceIte,reduceCtorEq,Nat.reduceEqDiff,Nat.reduceLT,Nat.reduceLeDiff,Nat.reduceAdd,Nat.reduceSub,Nat.reduceMul,Int.reduceToNat,Int.reduceLE,Int.reduceLT,NF2,Sp_overdubref20_open,Sp_overdubref14_TakeExtents,Sp_overdubref20_PackLeaf,hbt,hop,mB_inj];(try (revert hK;intro hK;(repeat' first|(refine And.intro ?_ ?_)|(intro hc;first|cases hc|((try rw [hc]);(try simp only [stH] at hc);(try (exfalso;omega)))));all_goals first|(refine hK _ _ ?_;clear hK K;simp only [stU])|exact hK|omega)))
    (refine Ends.of (nm []) (by first|exact .inl rfl|exact .inr rfl) ?_;simp (disch:=omega) only [go_sem,Int.reduceEq,↓reduceIte,reduceCtorEq,Nat.reduceEqDiff,Nat.reduceLT,Nat.reduceLeDiff,Nat.reduceAdd,Nat.reduceSub,Nat.reduceMul,Int.reduceToNat,Int.reduceLE,Int.reduceLT,NF2,Sp_overdubref20_open,Sp_overdubref14_TakeExtents,Sp_overdubref20_PackLeaf,hz])
  have hop : ropOut 1 b = ⟨.tup [.d (.v (.int .i64 (nN b))),.d (.list ((nI b).map mB)),.d (.v (.bool true))],[]⟩:=if_pos ho
  have h8:=ho.1.1
  have r2 : 0 ≤ nN b ∧ nN b < 256:=getD_byt hb 2
  have hnl:=nI_len h8
  obtain ⟨n,hn⟩ : ∃ n : Nat,nN b = n:=⟨(nN b).toNat,by omega⟩
  by_cases h17 : 121 < 7 * n
  case pos =>
    have hz : leafOut b = ⟨.tup [.nil,.d (.v (.bool false))],[]⟩:=if_neg fun h=>by have:=h.2.1;omega
    rw [hn] at hop r2
    repeat' first
 | refine AW.seq ?_
 | refine AW.block ?_
 | refine AW.regl NF2_ok [0,2,3,4,5,6,7,9,24,47] ?_
 | refine then_n ?_
 | refine then_r ?_
 | refine then_x ?_
 | refine block_x ?_
 | refine block_o (by decide) ?_
 | refine block_n ?_
 | refine block_r ?_
 | refine AW.skip ?_
 | refine AW.ret ?_
 | refine AW.exit ?_
 | refine AW.cond rfl ?_ ?_
 | refine awl_none rfl ?_
 | refine awl_nil2 ?_
 | refine awl_some rfl rfl (Nat.le_of_ble_eq_true rfl) rfl rfl ?_ ?_
 | (refine fun (hc : _ = _)=>?_;first|cases hc|((try rw [hc]);(try simp only [stH] at hc);(try (exfalso;omega)));(try (show Awl _ _ _ _ _;simp only [stU])))
 | ((first|refine fun (K : V → List _ → _) hK=>?_|refine fun (_ : V → V)=>?_);simp (disch:=omega) only [go_sem,Int.reduceEq,↓reduceIte,reduceCtorEq,Nat.reduceEqDiff,Nat.reduceLT,Nat.reduceLeDiff,Nat.reduceAdd,Nat.reduceSub,Nat.reduceMul,Int.reduceToNat,Int.reduceLE,Int.reduceLT,NF2,Sp_overdubref20_open,Sp_overdubref14_TakeExtents,Sp_overdubref20_PackLeaf,hbt,hop,hnl,mB_inj];(try (revert hK;intro hK;(repeat' first|(refine And.intro ?_ ?_)|(intro hc;first|cases hc|((try rw [hc]);(try simp only [stH] at hc);(try (exfalso;omega)))));all_goals first|(refine hK _ _ ?_;clear hK K;simp only [stU])|exact hK|omega)))
    (refine Ends.of (nm []) (by first|exact .inl rfl|exact .inr rfl) ?_;simp (disch:=omega) only [go_sem,Int.reduceEq,↓reduceIte,reduceCtorEq,Nat.reduceEqDiff,Nat.reduceLT,Nat.reduceLeDiff,Nat.reduceAdd,Nat.reduceSub,Nat.reduceMul,Int.reduceToNat,Int.reduceLE,Int.reduceLT,NF2,Sp_overdubref20_open,Sp_overdubref14_TakeExtents,Sp_overdubref20_PackLeaf,hz])
  have hfE : fE b = takeE ((nI b).take (7 * n)) n:=by unfold fE;rw [hn];rfl
  have hny : Byt ((nI b).take (7 * n)) = True:=eq_true (byt_take (nI_byt hb) (7 * n))
  have hnl7 : ((nI b).take (7 * n)).length = 7 * n:=by rw [List.length_take,hnl];omega
  have h7n : (7 * (n : Int)).toNat = 7 * n:=by omega
  have hrow : ((nI b).map mB).take (7 * n) = ((nI b).take (7 * n)).map mB:=List.map_take.symm
  have htx : texOut ((nI b).take (7 * n)) n = ⟨.tup [.sl 0 5 0 (fE b).length true,.d (.v (.bool true))],[(0,.row 42 5 ((fE b).map eD))]⟩:=by
    rw [texOut,if_neg (by rw [hnl7];omega),Int.toNat_natCast,← hfE]
  have hf8 : (fE b).length = n:=by rw [hfE,takeE_length]
  have hft : ((fE b).map eD).take (fE b).length = (fE b).map eD:=List.take_of_length_le (by simp)
  have hok : leafOk b ↔ mayF (fE b) ∧ nodP 1 (fE b).length (exsB (fE b)) = b:=⟨fun h=>h.2.2,fun h=>⟨ho,by have:=h.1.2.1;omega,h⟩⟩
  have hyes : leafOk b → leafOut b = ⟨.tup [.sl 0 5 0 (fE b).length true,.d (.v (.bool true))],[(0,.row 42 5 ((fE b).map eD))]⟩:=fun h=>if_pos h
  have hno : ¬ leafOk b → leafOut b = ⟨.tup [.nil,.d (.v (.bool false))],[]⟩:=fun h=>if_neg h
  rw [hn] at hop r2
  clear hfE ho
  generalize fE b = F at *
  by_cases hm : mayF F
  case neg =>
    have hz:=hno fun h=>hm (hok.1 h).1
    have hp : packFOut F = ⟨.tup [.nil,.d (.v (.bool false))],[]⟩:=if_neg hm
    clear hm hok hyes hno
    repeat' first
 | refine AW.seq ?_
 | refine AW.block ?_
 | refine AW.regl NF2_ok [0,2,3,4,5,6,7,9,24,47] ?_
 | refine then_n ?_
 | refine then_r ?_
 | refine then_x ?_
 | refine block_x ?_
 | refine block_o (by decide) ?_
 | refine block_n ?_
 | refine block_r ?_
 | refine AW.skip ?_
 | refine AW.ret ?_
 | refine AW.exit ?_
 | refine AW.cond rfl ?_ ?_
 | refine awl_none rfl ?_
 | refine awl_nil2 ?_
 | refine awl_some rfl rfl (Nat.le_of_ble_eq_true rfl) rfl rfl ?_ ?_
 | (refine fun (hc : _ = _)=>?_;first|cases hc|((try rw [hc]);(try simp only [stH] at hc);(try (exfalso;omega)));(try (show Awl _ _ _ _ _;simp only [stU])))
 | ((first|refine fun (K : V → List _ → _) hK=>?_|refine fun (_ : V → V)=>?_);simp (disch:=omega) only [go_sem,Int.reduceEq,↓reduceIte,reduceCtorEq,Nat.reduceEqDiff,Nat.reduceLT,Nat.reduceLeDiff,Nat.reduceAdd,Nat.reduceSub,Nat.reduceMul,Int.reduceToNat,Int.reduceLE,Int.reduceLT,NF2,Sp_overdubref20_open,Sp_overdubref14_TakeExtents,Sp_overdubref20_PackLeaf,hbt,hop,hnl,h7n,hrow,hny,hnl7,htx,hft,hp,sc_E,mB_inj,eD_inj];(try (revert hK;intro hK;(repeat' first|(refine And.intro ?_ ?_)|(intro hc;first|cases hc|((try rw [hc]);(try simp only [stH] at hc);(try (exfalso;omega)))));all_goals first|(refine hK _ _ ?_;clear hK K;simp only [stU])|exact hK|omega)))
    (refine Ends.of (nm []) (by first|exact .inl rfl|exact .inr rfl) ?_;simp (disch:=omega) only [go_sem,Int.reduceEq,↓reduceIte,reduceCtorEq,Nat.reduceEqDiff,Nat.reduceLT,Nat.reduceLeDiff,Nat.reduceAdd,Nat.reduceSub,Nat.reduceMul,Int.reduceToNat,Int.reduceLE,Int.reduceLT,NF2,Sp_overdubref20_open,Sp_overdubref14_TakeExtents,Sp_overdubref20_PackLeaf,hz])
  obtain ⟨P,eP⟩ : ∃ P,nodP 1 F.length (exsB F) = P:=⟨_,rfl⟩
  have h8F:=hm.2.1
  have hp : packFOut F = ⟨.tup [.sl 0 1 0 128 true,.d (.v (.bool true))],[(0,.row 5 1 (P.map mB))]⟩:=by rw [packFOut,if_pos hm,eP]
  have hpb : Byt P:=eP ▸ nodP_byt (by omega) (by omega) (exsB_bytF F)
  have hpl : P.length = 128:=eP ▸ nodP_len _ _ _
  have hpt : (P.map mB).take 128 = P.map mB:=List.take_of_length_le (by rw [List.length_map,hpl];omega)
  have hstr:=byt_strnN hpb hb
  by_cases he : P = b
  · have hz:=hyes (hok.2 ⟨hm,eP.trans he⟩)
    have hd : decide (P = b) = true:=decide_eq_true he
    clear hm he eP hok hyes hno
    repeat' first
 | refine AW.seq ?_
 | refine AW.block ?_
 | refine AW.regl NF2_ok [0,2,3,4,5,6,7,9,24,47] ?_
 | refine then_n ?_
 | refine then_r ?_
 | refine then_x ?_
 | refine block_x ?_
 | refine block_o (by decide) ?_
 | refine block_n ?_
 | refine block_r ?_
 | refine AW.skip ?_
 | refine AW.ret ?_
 | refine AW.exit ?_
 | refine AW.cond rfl ?_ ?_
 | refine awl_none rfl ?_
 | refine awl_nil2 ?_
 | refine awl_some rfl rfl (Nat.le_of_ble_eq_true rfl) rfl rfl ?_ ?_
 | (refine fun (hc : _ = _)=>?_;first|cases hc|((try rw [hc]);(try simp only [stH] at hc);(try (exfalso;omega)));(try (show Awl _ _ _ _ _;simp only [stU])))
 | ((first|refine fun (K : V → List _ → _) hK=>?_|refine fun (_ : V → V)=>?_);simp (disch:=omega) only [go_sem,Int.reduceEq,↓reduceIte,reduceCtorEq,Nat.reduceEqDiff,Nat.reduceLT,Nat.reduceLeDiff,Nat.reduceAdd,Nat.reduceSub,Nat.reduceMul,Int.reduceToNat,Int.reduceLE,Int.reduceLT,NF2,Sp_overdubref20_open,Sp_overdubref14_TakeExtents,Sp_overdubref20_PackLeaf,hbt,hop,hnl,h7n,hrow,hny,hnl7,htx,hft,hp,hpl,hpt,hstr,hd,sc_E,mB_inj,eD_inj];(try (revert hK;intro hK;(repeat' first|(refine And.intro ?_ ?_)|(intro hc;first|cases hc|((try rw [hc]);(try simp only [stH] at hc);(try (exfalso;omega)))));all_goals first|(refine hK _ _ ?_;clear hK K;simp only [stU])|exact hK|omega)))
    (refine Ends.of (nm [(0,31)]) (by first|exact .inl rfl|exact .inr rfl) ?_;simp (disch:=omega) only [go_sem,Int.reduceEq,↓reduceIte,reduceCtorEq,Nat.reduceEqDiff,Nat.reduceLT,Nat.reduceLeDiff,Nat.reduceAdd,Nat.reduceSub,Nat.reduceMul,Int.reduceToNat,Int.reduceLE,Int.reduceLT,NF2,Sp_overdubref20_open,Sp_overdubref14_TakeExtents,Sp_overdubref20_PackLeaf,hz])
  · have hz:=hno fun h=>he (eP.symm.trans (hok.1 h).2)
    have hd : decide (P = b) = false:=decide_eq_false he
    clear hm he eP hok hyes hno
    repeat' first
 | refine AW.seq ?_
 | refine AW.block ?_
 | refine AW.regl NF2_ok [0,2,3,4,5,6,7,9,24,47] ?_
 | refine then_n ?_
 | refine then_r ?_
 | refine then_x ?_
 | refine block_x ?_
 | refine block_o (by decide) ?_
 | refine block_n ?_
 | refine block_r ?_
 | refine AW.skip ?_
 | refine AW.ret ?_
 | refine AW.exit ?_
 | refine AW.cond rfl ?_ ?_
 | refine awl_none rfl ?_
 | refine awl_nil2 ?_
 | refine awl_some rfl rfl (Nat.le_of_ble_eq_true rfl) rfl rfl ?_ ?_
 | (refine fun (hc : _ = _)=>?_;first|cases hc|((try rw [hc]);(try simp only [stH] at hc);(try (exfalso;omega)));(try (show Awl _ _ _ _ _;simp only [stU])))
 | ((first|refine fun (K : V → List _ → _) hK=>?_|refine fun (_ : V → V)=>?_);simp (disch:=omega) only [go_sem,Int.reduceEq,↓reduceIte,reduceCtorEq,Nat.reduceEqDiff,Nat.reduceLT,Nat.reduceLeDiff,Nat.reduceAdd,Nat.reduceSub,Nat.reduceMul,Int.reduceToNat,Int.reduceLE,Int.reduceLT,NF2,Sp_overdubref20_open,Sp_overdubref14_TakeExtents,Sp_overdubref20_PackLeaf,hbt,hop,hnl,h7n,hrow,hny,hnl7,htx,hft,hp,hpl,hpt,hstr,hd,sc_E,mB_inj,eD_inj];(try (revert hK;intro hK;(repeat' first|(refine And.intro ?_ ?_)|(intro hc;first|cases hc|((try rw [hc]);(try simp only [stH] at hc);(try (exfalso;omega)))));all_goals first|(refine hK _ _ ?_;clear hK K;simp only [stU])|exact hK|omega)))
    (refine Ends.of (nm []) (by first|exact .inl rfl|exact .inr rfl) ?_;simp (disch:=omega) only [go_sem,Int.reduceEq,↓reduceIte,reduceCtorEq,Nat.reduceEqDiff,Nat.reduceLT,Nat.reduceLeDiff,Nat.reduceAdd,Nat.reduceSub,Nat.reduceMul,Int.reduceToNat,Int.reduceLE,Int.reduceLT,NF2,Sp_overdubref20_open,Sp_overdubref14_TakeExtents,Sp_overdubref20_PackLeaf,hz])
theorem ent_overdubref20_Leaf : Ent Try.prog 56:=⟨_,Try.func56,rfl,by decide⟩
noncomputable def NF3 : Env:=⟨Try.prog,fun f ds out=>(f = 76 ∧ Sp_overdubref20_open ds out) ∨ (f = 78 ∧ Sp_overdubref01_Take ds out) ∨ (f = 30 ∧ Sp_overdubref20_PackNode ds out),Es,fun _=>false⟩
theorem NF3_sp : ∀ f ds out,NF3.Sp f ds out → Ent NF3.P f ∧ Good NF3.P f (fun a b=>a = ds ∧ b = out):=by
  rintro f ds out (⟨rfl,h⟩|⟨rfl,h⟩|⟨rfl,h⟩)
  · exact ⟨ent_overdubref20_open,good_overdubref20_open.one h⟩
  · exact ⟨ent_overdubref01_Take,good_overdubref01_Take.one h⟩
  · exact ⟨ent_overdubref20_PackNode,good_overdubref20_PackNode.one h⟩
theorem NF3_ok : NF3.Ok:=⟨NF3_sp,Es_ok⟩
open Classical in
noncomputable def rnodeOut (b : List Int) : Out:=if nodeOk b then ⟨.tup [.sl 0 2 0 (nE b).length true,.d (.v (.bool true))],[(0,.row 96 2 ((nE b).map pD))]⟩ else ⟨.tup [.nil,.d (.v (.bool false))],[]⟩
def Sp_overdubref20_Node (ds : List D) (out : Out) : Prop:=∃ b : List Int,ds = [.list (b.map mB)] ∧ Byt b ∧ b.length ≤ 9223372036854775807 ∧ out = rnodeOut b
def bb_overdubref20_Node_9 : List Nat:=[0,0,2,6,0,16,48,126,254,511,1023]
theorem good_overdubref20_Node : Good Try.prog 58 Sp_overdubref20_Node:=by
  refine good_body (E:=NF3) (nt:=66) (rs:=#[.tmp 2,.tmp 3]) Try.func58 rfl rfl rfl ?_
  rintro ds out ⟨b,rfl,hb,hl,rfl⟩
  refine ⟨by simp,?_⟩
  have hbt : Byt b = True:=eq_true hb
  by_cases ho : oH 2 b
  case neg =>
    have hop : ropOut 2 b = ⟨.tup [.d (.v (.int .i64 0)),.nil,.d (.v (.bool false))],[]⟩:=if_neg ho
    have hz : rnodeOut b = ⟨.tup [.nil,.d (.v (.bool false))],[]⟩:=if_neg fun h=>ho h.1
    repeat' first
 | refine AW.seq ?_
 | refine AW.block ?_
 | refine AW.regl NF3_ok [0,2,3,4,5,6,7,8,9,11,26,29,64] ?_
 | (refine AW.regq (id:=9) NF3_ok follows bb_overdubref20_Node_9 (by kernel_rfl) [0,2,3,4,5,6,7,8,9,11,26,29,64] ?_)
 | refine then_n ?_
 | refine then_r ?_
 | refine then_x ?_
 | refine block_x ?_
 | refine block_o (by decide) ?_
 | refine block_n ?_
 | refine block_r ?_
 | refine AW.skip ?_
 | refine AW.ret ?_
 | refine AW.exit ?_
 | refine AW.cond rfl ?_ ?_
 | refine awl_none rfl ?_
 | refine awl_nil2 ?_
 | refine awl_some rfl rfl (Nat.le_of_ble_eq_true rfl) rfl rfl ?_ ?_
 | refine awc_none rfl ?_
 | refine awc_nilq (by kernel_rfl) (by kernel_rfl) ?_
 | (refine fun (hc : _ = _)=>?_;first|cases hc|((try rw [hc]);(try simp only [stH] at hc);(try (exfalso;omega)));(try ((first|show Awl _ _ _ _ _|show Awc _ _ _ _ _ _);simp only [stU])))
 | ((first|refine fun (K : V → List _ → _) hK=>?_|refine fun (_ : V → V)=>?_);simp (disch:=omega) only [go_sem,Int.reduceEq,↓reduceIte,reduceCtorEq,Nat.reduceEqDiff,Nat.reduceLT,Nat.reduceLeDiff,Nat.reduceAdd,Nat.reduceSub,Nat.reduceMul,Int.reduceToNat,Int.reduceLE,Int.reduceLT,NF3,Sp_overdubref20_open,Sp_overdubref01_Take,Sp_overdubref20_PackNode,hbt,hop,mB_inj,Sg3,St.updIf,ifc_nil,gt_ifc,go_ifc,ite_self,Option.none_or,Option.some_or];(try (revert hK;intro hK;(repeat' first|(refine And.intro ?_ ?_)|(intro hc;first|cases hc|((try rw [hc]);(try simp only [stH] at hc);(try (exfalso;omega)))));all_goals first|(refine hK _ _ ?_;clear hK K;simp only [stU])|exact hK|omega)))
    (refine Ends.of (nm []) (by first|exact .inl rfl|exact .inr rfl) ?_;simp (disch:=omega) only [go_sem,Int.reduceEq,↓reduceIte,reduceCtorEq,Nat.reduceEqDiff,Nat.reduceLT,Nat.reduceLeDiff,Nat.reduceAdd,Nat.reduceSub,Nat.reduceMul,Int.reduceToNat,Int.reduceLE,Int.reduceLT,NF3,Sp_overdubref20_open,Sp_overdubref01_Take,Sp_overdubref20_PackNode,hz])
  have hop : ropOut 2 b = ⟨.tup [.d (.v (.int .i64 (nN b))),.d (.list ((nI b).map mB)),.d (.v (.bool true))],[]⟩:=if_pos ho
  have h8:=ho.1.1
  have r2 : 0 ≤ nN b ∧ nN b < 256:=getD_byt hb 2
  have hnb:=nI_byt hb
  have hnl:=nI_len h8
  obtain ⟨n,hn⟩ : ∃ n : Nat,nN b = n:=⟨(nN b).toNat,by omega⟩
  by_cases h17 : 121 < 4 * n
  case pos =>
    have hz : rnodeOut b = ⟨.tup [.nil,.d (.v (.bool false))],[]⟩:=if_neg fun h=>by have:=h.2.1;omega
    rw [hn] at hop r2
    repeat' first
 | refine AW.seq ?_
 | refine AW.block ?_
 | refine AW.regl NF3_ok [0,2,3,4,5,6,7,8,9,11,26,29,64] ?_
 | (refine AW.regq (id:=9) NF3_ok follows bb_overdubref20_Node_9 (by kernel_rfl) [0,2,3,4,5,6,7,8,9,11,26,29,64] ?_)
 | refine then_n ?_
 | refine then_r ?_
 | refine then_x ?_
 | refine block_x ?_
 | refine block_o (by decide) ?_
 | refine block_n ?_
 | refine block_r ?_
 | refine AW.skip ?_
 | refine AW.ret ?_
 | refine AW.exit ?_
 | refine AW.cond rfl ?_ ?_
 | refine awl_none rfl ?_
 | refine awl_nil2 ?_
 | refine awl_some rfl rfl (Nat.le_of_ble_eq_true rfl) rfl rfl ?_ ?_
 | refine awc_none rfl ?_
 | refine awc_nilq (by kernel_rfl) (by kernel_rfl) ?_
 | (refine fun (hc : _ = _)=>?_;first|cases hc|((try rw [hc]);(try simp only [stH] at hc);(try (exfalso;omega)));(try ((first|show Awl _ _ _ _ _|show Awc _ _ _ _ _ _);simp only [stU])))
 | ((first|refine fun (K : V → List _ → _) hK=>?_|refine fun (_ : V → V)=>?_);simp (disch:=omega) only [go_sem,Int.reduceEq,↓reduceIte,reduceCtorEq,Nat.reduceEqDiff,Nat.reduceLT,Nat.reduceLeDiff,Nat.reduceAdd,Nat.reduceSub,Nat.reduceMul,Int.reduceToNat,Int.reduceLE,Int.reduceLT,NF3,Sp_overdubref20_open,Sp_overdubref01_Take,Sp_overdubref20_PackNode,hbt,hop,hnl,mB_inj,Sg3,St.updIf,ifc_nil,gt_ifc,go_ifc,ite_self,Option.none_or,Option.some_or];(try (revert hK;intro hK;(repeat' first|(refine And.intro ?_ ?_)|(intro hc;first|cases hc|((try rw [hc]);(try simp only [stH] at hc);(try (exfalso;omega)))));all_goals first|(refine hK _ _ ?_;clear hK K;simp only [stU])|exact hK|omega)))
    (refine Ends.of (nm []) (by first|exact .inl rfl|exact .inr rfl) ?_;simp (disch:=omega) only [go_sem,Int.reduceEq,↓reduceIte,reduceCtorEq,Nat.reduceEqDiff,Nat.reduceLT,Nat.reduceLeDiff,Nat.reduceAdd,Nat.reduceSub,Nat.reduceMul,Int.reduceToNat,Int.reduceLE,Int.reduceLT,NF3,Sp_overdubref20_open,Sp_overdubref01_Take,Sp_overdubref20_PackNode,hz])
  have hnE : nE b = takeP (nI b) n:=by unfold nE;rw [hn];rfl
  have hn9:=hn
  rw [hn] at hop r2
  repeat' first
 | refine AW.seq ?_
 | refine AW.block ?_
 | refine AW.regl NF3_ok [0,2,3,4,5,6,7,8,9,11,26,29,64] ?_
 | (refine AW.regq (id:=9) NF3_ok follows bb_overdubref20_Node_9 (by kernel_rfl) [0,2,3,4,5,6,7,8,9,11,26,29,64] ?_)
 | refine then_n ?_
 | refine then_r ?_
 | refine then_x ?_
 | refine block_x ?_
 | refine block_o (by decide) ?_
 | refine block_n ?_
 | refine block_r ?_
 | refine AW.skip ?_
 | refine AW.ret ?_
 | refine AW.exit ?_
 | refine AW.cond rfl ?_ ?_
 | refine awl_none rfl ?_
 | refine awl_nil2 ?_
 | refine awl_some rfl rfl (Nat.le_of_ble_eq_true rfl) rfl rfl ?_ ?_
 | refine awc_none rfl ?_
 | refine awc_nilq (by kernel_rfl) (by kernel_rfl) ?_
 | (refine fun (hc : _ = _)=>?_;first|cases hc|((try rw [hc]);(try simp only [stH] at hc);(try (exfalso;omega)));(try ((first|show Awl _ _ _ _ _|show Awc _ _ _ _ _ _);simp only [stU])))
 | ((first|refine fun (K : V → List _ → _) hK=>?_|refine fun (_ : V → V)=>?_);simp (disch:=omega) only [go_sem,Int.reduceEq,↓reduceIte,reduceCtorEq,Nat.reduceEqDiff,Nat.reduceLT,Nat.reduceLeDiff,Nat.reduceAdd,Nat.reduceSub,Nat.reduceMul,Int.reduceToNat,Int.reduceLE,Int.reduceLT,NF3,Sp_overdubref20_open,Sp_overdubref01_Take,Sp_overdubref20_PackNode,hbt,hop,hnl,mB_inj,Sg3,St.updIf,ifc_nil,gt_ifc,go_ifc,ite_self,Option.none_or,Option.some_or];(try (revert hK;intro hK;(repeat' first|(refine And.intro ?_ ?_)|(intro hc;first|cases hc|((try rw [hc]);(try simp only [stH] at hc);(try (exfalso;omega)))));all_goals first|(refine hK _ _ ?_;clear hK K;simp only [stU])|exact hK|omega)))
  refine AW.loop_wk (fun k : Nat=>⟨[(0,.d (.list (b.map mB))),(2,.nil),(3,.d (.v (.bool false))),(4,.d (.v (.int .i64 n))),(5,.d (.list ((nI b).map mB))),(7,.sl 101 2 0 k true),(8,.d (.v (.int .i64 k)))],[(101,.row 96 2 ((takeP (nI b) k).map pD))],66⟩)
    (fun k=>k ≤ n) (fun k=>n - k) 0 (by omega) (fun w0 oa a w hs=>Wk.sr (ρ:=nm []) (Wk.of ?_) (nil_sr 7 101 96 2 rfl (by simp) rfl (by decide) hs)) ?_
  · simp (disch:=omega) only [go_sem,Int.reduceEq,↓reduceIte,reduceCtorEq,Nat.reduceEqDiff,Nat.reduceLT,Nat.reduceLeDiff,Nat.reduceAdd,Nat.reduceSub,Nat.reduceMul,Int.reduceToNat,Int.reduceLE,Int.reduceLT,NF3,Sp_overdubref20_open,Sp_overdubref01_Take,Sp_overdubref20_PackNode]
    all_goals first|done|rfl|exact ⟨rfl,rfl⟩
  · intro k hk
    by_cases hk1 : k < n
    · have hq0 : (4 * (k : Int)).toNat = 4 * k:=by omega
      have hq1 : ((nI b).map mB).take 121 = (nI b).map mB:=List.take_of_length_le (by rw [List.length_map,hnl];omega)
      have hq2 : ((nI b).map mB).drop (4 * k) = ((nI b).drop (4 * k)).map mB:=List.map_drop.symm
      have hmb : Byt ((nI b).drop (4 * k)) = True:=eq_true (byt_drop hnb _)
      have hml : ((nI b).drop (4 * k)).length = 121 - 4 * k:=by rw [List.length_drop,hnl]
      have hg : takeOut ((nI b).drop (4 * k)) [2,2] = ⟨.tup [.sl 0 1 0 2 true,.d (.v (.bool true))],[(0,.row 3 1 [.v (.int .i64 (leV (((nI b).drop (4 * k)).take 2))),.v (.int .i64 (leV ((((nI b).drop (4 * k)).drop 2).take 2)))])]⟩:=by rw [takeOut,takeL_2n (by omega)];rfl
      have hs:=takeP_snoc (nI b) k
      have hsl:=takeP_len (nI b) k
      have hsm : ((takeP (nI b) k).map pD).length = k:=by rw [List.length_map,hsl]
      have hsn : ∀ x y : Int,(takeP (nI b) k).map pD ++ [D.agg [.v (.int .i64 x),.v (.int .i64 y)]] = (takeP (nI b) k ++ [Pa.mk x y]).map pD:=fun x y=>by rw [List.map_append];rfl
      generalize leV (((nI b).drop (4 * k)).take 2) = x at *
      generalize leV ((((nI b).drop (4 * k)).drop 2).take 2) = y at *
      repeat' first
 | refine AW.seq ?_
 | refine AW.block ?_
 | refine AW.regl NF3_ok [0,2,3,4,5,6,7,8,9,11,26,29,64] ?_
 | (refine AW.regq (id:=9) NF3_ok follows bb_overdubref20_Node_9 (by kernel_rfl) [0,2,3,4,5,6,7,8,9,11,26,29,64] ?_)
 | refine then_n ?_
 | refine then_r ?_
 | refine then_x ?_
 | refine block_x ?_
 | refine block_o (by decide) ?_
 | refine block_n ?_
 | refine block_r ?_
 | refine AW.skip ?_
 | refine AW.ret ?_
 | refine AW.exit ?_
 | refine AW.cond rfl ?_ ?_
 | refine awl_none rfl ?_
 | refine awl_nil2 ?_
 | refine awl_some rfl rfl (Nat.le_of_ble_eq_true rfl) rfl rfl ?_ ?_
 | refine awc_none rfl ?_
 | refine awc_nilq (by kernel_rfl) (by kernel_rfl) ?_
 | (refine fun (hc : _ = _)=>?_;first|cases hc|((try rw [hc]);(try simp only [stH] at hc);(try (exfalso;omega)));(try ((first|show Awl _ _ _ _ _|show Awc _ _ _ _ _ _);simp only [stU])))
 | ((first|refine fun (K : V → List _ → _) hK=>?_|refine fun (_ : V → V)=>?_);simp (disch:=omega) only [go_sem,Int.reduceEq,↓reduceIte,reduceCtorEq,Nat.reduceEqDiff,Nat.reduceLT,Nat.reduceLeDiff,Nat.reduceAdd,Nat.reduceSub,Nat.reduceMul,Int.reduceToNat,Int.reduceLE,Int.reduceLT,NF3,Sp_overdubref20_open,Sp_overdubref01_Take,Sp_overdubref20_PackNode,hnl,hq0,hq1,hq2,hmb,hml,hg,hsl,hsm,W2d,nth,List.getD_cons_zero,List.getD_cons_succ,mB_inj,Sg3,St.updIf,ifc_nil,gt_ifc,go_ifc,ite_self,Option.none_or,Option.some_or];(try (revert hK;intro hK;(repeat' first|(refine And.intro ?_ ?_)|(intro hc;first|cases hc|((try rw [hc]);(try simp only [stH] at hc);(try (exfalso;omega)))));all_goals first|(refine hK _ _ ?_;clear hK K;simp only [stU])|exact hK|omega)))
      refine ⟨k + 1,by omega,by omega,nm [(101,50)],Wk.of ?_⟩
      simp (disch:=omega) only [go_sem,Int.reduceEq,↓reduceIte,reduceCtorEq,Nat.reduceEqDiff,Nat.reduceLT,Nat.reduceLeDiff,Nat.reduceAdd,Nat.reduceSub,Nat.reduceMul,Int.reduceToNat,Int.reduceLE,Int.reduceLT,NF3,Sp_overdubref20_open,Sp_overdubref01_Take,Sp_overdubref20_PackNode,hs,hsn]
      all_goals first|done|rfl|exact ⟨rfl,rfl⟩|exact ⟨rfl,rfl,rfl⟩
    · obtain rfl : k = n:=by omega
      have hok : nodeOk b ↔ mayN (nE b) ∧ nodP 2 (nE b).length (psB (nE b)) = b:=⟨fun h=>h.2.2,fun h=>⟨ho,by have:=h.1.2.1;rw [hnE,takeP_len] at this;rw [hn9];omega,h⟩⟩
      have hyes : nodeOk b → rnodeOut b = ⟨.tup [.sl 0 2 0 (nE b).length true,.d (.v (.bool true))],[(0,.row 96 2 ((nE b).map pD))]⟩:=fun h=>if_pos h
      have hno : ¬ nodeOk b → rnodeOut b = ⟨.tup [.nil,.d (.v (.bool false))],[]⟩:=fun h=>if_neg h
      have hFk : (nE b).length = k:=by rw [hnE,takeP_len]
      rw [← hnE]
      clear hnE ho hk1 hn9
      generalize nE b = F at *
      have hft : (F.map pD).take k = F.map pD:=List.take_of_length_le (by rw [List.length_map];omega)
      by_cases hm : mayN F
      case neg =>
        have hz:=hno fun h=>hm (hok.1 h).1
        have hp : packNOut F = ⟨.tup [.nil,.d (.v (.bool false))],[]⟩:=if_neg hm
        clear hm hok hyes hno
        repeat' first
 | refine AW.seq ?_
 | refine AW.block ?_
 | refine AW.regl NF3_ok [0,2,3,4,5,6,7,8,9,11,26,29,64] ?_
 | (refine AW.regq (id:=9) NF3_ok follows bb_overdubref20_Node_9 (by kernel_rfl) [0,2,3,4,5,6,7,8,9,11,26,29,64] ?_)
 | refine then_n ?_
 | refine then_r ?_
 | refine then_x ?_
 | refine block_x ?_
 | refine block_o (by decide) ?_
 | refine block_n ?_
 | refine block_r ?_
 | refine AW.skip ?_
 | refine AW.ret ?_
 | refine AW.exit ?_
 | refine AW.cond rfl ?_ ?_
 | refine awl_none rfl ?_
 | refine awl_nil2 ?_
 | refine awl_some rfl rfl (Nat.le_of_ble_eq_true rfl) rfl rfl ?_ ?_
 | refine awc_none rfl ?_
 | refine awc_nilq (by kernel_rfl) (by kernel_rfl) ?_
 | (refine fun (hc : _ = _)=>?_;first|cases hc|((try rw [hc]);(try simp only [stH] at hc);(try (exfalso;omega)));(try ((first|show Awl _ _ _ _ _|show Awc _ _ _ _ _ _);simp only [stU])))
 | ((first|refine fun (K : V → List _ → _) hK=>?_|refine fun (_ : V → V)=>?_);simp (disch:=omega) only [go_sem,Int.reduceEq,↓reduceIte,reduceCtorEq,Nat.reduceEqDiff,Nat.reduceLT,Nat.reduceLeDiff,Nat.reduceAdd,Nat.reduceSub,Nat.reduceMul,Int.reduceToNat,Int.reduceLE,Int.reduceLT,NF3,Sp_overdubref20_open,Sp_overdubref01_Take,Sp_overdubref20_PackNode,hft,hFk,hp,mB_inj,pD_inj,Sg3,St.updIf,ifc_nil,gt_ifc,go_ifc,ite_self,Option.none_or,Option.some_or];(try (revert hK;intro hK;(repeat' first|(refine And.intro ?_ ?_)|(intro hc;first|cases hc|((try rw [hc]);(try simp only [stH] at hc);(try (exfalso;omega)))));all_goals first|(refine hK _ _ ?_;clear hK K;simp only [stU])|exact hK|omega)))
        (refine Ends.of (nm []) (by first|exact .inl rfl|exact .inr rfl) ?_;simp (disch:=omega) only [go_sem,Int.reduceEq,↓reduceIte,reduceCtorEq,Nat.reduceEqDiff,Nat.reduceLT,Nat.reduceLeDiff,Nat.reduceAdd,Nat.reduceSub,Nat.reduceMul,Int.reduceToNat,Int.reduceLE,Int.reduceLT,NF3,Sp_overdubref20_open,Sp_overdubref01_Take,Sp_overdubref20_PackNode,hz])
      obtain ⟨P,eP⟩ : ∃ P,nodP 2 F.length (psB F) = P:=⟨_,rfl⟩
      have h8F:=hm.2.1
      have hp : packNOut F = ⟨.tup [.sl 0 1 0 128 true,.d (.v (.bool true))],[(0,.row 5 1 (P.map mB))]⟩:=by rw [packNOut,if_pos hm,eP]
      have hpb : Byt P:=eP ▸ nodP_byt (by omega) (by omega) (psB_byt F)
      have hpl : P.length = 128:=eP ▸ nodP_len _ _ _
      have hpt : (P.map mB).take 128 = P.map mB:=List.take_of_length_le (by rw [List.length_map,hpl];omega)
      have hstr:=byt_strnN hpb hb
      by_cases he : P = b
      · have hz:=hyes (hok.2 ⟨hm,eP.trans he⟩)
        have hd : decide (P = b) = true:=decide_eq_true he
        rw [hFk] at hz
        clear hm he eP hok hyes hno
        repeat' first
 | refine AW.seq ?_
 | refine AW.block ?_
 | refine AW.regl NF3_ok [0,2,3,4,5,6,7,8,9,11,26,29,64] ?_
 | (refine AW.regq (id:=9) NF3_ok follows bb_overdubref20_Node_9 (by kernel_rfl) [0,2,3,4,5,6,7,8,9,11,26,29,64] ?_)
 | refine then_n ?_
 | refine then_r ?_
 | refine then_x ?_
 | refine block_x ?_
 | refine block_o (by decide) ?_
 | refine block_n ?_
 | refine block_r ?_
 | refine AW.skip ?_
 | refine AW.ret ?_
 | refine AW.exit ?_
 | refine AW.cond rfl ?_ ?_
 | refine awl_none rfl ?_
 | refine awl_nil2 ?_
 | refine awl_some rfl rfl (Nat.le_of_ble_eq_true rfl) rfl rfl ?_ ?_
 | refine awc_none rfl ?_
 | refine awc_nilq (by kernel_rfl) (by kernel_rfl) ?_
 | (refine fun (hc : _ = _)=>?_;first|cases hc|((try rw [hc]);(try simp only [stH] at hc);(try (exfalso;omega)));(try ((first|show Awl _ _ _ _ _|show Awc _ _ _ _ _ _);simp only [stU])))
 | ((first|refine fun (K : V → List _ → _) hK=>?_|refine fun (_ : V → V)=>?_);simp (disch:=omega) only [go_sem,Int.reduceEq,↓reduceIte,reduceCtorEq,Nat.reduceEqDiff,Nat.reduceLT,Nat.reduceLeDiff,Nat.reduceAdd,Nat.reduceSub,Nat.reduceMul,Int.reduceToNat,Int.reduceLE,Int.reduceLT,NF3,Sp_overdubref20_open,Sp_overdubref01_Take,Sp_overdubref20_PackNode,hbt,hft,hFk,hp,hpl,hpt,hstr,hd,mB_inj,pD_inj,Sg3,St.updIf,ifc_nil,gt_ifc,go_ifc,ite_self,Option.none_or,Option.some_or];(try (revert hK;intro hK;(repeat' first|(refine And.intro ?_ ?_)|(intro hc;first|cases hc|((try rw [hc]);(try simp only [stH] at hc);(try (exfalso;omega)))));all_goals first|(refine hK _ _ ?_;clear hK K;simp only [stU])|exact hK|omega)))
        (refine Ends.of (nm [(0,101)]) (by first|exact .inl rfl|exact .inr rfl) ?_;simp (disch:=omega) only [go_sem,Int.reduceEq,↓reduceIte,reduceCtorEq,Nat.reduceEqDiff,Nat.reduceLT,Nat.reduceLeDiff,Nat.reduceAdd,Nat.reduceSub,Nat.reduceMul,Int.reduceToNat,Int.reduceLE,Int.reduceLT,NF3,Sp_overdubref20_open,Sp_overdubref01_Take,Sp_overdubref20_PackNode,hz])
      · have hz:=hno fun h=>he (eP.symm.trans (hok.1 h).2)
        have hd : decide (P = b) = false:=decide_eq_false he
        clear hm he eP hok hyes hno
        repeat' first
 | refine AW.seq ?_
 | refine AW.block ?_
 | refine AW.regl NF3_ok [0,2,3,4,5,6,7,8,9,11,26,29,64] ?_
 | (refine AW.regq (id:=9) NF3_ok follows bb_overdubref20_Node_9 (by kernel_rfl) [0,2,3,4,5,6,7,8,9,11,26,29,64] ?_)
 | refine then_n ?_
 | refine then_r ?_
 | refine then_x ?_
 | refine block_x ?_
 | refine block_o (by decide) ?_
 | refine block_n ?_
 | refine block_r ?_
 | refine AW.skip ?_
 | refine AW.ret ?_
 | refine AW.exit ?_
 | refine AW.cond rfl ?_ ?_
 | refine awl_none rfl ?_
 | refine awl_nil2 ?_
 | refine awl_some rfl rfl (Nat.le_of_ble_eq_true rfl) rfl rfl ?_ ?_
 | refine awc_none rfl ?_
 | refine awc_nilq (by kernel_rfl) (by kernel_rfl) ?_
 | (refine fun (hc : _ = _)=>?_;first|cases hc|((try rw [hc]);(try simp only [stH] at hc);(try (exfalso;omega)));(try ((first|show Awl _ _ _ _ _|show Awc _ _ _ _ _ _);simp only [stU])))
 | ((first|refine fun (K : V → List _ → _) hK=>?_|refine fun (_ : V → V)=>?_);simp (disch:=omega) only [go_sem,Int.reduceEq,↓reduceIte,reduceCtorEq,Nat.reduceEqDiff,Nat.reduceLT,Nat.reduceLeDiff,Nat.reduceAdd,Nat.reduceSub,Nat.reduceMul,Int.reduceToNat,Int.reduceLE,Int.reduceLT,NF3,Sp_overdubref20_open,Sp_overdubref01_Take,Sp_overdubref20_PackNode,hbt,hft,hFk,hp,hpl,hpt,hstr,hd,mB_inj,pD_inj,Sg3,St.updIf,ifc_nil,gt_ifc,go_ifc,ite_self,Option.none_or,Option.some_or];(try (revert hK;intro hK;(repeat' first|(refine And.intro ?_ ?_)|(intro hc;first|cases hc|((try rw [hc]);(try simp only [stH] at hc);(try (exfalso;omega)))));all_goals first|(refine hK _ _ ?_;clear hK K;simp only [stU])|exact hK|omega)))
        (refine Ends.of (nm []) (by first|exact .inl rfl|exact .inr rfl) ?_;simp (disch:=omega) only [go_sem,Int.reduceEq,↓reduceIte,reduceCtorEq,Nat.reduceEqDiff,Nat.reduceLT,Nat.reduceLeDiff,Nat.reduceAdd,Nat.reduceSub,Nat.reduceMul,Int.reduceToNat,Int.reduceLE,Int.reduceLT,NF3,Sp_overdubref20_open,Sp_overdubref01_Take,Sp_overdubref20_PackNode,hz])
theorem ent_overdubref20_Node : Ent Try.prog 58:=⟨_,Try.func58,rfl,by decide⟩
noncomputable def NF4 : Env:=⟨Try.prog,fun f ds out=>(f = 76 ∧ Sp_overdubref20_open ds out) ∨ (f = 78 ∧ Sp_overdubref01_Take ds out) ∨ (f = 31 ∧ Sp_overdubref20_PackDir ds out),Es,fun _=>false⟩
theorem NF4_sp : ∀ f ds out,NF4.Sp f ds out → Ent NF4.P f ∧ Good NF4.P f (fun a b=>a = ds ∧ b = out):=by
  rintro f ds out (⟨rfl,h⟩|⟨rfl,h⟩|⟨rfl,h⟩)
  · exact ⟨ent_overdubref20_open,good_overdubref20_open.one h⟩
  · exact ⟨ent_overdubref01_Take,good_overdubref01_Take.one h⟩
  · exact ⟨ent_overdubref20_PackDir,good_overdubref20_PackDir.one h⟩
theorem NF4_ok : NF4.Ok:=⟨NF4_sp,Es_ok⟩
open Classical in
noncomputable def rdirOut (b : List Int) : Out:=if dirOk b then ⟨.tup [.sl 0 3 0 (dE b).length true,.d (.v (.bool true))],[(0,.row 86 3 ((dE b).map lD))]⟩ else ⟨.tup [.nil,.d (.v (.bool false))],[]⟩
def Sp_overdubref20_Dir (ds : List D) (out : Out) : Prop:=∃ b : List Int,ds = [.list (b.map mB)] ∧ Byt b ∧ b.length ≤ 9223372036854775807 ∧ out = rdirOut b
def bb_overdubref20_Dir_9 : List Nat:=[0,0,2,6,0,16,48,0,128,384,1022,2046,4095,8191]
theorem good_overdubref20_Dir : Good Try.prog 59 Sp_overdubref20_Dir:=by
  refine good_body (E:=NF4) (nt:=69) (rs:=#[.tmp 2,.tmp 3]) Try.func59 rfl rfl rfl ?_
  rintro ds out ⟨b,rfl,hb,hl,rfl⟩
  refine ⟨by simp,?_⟩
  have hbt : Byt b = True:=eq_true hb
  by_cases ho : oH 3 b
  case neg =>
    have hop : ropOut 3 b = ⟨.tup [.d (.v (.int .i64 0)),.nil,.d (.v (.bool false))],[]⟩:=if_neg ho
    have hz : rdirOut b = ⟨.tup [.nil,.d (.v (.bool false))],[]⟩:=if_neg fun h=>ho h.1
    repeat' first
 | refine AW.seq ?_
 | refine AW.block ?_
 | refine AW.regl NF4_ok [0,2,3,4,5,6,7,8,9,11,26,29,67] ?_
 | (refine AW.regq (id:=9) NF4_ok follows bb_overdubref20_Dir_9 (by kernel_rfl) [0,2,3,4,5,6,7,8,9,11,26,29,67] ?_)
 | refine then_n ?_
 | refine then_r ?_
 | refine then_x ?_
 | refine block_x ?_
 | refine block_o (by decide) ?_
 | refine block_n ?_
 | refine block_r ?_
 | refine AW.skip ?_
 | refine AW.ret ?_
 | refine AW.exit ?_
 | refine AW.cond rfl ?_ ?_
 | refine awl_none rfl ?_
 | refine awl_nil2 ?_
 | refine awl_some rfl rfl (Nat.le_of_ble_eq_true rfl) rfl rfl ?_ ?_
 | refine awc_none rfl ?_
 | refine awc_nilq (by kernel_rfl) (by kernel_rfl) ?_
 | (refine fun (hc : _ = _)=>?_;first|cases hc|((try rw [hc]);(try simp only [stH] at hc);(try (exfalso;omega)));(try ((first|show Awl _ _ _ _ _|show Awc _ _ _ _ _ _);simp only [stU])))
 | ((first|refine fun (K : V → List _ → _) hK=>?_|refine fun (_ : V → V)=>?_);simp (disch:=omega) only [go_sem,Int.reduceEq,↓reduceIte,reduceCtorEq,Nat.reduceEqDiff,Nat.reduceLT,Nat.reduceLeDiff,Nat.reduceAdd,Nat.reduceSub,Nat.reduceMul,Int.reduceToNat,Int.reduceLE,Int.reduceLT,NF4,Sp_overdubref20_open,Sp_overdubref01_Take,Sp_overdubref20_PackDir,hbt,hop,mB_inj,Sg3,St.updIf,ifc_nil,gt_ifc,go_ifc,ite_self,Option.none_or,Option.some_or];(try (revert hK;intro hK;(repeat' first|(refine And.intro ?_ ?_)|(intro hc;first|cases hc|((try rw [hc]);(try simp only [stH] at hc);(try (exfalso;omega)))));all_goals first|(refine hK _ _ ?_;clear hK K;simp only [stU])|exact hK|omega)))
    (refine Ends.of (nm []) (by first|exact .inl rfl|exact .inr rfl) ?_;simp (disch:=omega) only [go_sem,Int.reduceEq,↓reduceIte,reduceCtorEq,Nat.reduceEqDiff,Nat.reduceLT,Nat.reduceLeDiff,Nat.reduceAdd,Nat.reduceSub,Nat.reduceMul,Int.reduceToNat,Int.reduceLE,Int.reduceLT,NF4,Sp_overdubref20_open,Sp_overdubref01_Take,Sp_overdubref20_PackDir,hz])
  have hop : ropOut 3 b = ⟨.tup [.d (.v (.int .i64 (nN b))),.d (.list ((nI b).map mB)),.d (.v (.bool true))],[]⟩:=if_pos ho
  have h8:=ho.1.1
  have r2 : 0 ≤ nN b ∧ nN b < 256:=getD_byt hb 2
  have hnb:=nI_byt hb
  have hnl:=nI_len h8
  obtain ⟨n,hn⟩ : ∃ n : Nat,nN b = n:=⟨(nN b).toNat,by omega⟩
  by_cases h17 : 121 < 5 * n
  case pos =>
    have hz : rdirOut b = ⟨.tup [.nil,.d (.v (.bool false))],[]⟩:=if_neg fun h=>by have:=h.2.1;omega
    rw [hn] at hop r2
    repeat' first
 | refine AW.seq ?_
 | refine AW.block ?_
 | refine AW.regl NF4_ok [0,2,3,4,5,6,7,8,9,11,26,29,67] ?_
 | (refine AW.regq (id:=9) NF4_ok follows bb_overdubref20_Dir_9 (by kernel_rfl) [0,2,3,4,5,6,7,8,9,11,26,29,67] ?_)
 | refine then_n ?_
 | refine then_r ?_
 | refine then_x ?_
 | refine block_x ?_
 | refine block_o (by decide) ?_
 | refine block_n ?_
 | refine block_r ?_
 | refine AW.skip ?_
 | refine AW.ret ?_
 | refine AW.exit ?_
 | refine AW.cond rfl ?_ ?_
 | refine awl_none rfl ?_
 | refine awl_nil2 ?_
 | refine awl_some rfl rfl (Nat.le_of_ble_eq_true rfl) rfl rfl ?_ ?_
 | refine awc_none rfl ?_
 | refine awc_nilq (by kernel_rfl) (by kernel_rfl) ?_
 | (refine fun (hc : _ = _)=>?_;first|cases hc|((try rw [hc]);(try simp only [stH] at hc);(try (exfalso;omega)));(try ((first|show Awl _ _ _ _ _|show Awc _ _ _ _ _ _);simp only [stU])))
 | ((first|refine fun (K : V → List _ → _) hK=>?_|refine fun (_ : V → V)=>?_);simp (disch:=omega) only [go_sem,Int.reduceEq,↓reduceIte,reduceCtorEq,Nat.reduceEqDiff,Nat.reduceLT,Nat.reduceLeDiff,Nat.reduceAdd,Nat.reduceSub,Nat.reduceMul,Int.reduceToNat,Int.reduceLE,Int.reduceLT,NF4,Sp_overdubref20_open,Sp_overdubref01_Take,Sp_overdubref20_PackDir,hbt,hop,hnl,mB_inj,Sg3,St.updIf,ifc_nil,gt_ifc,go_ifc,ite_self,Option.none_or,Option.some_or];(try (revert hK;intro hK;(repeat' first|(refine And.intro ?_ ?_)|(intro hc;first|cases hc|((try rw [hc]);(try simp only [stH] at hc);(try (exfalso;omega)))));all_goals first|(refine hK _ _ ?_;clear hK K;simp only [stU])|exact hK|omega)))
    (refine Ends.of (nm []) (by first|exact .inl rfl|exact .inr rfl) ?_;simp (disch:=omega) only [go_sem,Int.reduceEq,↓reduceIte,reduceCtorEq,Nat.reduceEqDiff,Nat.reduceLT,Nat.reduceLeDiff,Nat.reduceAdd,Nat.reduceSub,Nat.reduceMul,Int.reduceToNat,Int.reduceLE,Int.reduceLT,NF4,Sp_overdubref20_open,Sp_overdubref01_Take,Sp_overdubref20_PackDir,hz])
  have hnE : dE b = takeD (nI b) n:=by unfold dE;rw [hn];rfl
  have hn9:=hn
  rw [hn] at hop r2
  repeat' first
 | refine AW.seq ?_
 | refine AW.block ?_
 | refine AW.regl NF4_ok [0,2,3,4,5,6,7,8,9,11,26,29,67] ?_
 | (refine AW.regq (id:=9) NF4_ok follows bb_overdubref20_Dir_9 (by kernel_rfl) [0,2,3,4,5,6,7,8,9,11,26,29,67] ?_)
 | refine then_n ?_
 | refine then_r ?_
 | refine then_x ?_
 | refine block_x ?_
 | refine block_o (by decide) ?_
 | refine block_n ?_
 | refine block_r ?_
 | refine AW.skip ?_
 | refine AW.ret ?_
 | refine AW.exit ?_
 | refine AW.cond rfl ?_ ?_
 | refine awl_none rfl ?_
 | refine awl_nil2 ?_
 | refine awl_some rfl rfl (Nat.le_of_ble_eq_true rfl) rfl rfl ?_ ?_
 | refine awc_none rfl ?_
 | refine awc_nilq (by kernel_rfl) (by kernel_rfl) ?_
 | (refine fun (hc : _ = _)=>?_;first|cases hc|((try rw [hc]);(try simp only [stH] at hc);(try (exfalso;omega)));(try ((first|show Awl _ _ _ _ _|show Awc _ _ _ _ _ _);simp only [stU])))
 | ((first|refine fun (K : V → List _ → _) hK=>?_|refine fun (_ : V → V)=>?_);simp (disch:=omega) only [go_sem,Int.reduceEq,↓reduceIte,reduceCtorEq,Nat.reduceEqDiff,Nat.reduceLT,Nat.reduceLeDiff,Nat.reduceAdd,Nat.reduceSub,Nat.reduceMul,Int.reduceToNat,Int.reduceLE,Int.reduceLT,NF4,Sp_overdubref20_open,Sp_overdubref01_Take,Sp_overdubref20_PackDir,hbt,hop,hnl,mB_inj,Sg3,St.updIf,ifc_nil,gt_ifc,go_ifc,ite_self,Option.none_or,Option.some_or];(try (revert hK;intro hK;(repeat' first|(refine And.intro ?_ ?_)|(intro hc;first|cases hc|((try rw [hc]);(try simp only [stH] at hc);(try (exfalso;omega)))));all_goals first|(refine hK _ _ ?_;clear hK K;simp only [stU])|exact hK|omega)))
  refine AW.loop_wk (fun k : Nat=>⟨[(0,.d (.list (b.map mB))),(2,.nil),(3,.d (.v (.bool false))),(4,.d (.v (.int .i64 n))),(5,.d (.list ((nI b).map mB))),(7,.sl 101 3 0 k true),(8,.d (.v (.int .i64 k)))],[(101,.row 86 3 ((takeD (nI b) k).map lD))],69⟩)
    (fun k=>k ≤ n) (fun k=>n - k) 0 (by omega) (fun w0 oa a w hs=>Wk.sr (ρ:=nm []) (Wk.of ?_) (nil_sr 7 101 86 3 rfl (by simp) rfl (by decide) hs)) ?_
  · simp (disch:=omega) only [go_sem,Int.reduceEq,↓reduceIte,reduceCtorEq,Nat.reduceEqDiff,Nat.reduceLT,Nat.reduceLeDiff,Nat.reduceAdd,Nat.reduceSub,Nat.reduceMul,Int.reduceToNat,Int.reduceLE,Int.reduceLT,NF4,Sp_overdubref20_open,Sp_overdubref01_Take,Sp_overdubref20_PackDir]
    all_goals first|done|rfl|exact ⟨rfl,rfl⟩
  · intro k hk
    by_cases hk1 : k < n
    · have hq0 : (5 * (k : Int)).toNat = 5 * k:=by omega
      have hq1 : ((nI b).map mB).take 121 = (nI b).map mB:=List.take_of_length_le (by rw [List.length_map,hnl];omega)
      have hq2 : ((nI b).map mB).drop (5 * k) = ((nI b).drop (5 * k)).map mB:=List.map_drop.symm
      have hmb : Byt ((nI b).drop (5 * k)) = True:=eq_true (byt_drop hnb _)
      have hml : ((nI b).drop (5 * k)).length = 121 - 5 * k:=by rw [List.length_drop,hnl]
      have hg : takeOut ((nI b).drop (5 * k)) [1,2,2] = ⟨.tup [.sl 0 1 0 3 true,.d (.v (.bool true))],[(0,.row 3 1 [.v (.int .i64 (leV (((nI b).drop (5 * k)).take 1))),.v (.int .i64 (leV ((((nI b).drop (5 * k)).drop 1).take 2))),.v (.int .i64 (leV ((((nI b).drop (5 * k)).drop 3).take 2)))])]⟩:=by rw [takeOut,takeL_3n (by omega)];rfl
      have hs:=takeD_snoc (nI b) k
      have hsl:=takeD_len (nI b) k
      have hsm : ((takeD (nI b) k).map lD).length = k:=by rw [List.length_map,hsl]
      have hsn : ∀ x y z : Int,(takeD (nI b) k).map lD ++ [D.agg [.v (.int .i64 x),.v (.int .i64 y),.v (.int .i64 z)]] = (takeD (nI b) k ++ [Ln.mk x y z]).map lD:=fun x y z=>by rw [List.map_append];rfl
      generalize leV (((nI b).drop (5 * k)).take 1) = x at *
      generalize leV ((((nI b).drop (5 * k)).drop 1).take 2) = y at *
      generalize leV ((((nI b).drop (5 * k)).drop 3).take 2) = z at *
      repeat' first
 | refine AW.seq ?_
 | refine AW.block ?_
 | refine AW.regl NF4_ok [0,2,3,4,5,6,7,8,9,11,26,29,67] ?_
 | (refine AW.regq (id:=9) NF4_ok follows bb_overdubref20_Dir_9 (by kernel_rfl) [0,2,3,4,5,6,7,8,9,11,26,29,67] ?_)
 | refine then_n ?_
 | refine then_r ?_
 | refine then_x ?_
 | refine block_x ?_
 | refine block_o (by decide) ?_
 | refine block_n ?_
 | refine block_r ?_
 | refine AW.skip ?_
 | refine AW.ret ?_
 | refine AW.exit ?_
 | refine AW.cond rfl ?_ ?_
 | refine awl_none rfl ?_
 | refine awl_nil2 ?_
 | refine awl_some rfl rfl (Nat.le_of_ble_eq_true rfl) rfl rfl ?_ ?_
 | refine awc_none rfl ?_
 | refine awc_nilq (by kernel_rfl) (by kernel_rfl) ?_
 | (refine fun (hc : _ = _)=>?_;first|cases hc|((try rw [hc]);(try simp only [stH] at hc);(try (exfalso;omega)));(try ((first|show Awl _ _ _ _ _|show Awc _ _ _ _ _ _);simp only [stU])))
 | ((first|refine fun (K : V → List _ → _) hK=>?_|refine fun (_ : V → V)=>?_);simp (disch:=omega) only [go_sem,Int.reduceEq,↓reduceIte,reduceCtorEq,Nat.reduceEqDiff,Nat.reduceLT,Nat.reduceLeDiff,Nat.reduceAdd,Nat.reduceSub,Nat.reduceMul,Int.reduceToNat,Int.reduceLE,Int.reduceLT,NF4,Sp_overdubref20_open,Sp_overdubref01_Take,Sp_overdubref20_PackDir,hnl,hq0,hq1,hq2,hmb,hml,hg,hsl,hsm,W3d,nth,List.getD_cons_zero,List.getD_cons_succ,mB_inj,Sg3,St.updIf,ifc_nil,gt_ifc,go_ifc,ite_self,Option.none_or,Option.some_or];(try (revert hK;intro hK;(repeat' first|(refine And.intro ?_ ?_)|(intro hc;first|cases hc|((try rw [hc]);(try simp only [stH] at hc);(try (exfalso;omega)))));all_goals first|(refine hK _ _ ?_;clear hK K;simp only [stU])|exact hK|omega)))
      refine ⟨k + 1,by omega,by omega,nm [(101,53)],Wk.of ?_⟩
      simp (disch:=omega) only [go_sem,Int.reduceEq,↓reduceIte,reduceCtorEq,Nat.reduceEqDiff,Nat.reduceLT,Nat.reduceLeDiff,Nat.reduceAdd,Nat.reduceSub,Nat.reduceMul,Int.reduceToNat,Int.reduceLE,Int.reduceLT,NF4,Sp_overdubref20_open,Sp_overdubref01_Take,Sp_overdubref20_PackDir,hs,hsn]
      all_goals first|done|rfl|exact ⟨rfl,rfl⟩|exact ⟨rfl,rfl,rfl⟩
    · obtain rfl : k = n:=by omega
      have hok : dirOk b ↔ mayD (dE b) ∧ nodP 3 (dE b).length (lsB (dE b)) = b:=⟨fun h=>h.2.2,fun h=>⟨ho,by have:=h.1.1;rw [hnE,takeD_len] at this;rw [hn9];omega,h⟩⟩
      have hyes : dirOk b → rdirOut b = ⟨.tup [.sl 0 3 0 (dE b).length true,.d (.v (.bool true))],[(0,.row 86 3 ((dE b).map lD))]⟩:=fun h=>if_pos h
      have hno : ¬ dirOk b → rdirOut b = ⟨.tup [.nil,.d (.v (.bool false))],[]⟩:=fun h=>if_neg h
      have hFk : (dE b).length = k:=by rw [hnE,takeD_len]
      rw [← hnE]
      clear hnE ho hk1 hn9
      generalize dE b = F at *
      have hft : (F.map lD).take k = F.map lD:=List.take_of_length_le (by rw [List.length_map];omega)
      by_cases hm : mayD F
      case neg =>
        have hz:=hno fun h=>hm (hok.1 h).1
        have hp : packDOut F = ⟨.tup [.nil,.d (.v (.bool false))],[]⟩:=if_neg hm
        clear hm hok hyes hno
        repeat' first
 | refine AW.seq ?_
 | refine AW.block ?_
 | refine AW.regl NF4_ok [0,2,3,4,5,6,7,8,9,11,26,29,67] ?_
 | (refine AW.regq (id:=9) NF4_ok follows bb_overdubref20_Dir_9 (by kernel_rfl) [0,2,3,4,5,6,7,8,9,11,26,29,67] ?_)
 | refine then_n ?_
 | refine then_r ?_
 | refine then_x ?_
 | refine block_x ?_
 | refine block_o (by decide) ?_
 | refine block_n ?_
 | refine block_r ?_
 | refine AW.skip ?_
 | refine AW.ret ?_
 | refine AW.exit ?_
 | refine AW.cond rfl ?_ ?_
 | refine awl_none rfl ?_
 | refine awl_nil2 ?_
 | refine awl_some rfl rfl (Nat.le_of_ble_eq_true rfl) rfl rfl ?_ ?_
 | refine awc_none rfl ?_
 | refine awc_nilq (by kernel_rfl) (by kernel_rfl) ?_
 | (refine fun (hc : _ = _)=>?_;first|cases hc|((try rw [hc]);(try simp only [stH] at hc);(try (exfalso;omega)));(try ((first|show Awl _ _ _ _ _|show Awc _ _ _ _ _ _);simp only [stU])))
 | ((first|refine fun (K : V → List _ → _) hK=>?_|refine fun (_ : V → V)=>?_);simp (disch:=omega) only [go_sem,Int.reduceEq,↓reduceIte,reduceCtorEq,Nat.reduceEqDiff,Nat.reduceLT,Nat.reduceLeDiff,Nat.reduceAdd,Nat.reduceSub,Nat.reduceMul,Int.reduceToNat,Int.reduceLE,Int.reduceLT,NF4,Sp_overdubref20_open,Sp_overdubref01_Take,Sp_overdubref20_PackDir,hft,hFk,hp,mB_inj,lD_inj,Sg3,St.updIf,ifc_nil,gt_ifc,go_ifc,ite_self,Option.none_or,Option.some_or];(try (revert hK;intro hK;(repeat' first|(refine And.intro ?_ ?_)|(intro hc;first|cases hc|((try rw [hc]);(try simp only [stH] at hc);(try (exfalso;omega)))));all_goals first|(refine hK _ _ ?_;clear hK K;simp only [stU])|exact hK|omega)))
        (refine Ends.of (nm []) (by first|exact .inl rfl|exact .inr rfl) ?_;simp (disch:=omega) only [go_sem,Int.reduceEq,↓reduceIte,reduceCtorEq,Nat.reduceEqDiff,Nat.reduceLT,Nat.reduceLeDiff,Nat.reduceAdd,Nat.reduceSub,Nat.reduceMul,Int.reduceToNat,Int.reduceLE,Int.reduceLT,NF4,Sp_overdubref20_open,Sp_overdubref01_Take,Sp_overdubref20_PackDir,hz])
      obtain ⟨P,eP⟩ : ∃ P,nodP 3 F.length (lsB F) = P:=⟨_,rfl⟩
      have h8F:=hm.1
      have hp : packDOut F = ⟨.tup [.sl 0 1 0 128 true,.d (.v (.bool true))],[(0,.row 5 1 (P.map mB))]⟩:=by rw [packDOut,if_pos hm,eP]
      have hpb : Byt P:=eP ▸ nodP_byt (by omega) (by omega) (lsB_byt F)
      have hpl : P.length = 128:=eP ▸ nodP_len _ _ _
      have hpt : (P.map mB).take 128 = P.map mB:=List.take_of_length_le (by rw [List.length_map,hpl];omega)
      have hstr:=byt_strnN hpb hb
      by_cases he : P = b
      · have hz:=hyes (hok.2 ⟨hm,eP.trans he⟩)
        have hd : decide (P = b) = true:=decide_eq_true he
        rw [hFk] at hz
        clear hm he eP hok hyes hno
        repeat' first
 | refine AW.seq ?_
 | refine AW.block ?_
 | refine AW.regl NF4_ok [0,2,3,4,5,6,7,8,9,11,26,29,67] ?_
 | (refine AW.regq (id:=9) NF4_ok follows bb_overdubref20_Dir_9 (by kernel_rfl) [0,2,3,4,5,6,7,8,9,11,26,29,67] ?_)
 | refine then_n ?_
 | refine then_r ?_
 | refine then_x ?_
 | refine block_x ?_
 | refine block_o (by decide) ?_
 | refine block_n ?_
 | refine block_r ?_
 | refine AW.skip ?_
 | refine AW.ret ?_
 | refine AW.exit ?_
 | refine AW.cond rfl ?_ ?_
 | refine awl_none rfl ?_
 | refine awl_nil2 ?_
 | refine awl_some rfl rfl (Nat.le_of_ble_eq_true rfl) rfl rfl ?_ ?_
 | refine awc_none rfl ?_
 | refine awc_nilq (by kernel_rfl) (by kernel_rfl) ?_
 | (refine fun (hc : _ = _)=>?_;first|cases hc|((try rw [hc]);(try simp only [stH] at hc);(try (exfalso;omega)));(try ((first|show Awl _ _ _ _ _|show Awc _ _ _ _ _ _);simp only [stU])))
 | ((first|refine fun (K : V → List _ → _) hK=>?_|refine fun (_ : V → V)=>?_);simp (disch:=omega) only [go_sem,Int.reduceEq,↓reduceIte,reduceCtorEq,Nat.reduceEqDiff,Nat.reduceLT,Nat.reduceLeDiff,Nat.reduceAdd,Nat.reduceSub,Nat.reduceMul,Int.reduceToNat,Int.reduceLE,Int.reduceLT,NF4,Sp_overdubref20_open,Sp_overdubref01_Take,Sp_overdubref20_PackDir,hbt,hft,hFk,hp,hpl,hpt,hstr,hd,mB_inj,lD_inj,Sg3,St.updIf,ifc_nil,gt_ifc,go_ifc,ite_self,Option.none_or,Option.some_or];(try (revert hK;intro hK;(repeat' first|(refine And.intro ?_ ?_)|(intro hc;first|cases hc|((try rw [hc]);(try simp only [stH] at hc);(try (exfalso;omega)))));all_goals first|(refine hK _ _ ?_;clear hK K;simp only [stU])|exact hK|omega)))
        (refine Ends.of (nm [(0,101)]) (by first|exact .inl rfl|exact .inr rfl) ?_;simp (disch:=omega) only [go_sem,Int.reduceEq,↓reduceIte,reduceCtorEq,Nat.reduceEqDiff,Nat.reduceLT,Nat.reduceLeDiff,Nat.reduceAdd,Nat.reduceSub,Nat.reduceMul,Int.reduceToNat,Int.reduceLE,Int.reduceLT,NF4,Sp_overdubref20_open,Sp_overdubref01_Take,Sp_overdubref20_PackDir,hz])
      · have hz:=hno fun h=>he (eP.symm.trans (hok.1 h).2)
        have hd : decide (P = b) = false:=decide_eq_false he
        clear hm he eP hok hyes hno
        repeat' first
 | refine AW.seq ?_
 | refine AW.block ?_
 | refine AW.regl NF4_ok [0,2,3,4,5,6,7,8,9,11,26,29,67] ?_
 | (refine AW.regq (id:=9) NF4_ok follows bb_overdubref20_Dir_9 (by kernel_rfl) [0,2,3,4,5,6,7,8,9,11,26,29,67] ?_)
 | refine then_n ?_
 | refine then_r ?_
 | refine then_x ?_
 | refine block_x ?_
 | refine block_o (by decide) ?_
 | refine block_n ?_
 | refine block_r ?_
 | refine AW.skip ?_
 | refine AW.ret ?_
 | refine AW.exit ?_
 | refine AW.cond rfl ?_ ?_
 | refine awl_none rfl ?_
 | refine awl_nil2 ?_
 | refine awl_some rfl rfl (Nat.le_of_ble_eq_true rfl) rfl rfl ?_ ?_
 | refine awc_none rfl ?_
 | refine awc_nilq (by kernel_rfl) (by kernel_rfl) ?_
 | (refine fun (hc : _ = _)=>?_;first|cases hc|((try rw [hc]);(try simp only [stH] at hc);(try (exfalso;omega)));(try ((first|show Awl _ _ _ _ _|show Awc _ _ _ _ _ _);simp only [stU])))
 | ((first|refine fun (K : V → List _ → _) hK=>?_|refine fun (_ : V → V)=>?_);simp (disch:=omega) only [go_sem,Int.reduceEq,↓reduceIte,reduceCtorEq,Nat.reduceEqDiff,Nat.reduceLT,Nat.reduceLeDiff,Nat.reduceAdd,Nat.reduceSub,Nat.reduceMul,Int.reduceToNat,Int.reduceLE,Int.reduceLT,NF4,Sp_overdubref20_open,Sp_overdubref01_Take,Sp_overdubref20_PackDir,hbt,hft,hFk,hp,hpl,hpt,hstr,hd,mB_inj,lD_inj,Sg3,St.updIf,ifc_nil,gt_ifc,go_ifc,ite_self,Option.none_or,Option.some_or];(try (revert hK;intro hK;(repeat' first|(refine And.intro ?_ ?_)|(intro hc;first|cases hc|((try rw [hc]);(try simp only [stH] at hc);(try (exfalso;omega)))));all_goals first|(refine hK _ _ ?_;clear hK K;simp only [stU])|exact hK|omega)))
        (refine Ends.of (nm []) (by first|exact .inl rfl|exact .inr rfl) ?_;simp (disch:=omega) only [go_sem,Int.reduceEq,↓reduceIte,reduceCtorEq,Nat.reduceEqDiff,Nat.reduceLT,Nat.reduceLeDiff,Nat.reduceAdd,Nat.reduceSub,Nat.reduceMul,Int.reduceToNat,Int.reduceLE,Int.reduceLT,NF4,Sp_overdubref20_open,Sp_overdubref01_Take,Sp_overdubref20_PackDir,hz])
theorem ent_overdubref20_Dir : Ent Try.prog 59:=⟨_,Try.func59,rfl,by decide⟩
end Go.Proofs.Ytigkcigoiinkpaa.Am
