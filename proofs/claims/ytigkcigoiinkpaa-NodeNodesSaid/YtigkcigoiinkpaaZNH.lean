import Derived.Test.YtigkcigoiinkpaaZN3
import Derived.Test.YtigkcigoiinkpaaZHA
set_option linter.unusedVariables false
set_option linter.unusedSimpArgs false
set_option maxRecDepth 10000
set_option maxHeartbeats 0
namespace Go.Proofs.Ytigkcigoiinkpaa.Am
open Go Go.RowKit Go.Proofs
theorem within_rngh {v n : Int} (hn : 1 ≤ n) : 0 ≤ within v n ∧ within v n < n:=by
  unfold within
  rw [if_neg (by omega)]
  have h1:=Int.tmod_lt_of_pos v (show 0 < n by omega)
  have h2:=Int.lt_tmod_of_pos v (show 0 < n by omega)
  split <;> omega
theorem all_P (l : List Pa) : (∀ d ∈ l.map pD,d.cells.length = 2) = True:=by
  simp only [eq_iff_iff,iff_true];intro d hd;obtain ⟨e,_,rfl⟩:=List.mem_map.1 hd;rfl
theorem all_L (l : List Ln) : (∀ d ∈ l.map lD,d.cells.length = 3) = True:=by
  simp only [eq_iff_iff,iff_true];intro d hd;obtain ⟨e,_,rfl⟩:=List.mem_map.1 hd;rfl
theorem nth_Ph (l : List Pa) (i : Nat) (h : i < l.length) : nth (l.map pD) i = .agg [.v (.int .i64 (l.getD i p0).a),.v (.int .i64 (l.getD i p0).b)]:=nth_P l i h
theorem nth_Lh (l : List Ln) (i : Nat) (h : i < l.length) : nth (l.map lD) i = .agg [.v (.int .i64 (l.getD i l0).a),.v (.int .i64 (l.getD i l0).b),.v (.int .i64 (l.getD i l0).c)]:=nth_L l i h
instance : DecidableEq Pa:=fun a b=>decidable_of_iff (a.a = b.a ∧ a.b = b.b) (by cases a;cases b;simp)
instance : DecidableEq Ln:=fun a b=>decidable_of_iff (a.a = b.a ∧ a.b = b.b ∧ a.c = b.c) (by cases a;cases b;simp)
def Sp_overdubkeep_Same_int (ds : List D) (out : Out) : Prop:=∃ l m : List Int,ds = [.list (l.map mI),.list (m.map mI)] ∧ l.length ≤ 9223372036854775807 ∧ m.length ≤ 9223372036854775807 ∧ out = ⟨.d (.v (.bool (decide (l = m)))),[]⟩
def bb_overdubkeep_Same_int_6 : List Nat:=[0,0,3,7,0,0,48,112,255]
def cc_overdubkeep_Same_int_6 : List (List (Option Bool)):=[[some false,none,some false,some false,none,none,none,none,some false],[none,some false,some false,some false,none,none,none,none,some false],[some true,some true,some false,some false,none,none,none,none,some false],[some true,some true,some true,some false,none,none,none,none,some false],[none,none,none,none,some false,none,some false,some false,some false],[none,none,none,none,none,some false,some false,some false,some false],[none,none,none,none,some true,some true,some false,some false,some false],[none,none,none,none,some true,some true,some true,some false,some false],[some true,some true,some true,some true,some true,some true,some true,some true,some false]]
theorem good_overdubkeep_Same_int : Good Try.prog 44 Sp_overdubkeep_Same_int:=by
  refine good_body (E:=E0) (nt:=26) (rs:=#[.tmp 4]) Try.func44 rfl rfl rfl ?_
  rintro ds out ⟨l,m,rfl,hl,hm,rfl⟩
  refine ⟨by simp,?_⟩
  by_cases hlm : l.length = m.length
  case neg =>
    have hz : decide (l = m) = false:=decide_eq_false (ne_of_length hlm)
    repeat' first
 | refine AW.seq ?_
 | refine AW.block ?_
 | refine AW.regl E0_ok [0,1,4,5,10,14,25] ?_
 | (refine AW.regc (id:=6) E0_ok follows bb_overdubkeep_Same_int_6 (by kernel_rfl) [0,1,4,5,10,14,25] ?_)
 | refine then_n ?_
 | refine then_r ?_
 | refine then_x ?_
 | refine block_x ?_
 | refine block_o (by decide) ?_
 | refine block_n ?_
 | refine block_r ?_
 | refine AW.skip ?_
 | refine AW.ret ?_
 | refine AW.exit ?_
 | refine AW.cond rfl ?_ ?_
 | refine awl_none rfl ?_
 | refine awl_nil2 ?_
 | refine awc_none rfl ?_
 | exact each_nil
 | refine each_none rfl ?_ ?_
 | refine awc_leaf2 [some 17,some 18,some 19,some 20,some 21,some 22,some 23,some 24,some 25] cc_overdubkeep_Same_int_6 rfl (by kernel_rfl) (by kernel_rfl) ?_ ?_
 | (refine fun (hc : _ = _)=>?_;first|cases hc|((try rw [hc]);(try simp only [stH] at hc);(try (exfalso;omega)));(try ((first|show Awl _ _ _ _ _|show Awc _ _ _ _ _ _);simp only [stU])))
 | ((first|refine fun (K : V → List _ → _) hK=>?_|refine fun (_ : V → V)=>?_|refine fun (bb : Nat → Bool) K hK=>?_);simp (disch:=omega) only [go_sem,Int.reduceEq,↓reduceIte,reduceCtorEq,Nat.reduceEqDiff,Nat.reduceLT,Nat.reduceLeDiff,Nat.reduceAdd,Nat.reduceSub,Nat.reduceMul,Int.reduceToNat,Int.reduceLE,Int.reduceLT,E0,Sg3,St.updIf,ifc_nil,gt_ifc,go_ifc,ite_self,Option.none_or,Option.some_or];(try (revert hK;intro hK;(repeat' first|(refine And.intro ?_ ?_)|(intro hc;first|cases hc|((try rw [hc]);(try simp only [stH] at hc);(try (exfalso;omega)))));all_goals first|(refine hK _ _ ?_;clear hK K;simp only [stU])|exact hK|omega)))
    (refine Ends.of (nm []) (by first|exact .inl rfl|exact .inr rfl) ?_;simp (disch:=omega) only [go_sem,Int.reduceEq,↓reduceIte,reduceCtorEq,Nat.reduceEqDiff,Nat.reduceLT,Nat.reduceLeDiff,Nat.reduceAdd,Nat.reduceSub,Nat.reduceMul,Int.reduceToNat,Int.reduceLE,Int.reduceLT,E0,hz])
  repeat' first
 | refine AW.seq ?_
 | refine AW.block ?_
 | refine AW.regl E0_ok [0,1,4,5,10,14,25] ?_
 | (refine AW.regc (id:=6) E0_ok follows bb_overdubkeep_Same_int_6 (by kernel_rfl) [0,1,4,5,10,14,25] ?_)
 | refine then_n ?_
 | refine then_r ?_
 | refine then_x ?_
 | refine block_x ?_
 | refine block_o (by decide) ?_
 | refine block_n ?_
 | refine block_r ?_
 | refine AW.skip ?_
 | refine AW.ret ?_
 | refine AW.exit ?_
 | refine AW.cond rfl ?_ ?_
 | refine awl_none rfl ?_
 | refine awl_nil2 ?_
 | refine awc_none rfl ?_
 | exact each_nil
 | refine each_none rfl ?_ ?_
 | refine awc_leaf2 [some 17,some 18,some 19,some 20,some 21,some 22,some 23,some 24,some 25] cc_overdubkeep_Same_int_6 rfl (by kernel_rfl) (by kernel_rfl) ?_ ?_
 | (refine fun (hc : _ = _)=>?_;first|cases hc|((try rw [hc]);(try simp only [stH] at hc);(try (exfalso;omega)));(try ((first|show Awl _ _ _ _ _|show Awc _ _ _ _ _ _);simp only [stU])))
 | ((first|refine fun (K : V → List _ → _) hK=>?_|refine fun (_ : V → V)=>?_|refine fun (bb : Nat → Bool) K hK=>?_);simp (disch:=omega) only [go_sem,Int.reduceEq,↓reduceIte,reduceCtorEq,Nat.reduceEqDiff,Nat.reduceLT,Nat.reduceLeDiff,Nat.reduceAdd,Nat.reduceSub,Nat.reduceMul,Int.reduceToNat,Int.reduceLE,Int.reduceLT,E0,Sg3,St.updIf,ifc_nil,gt_ifc,go_ifc,ite_self,Option.none_or,Option.some_or];(try (revert hK;intro hK;(repeat' first|(refine And.intro ?_ ?_)|(intro hc;first|cases hc|((try rw [hc]);(try simp only [stH] at hc);(try (exfalso;omega)))));all_goals first|(refine hK _ _ ?_;clear hK K;simp only [stU])|exact hK|omega)))
  refine AW.loop_wk (fun k : Nat=>⟨[(0,.d (.list (l.map mI))),(1,.d (.list (m.map mI))),(5,.d (.v (.int .i64 k)))],[],26⟩)
    (fun k=>k ≤ l.length ∧ l.take k = m.take k) (fun k=>l.length - k) 0 ⟨by omega,rfl⟩ (fun w0 oa a w hs=>Wk.sr (ρ:=nm []) (Wk.of ?_) hs) ?_
  · simp (disch:=omega) only [go_sem,Int.reduceEq,↓reduceIte,reduceCtorEq,Nat.reduceEqDiff,Nat.reduceLT,Nat.reduceLeDiff,Nat.reduceAdd,Nat.reduceSub,Nat.reduceMul,Int.reduceToNat,Int.reduceLE,Int.reduceLT,E0]
  · rintro k ⟨hk,ht⟩
    by_cases hk1 : k < l.length
    · have e1:=nth_I l k hk1
      have e2:=nth_I m k (by omega)
      by_cases he : l.getD k 0 = m.getD k 0
      · have ht1:=take_step 0 ht hk1 (by omega) he
        generalize l.getD k 0 = a at *
        generalize m.getD k 0 = b at *
        subst he
        repeat' first
 | refine AW.seq ?_
 | refine AW.block ?_
 | refine AW.regl E0_ok [0,1,4,5,10,14,25] ?_
 | (refine AW.regc (id:=6) E0_ok follows bb_overdubkeep_Same_int_6 (by kernel_rfl) [0,1,4,5,10,14,25] ?_)
 | refine then_n ?_
 | refine then_r ?_
 | refine then_x ?_
 | refine block_x ?_
 | refine block_o (by decide) ?_
 | refine block_n ?_
 | refine block_r ?_
 | refine AW.skip ?_
 | refine AW.ret ?_
 | refine AW.exit ?_
 | refine AW.cond rfl ?_ ?_
 | refine awl_none rfl ?_
 | refine awl_nil2 ?_
 | refine awc_none rfl ?_
 | exact each_nil
 | refine each_none rfl ?_ ?_
 | refine awc_leaf2 [some 17,some 18,some 19,some 20,some 21,some 22,some 23,some 24,some 25] cc_overdubkeep_Same_int_6 rfl (by kernel_rfl) (by kernel_rfl) ?_ ?_
 | (refine fun (hc : _ = _)=>?_;first|cases hc|((try rw [hc]);(try simp only [stH] at hc);(try (exfalso;omega)));(try ((first|show Awl _ _ _ _ _|show Awc _ _ _ _ _ _);simp only [stU])))
 | ((first|refine fun (K : V → List _ → _) hK=>?_|refine fun (_ : V → V)=>?_|refine fun (bb : Nat → Bool) K hK=>?_);simp (disch:=omega) only [go_sem,Int.reduceEq,↓reduceIte,reduceCtorEq,Nat.reduceEqDiff,Nat.reduceLT,Nat.reduceLeDiff,Nat.reduceAdd,Nat.reduceSub,Nat.reduceMul,Int.reduceToNat,Int.reduceLE,Int.reduceLT,E0,e1,e2,all_I,Sg3,St.updIf,ifc_nil,gt_ifc,go_ifc,ite_self,Option.none_or,Option.some_or];(try (revert hK;intro hK;(repeat' first|(refine And.intro ?_ ?_)|(intro hc;first|cases hc|((try rw [hc]);(try simp only [stH] at hc);(try (exfalso;omega)))));all_goals first|(refine hK _ _ ?_;clear hK K;simp only [stU])|exact hK|omega)))
        refine ⟨k + 1,by omega,ht1,by omega,nm [],Wk.of ?_⟩
        simp (disch:=omega) only [go_sem,Int.reduceEq,↓reduceIte,reduceCtorEq,Nat.reduceEqDiff,Nat.reduceLT,Nat.reduceLeDiff,Nat.reduceAdd,Nat.reduceSub,Nat.reduceMul,Int.reduceToNat,Int.reduceLE,Int.reduceLT,E0]
        try rfl
      · have hz : decide (l = m) = false:=decide_eq_false (ne_of_getD he)
        repeat' first
 | refine AW.seq ?_
 | refine AW.block ?_
 | refine AW.regl E0_ok [0,1,4,5,10,14,25] ?_
 | (refine AW.regc (id:=6) E0_ok follows bb_overdubkeep_Same_int_6 (by kernel_rfl) [0,1,4,5,10,14,25] ?_)
 | refine then_n ?_
 | refine then_r ?_
 | refine then_x ?_
 | refine block_x ?_
 | refine block_o (by decide) ?_
 | refine block_n ?_
 | refine block_r ?_
 | refine AW.skip ?_
 | refine AW.ret ?_
 | refine AW.exit ?_
 | refine AW.cond rfl ?_ ?_
 | refine awl_none rfl ?_
 | refine awl_nil2 ?_
 | refine awc_none rfl ?_
 | exact each_nil
 | refine each_none rfl ?_ ?_
 | refine awc_leaf2 [some 17,some 18,some 19,some 20,some 21,some 22,some 23,some 24,some 25] cc_overdubkeep_Same_int_6 rfl (by kernel_rfl) (by kernel_rfl) ?_ ?_
 | (refine fun (hc : _ = _)=>?_;first|cases hc|((try rw [hc]);(try simp only [stH] at hc);(try (exfalso;omega)));(try ((first|show Awl _ _ _ _ _|show Awc _ _ _ _ _ _);simp only [stU])))
 | ((first|refine fun (K : V → List _ → _) hK=>?_|refine fun (_ : V → V)=>?_|refine fun (bb : Nat → Bool) K hK=>?_);simp (disch:=omega) only [go_sem,Int.reduceEq,↓reduceIte,reduceCtorEq,Nat.reduceEqDiff,Nat.reduceLT,Nat.reduceLeDiff,Nat.reduceAdd,Nat.reduceSub,Nat.reduceMul,Int.reduceToNat,Int.reduceLE,Int.reduceLT,E0,e1,e2,all_I,he,Sg3,St.updIf,ifc_nil,gt_ifc,go_ifc,ite_self,Option.none_or,Option.some_or];(try (revert hK;intro hK;(repeat' first|(refine And.intro ?_ ?_)|(intro hc;first|cases hc|((try rw [hc]);(try simp only [stH] at hc);(try (exfalso;omega)))));all_goals first|(refine hK _ _ ?_;clear hK K;simp only [stU])|exact hK|omega)))
        (refine Ends.of (nm []) (by first|exact .inl rfl|exact .inr rfl) ?_;simp (disch:=omega) only [go_sem,Int.reduceEq,↓reduceIte,reduceCtorEq,Nat.reduceEqDiff,Nat.reduceLT,Nat.reduceLeDiff,Nat.reduceAdd,Nat.reduceSub,Nat.reduceMul,Int.reduceToNat,Int.reduceLE,Int.reduceLT,E0,hz])
    · obtain rfl : k = l.length:=by omega
      have hz : decide (l = m) = true:=decide_eq_true (take_all ht hlm)
      repeat' first
 | refine AW.seq ?_
 | refine AW.block ?_
 | refine AW.regl E0_ok [0,1,4,5,10,14,25] ?_
 | (refine AW.regc (id:=6) E0_ok follows bb_overdubkeep_Same_int_6 (by kernel_rfl) [0,1,4,5,10,14,25] ?_)
 | refine then_n ?_
 | refine then_r ?_
 | refine then_x ?_
 | refine block_x ?_
 | refine block_o (by decide) ?_
 | refine block_n ?_
 | refine block_r ?_
 | refine AW.skip ?_
 | refine AW.ret ?_
 | refine AW.exit ?_
 | refine AW.cond rfl ?_ ?_
 | refine awl_none rfl ?_
 | refine awl_nil2 ?_
 | refine awc_none rfl ?_
 | exact each_nil
 | refine each_none rfl ?_ ?_
 | refine awc_leaf2 [some 17,some 18,some 19,some 20,some 21,some 22,some 23,some 24,some 25] cc_overdubkeep_Same_int_6 rfl (by kernel_rfl) (by kernel_rfl) ?_ ?_
 | (refine fun (hc : _ = _)=>?_;first|cases hc|((try rw [hc]);(try simp only [stH] at hc);(try (exfalso;omega)));(try ((first|show Awl _ _ _ _ _|show Awc _ _ _ _ _ _);simp only [stU])))
 | ((first|refine fun (K : V → List _ → _) hK=>?_|refine fun (_ : V → V)=>?_|refine fun (bb : Nat → Bool) K hK=>?_);simp (disch:=omega) only [go_sem,Int.reduceEq,↓reduceIte,reduceCtorEq,Nat.reduceEqDiff,Nat.reduceLT,Nat.reduceLeDiff,Nat.reduceAdd,Nat.reduceSub,Nat.reduceMul,Int.reduceToNat,Int.reduceLE,Int.reduceLT,E0,Sg3,St.updIf,ifc_nil,gt_ifc,go_ifc,ite_self,Option.none_or,Option.some_or];(try (revert hK;intro hK;(repeat' first|(refine And.intro ?_ ?_)|(intro hc;first|cases hc|((try rw [hc]);(try simp only [stH] at hc);(try (exfalso;omega)))));all_goals first|(refine hK _ _ ?_;clear hK K;simp only [stU])|exact hK|omega)))
      (refine Ends.of (nm []) (by first|exact .inl rfl|exact .inr rfl) ?_;simp (disch:=omega) only [go_sem,Int.reduceEq,↓reduceIte,reduceCtorEq,Nat.reduceEqDiff,Nat.reduceLT,Nat.reduceLeDiff,Nat.reduceAdd,Nat.reduceSub,Nat.reduceMul,Int.reduceToNat,Int.reduceLE,Int.reduceLT,E0,hz])
theorem ent_overdubkeep_Same_int : Ent Try.prog 44:=⟨_,Try.func44,rfl,by decide⟩
def lineR (i : Int) (x : Ln) : Ln:=⟨i,within x.b 1001,if within x.b 1001 = 0 then 0 else 1 + within x.c 4000⟩
def lnG (rt : Bool) : Nat → Int → List Ln → List Ln
  | 0,_,_=>[]
  | _ + 1,_,[]=>[]
  | n + 1,i,x :: r=>if rt = true then lineR (i + (1 + within x.a 10)) x :: lnG rt n (i + (1 + within x.a 10)) r else x :: lnG rt n i r
theorem lnG_zero (rt : Bool) (i : Int) (l : List Ln) : lnG rt 0 i l = []:=by cases l <;> rfl
theorem lnG_nil (rt : Bool) (n : Nat) (i : Int) : lnG rt n i [] = []:=by cases n <;> rfl
theorem lnG_len (rt : Bool) : ∀ (n : Nat) (i : Int) (l : List Ln),(lnG rt n i l).length = min n l.length
  | 0,i,l=>by rw [lnG_zero];simp
  | n + 1,i,[]=>rfl
  | n + 1,i,x :: r=>by
    unfold lnG
    split <;> (rw [List.length_cons,lnG_len,List.length_cons];omega)
theorem lnG_step {rt : Bool} {i : Int} {k : Nat} {l : List Ln} (h8 : k < 8) (hk : k < l.length) : lnG rt (8 - k) i (l.drop k) = if rt = true then lineR (i + (1 + within (l.getD k l0).a 10)) (l.getD k l0) :: lnG rt (8 - (k + 1)) (i + (1 + within (l.getD k l0).a 10)) (l.drop (k + 1)) else l.getD k l0 :: lnG rt (8 - (k + 1)) i (l.drop (k + 1)):=by
  have e9 : l.drop k = l.getD k l0 :: l.drop (k + 1):=by rw [List.drop_eq_getElem_cons hk];simp [List.getD_eq_getElem?_getD,hk]
  obtain ⟨q,hq⟩ : ∃ q,8 - k = q + 1:=⟨7 - k,by omega⟩
  rw [hq,show 8 - (k + 1) = q by omega,e9];rfl
theorem snoc_Lh (l : List Ln) (a b c : Int) : l.map lD ++ [D.agg [.v (.int .i64 a),.v (.int .i64 b),.v (.int .i64 c)]] = (l ++ [Ln.mk a b c]).map lD:=by rw [List.map_append];rfl
theorem snoc_Ph (l : List Pa) (a b : Int) : l.map pD ++ [D.agg [.v (.int .i64 a),.v (.int .i64 b)]] = (l ++ [Pa.mk a b]).map pD:=by rw [List.map_append];rfl
theorem snoc_Ih (l : List Int) (a : Int) : l.map mI ++ [D.v (.int .i64 a)] = (l ++ [a]).map mI:=by rw [List.map_append];rfl
noncomputable def NHE : Env:=⟨Try.prog,fun f ds out=>(f = 20 ∧ Sp_overdubkeep_Within ds out),Es,fun _=>false⟩
theorem NHE_sp : ∀ f ds out,NHE.Sp f ds out → Ent NHE.P f ∧ Good NHE.P f (fun a b=>a = ds ∧ b = out):=by
  rintro f ds out ⟨rfl,h⟩
  exact ⟨ent_overdubkeep_Within,good_overdubkeep_Within.one h⟩
theorem NHE_ok : NHE.Ok:=⟨NHE_sp,Es_ok⟩
def linesOut (rt : Bool) (l : List Ln) : Out:=⟨.tup [.sl 0 3 0 (lnG rt 8 (-1) l).length true,.sl 1 3 0 (lnG rt 8 (-1) l).length true],[(0,.row 36 3 ((lnG rt 8 (-1) l).map lD)),(1,.row 86 3 ((lnG rt 8 (-1) l).map lD))]⟩
def Sp_overdublaw20_lines (ds : List D) (out : Out) : Prop:=∃ (l : List Ln) (rt : Bool),ds = [.list (l.map lD),.v (.bool rt)] ∧ l.length ≤ 9223372036854775807 ∧ out = linesOut rt l
def stLn (l : List Ln) (rt : Bool) (k : Nat) (r : List Ln) (i : Int) : St:=⟨[(0,.d (.list (l.map lD))),(1,.d (.v (.bool rt))),(6,.sl 100 3 0 k true),(7,.sl 101 3 0 k true),(8,.d (.v (.int .i64 i))),(9,.d (.v (.int .i64 k)))],[(100,.row 36 3 (r.map lD)),(101,.row 86 3 (r.map lD))],55⟩
def bb_overdublaw20_lines_10 : List Nat:=[0,0,2,6,0,16,62,126,255,511]
def bb_overdublaw20_lines_13 : List Nat:=[0,0,2,7,0,0,32,127,255,511]
def cc_overdublaw20_lines_10 : List (List (Option Bool)):=[[some false,none,none,none,none,none,none,none,some false,some false],[none,some false,some false,some false,none,none,some false,some false,some false,some false],[none,some true,some false,some false,none,none,some false,some false,some false,some false],[none,some true,some true,some false,none,none,some false,some false,some false,some false],[none,none,none,none,some false,some false,some false,some false,some false,some false],[none,none,none,none,some true,some false,some false,some false,some false,some false],[none,some true,some true,some true,some true,some true,some false,some false,some false,some false],[none,some true,some true,some true,some true,some true,some true,some false,some false,some false],[some true,some true,some true,some true,some true,some true,some true,some true,some false,some false],[some true,some true,some true,some true,some true,some true,some true,some true,some true,some false]]
def cc_overdublaw20_lines_13 : List (List (Option Bool)):=[[some false,none,none,some false,none,none,none,some false,some false,some false],[none,some false,some false,some false,none,none,none,some false,some false,some false],[none,some true,some false,some false,none,none,none,some false,some false,some false],[some true,some true,some true,some false,none,none,none,some false,some false,some false],[none,none,none,none,some false,none,none,some false,some false,some false],[none,none,none,none,none,some false,some false,some false,some false,some false],[none,none,none,none,none,some true,some false,some false,some false,some false],[some true,some true,some true,some true,some true,some true,some true,some false,some false,some false],[some true,some true,some true,some true,some true,some true,some true,some true,some false,some false],[some true,some true,some true,some true,some true,some true,some true,some true,some true,some false]]
theorem good_overdublaw20_lines : Good Try.prog 11 Sp_overdublaw20_lines:=by
  refine good_body (E:=NHE) (nt:=55) (rs:=#[.tmp 4,.tmp 5]) Try.func11 rfl rfl rfl ?_
  rintro ds out ⟨l,rt,rfl,hl,rfl⟩
  refine ⟨by simp,?_⟩
  repeat' first
 | refine AW.seq ?_
 | refine AW.block ?_
 | refine AW.regl NHE_ok [0,1,4,5,6,7,8,9,10,18,25,43] ?_
 | (refine AW.regc (id:=10) NHE_ok follows bb_overdublaw20_lines_10 (by kernel_rfl) [0,1,4,5,6,7,8,9,10,18,25,43] ?_)
 | (refine AW.regc (id:=13) NHE_ok follows bb_overdublaw20_lines_13 (by kernel_rfl) [0,1,4,5,6,7,8,9,10,18,25,43] ?_)
 | refine then_n ?_
 | refine then_r ?_
 | refine then_x ?_
 | refine block_x ?_
 | refine block_o (by decide) ?_
 | refine block_n ?_
 | refine block_r ?_
 | refine AW.skip ?_
 | refine AW.ret ?_
 | refine AW.exit ?_
 | refine AW.cond rfl ?_ ?_
 | refine awl_none rfl ?_
 | refine awl_nil2 ?_
 | refine awl_some rfl rfl (Nat.le_of_ble_eq_true rfl) rfl rfl ?_ ?_
 | refine awc_none rfl ?_
 | exact each_nil
 | refine each_none rfl ?_ ?_
 | refine awc_leaf2 [some 32,some 33,some 34,some 35,some 36,some 37,some 38,some 39,some 40,none] cc_overdublaw20_lines_10 rfl (by kernel_rfl) (by kernel_rfl) ?_ ?_
 | refine awc_leaf2 [some 45,some 46,some 47,some 48,some 49,some 50,some 51,some 52,some 6,some 7] cc_overdublaw20_lines_13 rfl (by kernel_rfl) (by kernel_rfl) ?_ ?_
 | (refine fun (hc : _ = _)=>?_;first|cases hc|((try rw [hc]);(try simp only [stH] at hc);(try (exfalso;omega)));(try ((first|show Awl _ _ _ _ _|show Awc _ _ _ _ _ _);simp only [stU])))
 | ((first|refine fun (K : V → List _ → _) hK=>?_|refine fun (_ : V → V)=>?_|refine fun (bb : Nat → Bool) K hK=>?_);simp (disch:=omega) only [go_sem,Int.reduceEq,↓reduceIte,reduceCtorEq,Nat.reduceEqDiff,Nat.reduceLT,Nat.reduceLeDiff,Nat.reduceAdd,Nat.reduceSub,Nat.reduceMul,Int.reduceToNat,Int.reduceLE,Int.reduceLT,NHE,Sp_overdubkeep_Within,Sg3,St.updIf,ifc_nil,gt_ifc,go_ifc,ite_self,Option.none_or,Option.some_or];(try (revert hK;intro hK;(repeat' first|(refine And.intro ?_ ?_)|(intro hc;first|cases hc|((try rw [hc]);(try simp only [stH] at hc);(try (exfalso;omega)))));all_goals first|(refine hK _ _ ?_;clear hK K;simp only [stU])|exact hK|omega)))
  refine AW.loop_wk (fun p : Nat × List Ln × Int=>stLn l rt p.1 p.2.1 p.2.2)
    (fun p=>p.1 ≤ l.length ∧ p.1 ≤ 8 ∧ p.2.1.length = p.1 ∧ -1 ≤ p.2.2 ∧ p.2.2 ≤ 10 * p.1 ∧ lnG rt 8 (-1) l = p.2.1 ++ lnG rt (8 - p.1) p.2.2 (l.drop p.1)) (fun p=>l.length - p.1) (0,[],-1) ⟨by omega,by omega,rfl,by dsimp only;omega,by dsimp only;omega,by simp⟩ (fun w0 oa a w hs=>Wk.sr (ρ:=nm []) (Wk.of ?_) (nil_sr 7 101 86 3 rfl (by simp [St.upd,St.put]) rfl (by decide) (nil_sr 6 100 36 3 rfl (by simp) rfl (by decide) hs))) ?_
  · simp (disch:=omega) only [go_sem,Int.reduceEq,↓reduceIte,reduceCtorEq,Nat.reduceEqDiff,Nat.reduceLT,Nat.reduceLeDiff,Nat.reduceAdd,Nat.reduceSub,Nat.reduceMul,Int.reduceToNat,Int.reduceLE,Int.reduceLT,NHE,Sp_overdubkeep_Within,stLn]
    all_goals first|done|rfl|exact ⟨rfl,rfl⟩
  · rintro ⟨k,r,i⟩ ⟨hk,hk8,hr,hi0,hi1,hv⟩
    dsimp only at hk hk8 hr hi0 hi1 hv
    by_cases hk1 : k < l.length ∧ k < 8
    · have e2:=nth_Lh l k hk1.1
      have hst:=lnG_step (rt:=rt) (i:=i) hk1.2 hk1.1
      rw [hst] at hv
      clear hst
      generalize l.getD k l0 = x at *
      obtain ⟨a,b,c⟩:=x
      dsimp only at hv e2
      have hrm : (r.map lD).length = k:=by rw [List.length_map,hr]
      have hk8':=hk1.2
      have hk1':=hk1.1
      cases rt with
      | false =>
        simp only [Bool.false_eq_true,if_false] at hv
        as_aux_lemma =>
          repeat' first
 | refine AW.seq ?_
 | refine AW.block ?_
 | refine AW.regl NHE_ok [0,1,4,5,6,7,8,9,10,18,25,43] ?_
 | (refine AW.regc (id:=10) NHE_ok follows bb_overdublaw20_lines_10 (by kernel_rfl) [0,1,4,5,6,7,8,9,10,18,25,43] ?_)
 | (refine AW.regc (id:=13) NHE_ok follows bb_overdublaw20_lines_13 (by kernel_rfl) [0,1,4,5,6,7,8,9,10,18,25,43] ?_)
 | refine then_n ?_
 | refine then_r ?_
 | refine then_x ?_
 | refine block_x ?_
 | refine block_o (by decide) ?_
 | refine block_n ?_
 | refine block_r ?_
 | refine AW.skip ?_
 | refine AW.ret ?_
 | refine AW.exit ?_
 | refine AW.cond rfl ?_ ?_
 | refine awl_none rfl ?_
 | refine awl_nil2 ?_
 | refine awl_some rfl rfl (Nat.le_of_ble_eq_true rfl) rfl rfl ?_ ?_
 | refine awc_none rfl ?_
 | exact each_nil
 | refine each_none rfl ?_ ?_
 | refine awc_leaf2 [some 32,some 33,some 34,some 35,some 36,some 37,some 38,some 39,some 40,none] cc_overdublaw20_lines_10 rfl (by kernel_rfl) (by kernel_rfl) ?_ ?_
 | refine awc_leaf2 [some 45,some 46,some 47,some 48,some 49,some 50,some 51,some 52,some 6,some 7] cc_overdublaw20_lines_13 rfl (by kernel_rfl) (by kernel_rfl) ?_ ?_
 | (refine fun (hc : _ = _)=>?_;first|cases hc|((try rw [hc]);(try simp only [stH] at hc);(try (exfalso;omega)));(try ((first|show Awl _ _ _ _ _|show Awc _ _ _ _ _ _);simp only [stU])))
 | ((first|refine fun (K : V → List _ → _) hK=>?_|refine fun (_ : V → V)=>?_|refine fun (bb : Nat → Bool) K hK=>?_);simp (disch:=omega) only [go_sem,Int.reduceEq,↓reduceIte,reduceCtorEq,Nat.reduceEqDiff,Nat.reduceLT,Nat.reduceLeDiff,Nat.reduceAdd,Nat.reduceSub,Nat.reduceMul,Int.reduceToNat,Int.reduceLE,Int.reduceLT,NHE,Sp_overdubkeep_Within,stLn,e2,hr,hrm,Sg3,St.updIf,ifc_nil,gt_ifc,go_ifc,ite_self,Option.none_or,Option.some_or];(try (revert hK;intro hK;(repeat' first|(refine And.intro ?_ ?_)|(intro hc;first|cases hc|((try rw [hc]);(try simp only [stH] at hc);(try (exfalso;omega)))));all_goals first|(refine hK _ _ ?_;clear hK K;simp only [stU])|exact hK|omega)))
          refine ⟨(k + 1,r ++ [⟨a,b,c⟩],i),by dsimp only;omega,by dsimp only;omega,by simp [hr],by dsimp only;omega,by dsimp only;omega,by dsimp only;rw [hv,List.append_assoc];rfl,by dsimp only;omega,nm [(100,48),(101,52)],Wk.of ?_⟩
          simp (disch:=omega) only [go_sem,Int.reduceEq,↓reduceIte,reduceCtorEq,Nat.reduceEqDiff,Nat.reduceLT,Nat.reduceLeDiff,Nat.reduceAdd,Nat.reduceSub,Nat.reduceMul,Int.reduceToNat,Int.reduceLE,Int.reduceLT,NHE,Sp_overdubkeep_Within,stLn,snoc_Lh]
          all_goals first|done|rfl|exact ⟨rfl,rfl⟩|exact ⟨rfl,rfl,rfl⟩
      | true =>
        simp only [if_true] at hv
        have w1:=within_rngh (v:=a) (n:=10) (by omega)
        have w2:=within_rngh (v:=b) (n:=1001) (by omega)
        have w3:=within_rngh (v:=c) (n:=4000) (by omega)
        by_cases hz : within b 1001 = 0
        · have hR : lineR (i + (1 + within a 10)) ⟨a,b,c⟩ = ⟨i + (1 + within a 10),0,0⟩:=by unfold lineR;dsimp only;rw [hz];rfl
          rw [hR] at hv
          clear hR
          as_aux_lemma =>
            repeat' first
 | refine AW.seq ?_
 | refine AW.block ?_
 | refine AW.regl NHE_ok [0,1,4,5,6,7,8,9,10,18,25,43] ?_
 | (refine AW.regc (id:=10) NHE_ok follows bb_overdublaw20_lines_10 (by kernel_rfl) [0,1,4,5,6,7,8,9,10,18,25,43] ?_)
 | (refine AW.regc (id:=13) NHE_ok follows bb_overdublaw20_lines_13 (by kernel_rfl) [0,1,4,5,6,7,8,9,10,18,25,43] ?_)
 | refine then_n ?_
 | refine then_r ?_
 | refine then_x ?_
 | refine block_x ?_
 | refine block_o (by decide) ?_
 | refine block_n ?_
 | refine block_r ?_
 | refine AW.skip ?_
 | refine AW.ret ?_
 | refine AW.exit ?_
 | refine AW.cond rfl ?_ ?_
 | refine awl_none rfl ?_
 | refine awl_nil2 ?_
 | refine awl_some rfl rfl (Nat.le_of_ble_eq_true rfl) rfl rfl ?_ ?_
 | refine awc_none rfl ?_
 | exact each_nil
 | refine each_none rfl ?_ ?_
 | refine awc_leaf2 [some 32,some 33,some 34,some 35,some 36,some 37,some 38,some 39,some 40,none] cc_overdublaw20_lines_10 rfl (by kernel_rfl) (by kernel_rfl) ?_ ?_
 | refine awc_leaf2 [some 45,some 46,some 47,some 48,some 49,some 50,some 51,some 52,some 6,some 7] cc_overdublaw20_lines_13 rfl (by kernel_rfl) (by kernel_rfl) ?_ ?_
 | (refine fun (hc : _ = _)=>?_;first|cases hc|((try rw [hc]);(try simp only [stH] at hc);(try (exfalso;omega)));(try ((first|show Awl _ _ _ _ _|show Awc _ _ _ _ _ _);simp only [stU])))
 | ((first|refine fun (K : V → List _ → _) hK=>?_|refine fun (_ : V → V)=>?_|refine fun (bb : Nat → Bool) K hK=>?_);simp (disch:=omega) only [go_sem,Int.reduceEq,↓reduceIte,reduceCtorEq,Nat.reduceEqDiff,Nat.reduceLT,Nat.reduceLeDiff,Nat.reduceAdd,Nat.reduceSub,Nat.reduceMul,Int.reduceToNat,Int.reduceLE,Int.reduceLT,NHE,Sp_overdubkeep_Within,stLn,e2,hr,hrm,hz,Sg3,St.updIf,ifc_nil,gt_ifc,go_ifc,ite_self,Option.none_or,Option.some_or];(try (revert hK;intro hK;(repeat' first|(refine And.intro ?_ ?_)|(intro hc;first|cases hc|((try rw [hc]);(try simp only [stH] at hc);(try (exfalso;omega)))));all_goals first|(refine hK _ _ ?_;clear hK K;simp only [stU])|exact hK|omega)))
            refine ⟨(k + 1,r ++ [⟨i + (1 + within a 10),0,0⟩],i + (1 + within a 10)),by dsimp only;omega,by dsimp only;omega,by simp [hr],by dsimp only;omega,by dsimp only;omega,by dsimp only;rw [hv,List.append_assoc];rfl,by dsimp only;omega,nm [(100,48),(101,52)],Wk.of ?_⟩
            simp (disch:=omega) only [go_sem,Int.reduceEq,↓reduceIte,reduceCtorEq,Nat.reduceEqDiff,Nat.reduceLT,Nat.reduceLeDiff,Nat.reduceAdd,Nat.reduceSub,Nat.reduceMul,Int.reduceToNat,Int.reduceLE,Int.reduceLT,NHE,Sp_overdubkeep_Within,stLn,snoc_Lh]
            all_goals first|done|rfl|exact ⟨rfl,rfl⟩|exact ⟨rfl,rfl,rfl⟩
        · have hR : lineR (i + (1 + within a 10)) ⟨a,b,c⟩ = ⟨i + (1 + within a 10),within b 1001,1 + within c 4000⟩:=by unfold lineR;dsimp only;rw [if_neg hz]
          have hz' : decide (within b 1001 = 0) = false:=decide_eq_false hz
          rw [hR] at hv
          clear hR
          as_aux_lemma =>
            repeat' first
 | refine AW.seq ?_
 | refine AW.block ?_
 | refine AW.regl NHE_ok [0,1,4,5,6,7,8,9,10,18,25,43] ?_
 | (refine AW.regc (id:=10) NHE_ok follows bb_overdublaw20_lines_10 (by kernel_rfl) [0,1,4,5,6,7,8,9,10,18,25,43] ?_)
 | (refine AW.regc (id:=13) NHE_ok follows bb_overdublaw20_lines_13 (by kernel_rfl) [0,1,4,5,6,7,8,9,10,18,25,43] ?_)
 | refine then_n ?_
 | refine then_r ?_
 | refine then_x ?_
 | refine block_x ?_
 | refine block_o (by decide) ?_
 | refine block_n ?_
 | refine block_r ?_
 | refine AW.skip ?_
 | refine AW.ret ?_
 | refine AW.exit ?_
 | refine AW.cond rfl ?_ ?_
 | refine awl_none rfl ?_
 | refine awl_nil2 ?_
 | refine awl_some rfl rfl (Nat.le_of_ble_eq_true rfl) rfl rfl ?_ ?_
 | refine awc_none rfl ?_
 | exact each_nil
 | refine each_none rfl ?_ ?_
 | refine awc_leaf2 [some 32,some 33,some 34,some 35,some 36,some 37,some 38,some 39,some 40,none] cc_overdublaw20_lines_10 rfl (by kernel_rfl) (by kernel_rfl) ?_ ?_
 | refine awc_leaf2 [some 45,some 46,some 47,some 48,some 49,some 50,some 51,some 52,some 6,some 7] cc_overdublaw20_lines_13 rfl (by kernel_rfl) (by kernel_rfl) ?_ ?_
 | (refine fun (hc : _ = _)=>?_;first|cases hc|((try rw [hc]);(try simp only [stH] at hc);(try (exfalso;omega)));(try ((first|show Awl _ _ _ _ _|show Awc _ _ _ _ _ _);simp only [stU])))
 | ((first|refine fun (K : V → List _ → _) hK=>?_|refine fun (_ : V → V)=>?_|refine fun (bb : Nat → Bool) K hK=>?_);simp (disch:=omega) only [go_sem,Int.reduceEq,↓reduceIte,reduceCtorEq,Nat.reduceEqDiff,Nat.reduceLT,Nat.reduceLeDiff,Nat.reduceAdd,Nat.reduceSub,Nat.reduceMul,Int.reduceToNat,Int.reduceLE,Int.reduceLT,NHE,Sp_overdubkeep_Within,stLn,e2,hr,hrm,hz',Sg3,St.updIf,ifc_nil,gt_ifc,go_ifc,ite_self,Option.none_or,Option.some_or];(try (revert hK;intro hK;(repeat' first|(refine And.intro ?_ ?_)|(intro hc;first|cases hc|((try rw [hc]);(try simp only [stH] at hc);(try (exfalso;omega)))));all_goals first|(refine hK _ _ ?_;clear hK K;simp only [stU])|exact hK|omega)))
            refine ⟨(k + 1,r ++ [⟨i + (1 + within a 10),within b 1001,1 + within c 4000⟩],i + (1 + within a 10)),by dsimp only;omega,by dsimp only;omega,by simp [hr],by dsimp only;omega,by dsimp only;omega,by dsimp only;rw [hv,List.append_assoc];rfl,by dsimp only;omega,nm [(100,48),(101,52)],Wk.of ?_⟩
            simp (disch:=omega) only [go_sem,Int.reduceEq,↓reduceIte,reduceCtorEq,Nat.reduceEqDiff,Nat.reduceLT,Nat.reduceLeDiff,Nat.reduceAdd,Nat.reduceSub,Nat.reduceMul,Int.reduceToNat,Int.reduceLE,Int.reduceLT,NHE,Sp_overdubkeep_Within,stLn,snoc_Lh]
            all_goals first|done|rfl|exact ⟨rfl,rfl⟩|exact ⟨rfl,rfl,rfl⟩
    · have hz : lnG rt 8 (-1) l = r:=by
        rw [hv]
        by_cases h : k < l.length
        · rw [show 8 - k = 0 by omega,lnG_zero,List.append_nil]
        · rw [List.drop_eq_nil_iff.2 (by omega),lnG_nil,List.append_nil]
      as_aux_lemma =>
        repeat' first
 | refine AW.seq ?_
 | refine AW.block ?_
 | refine AW.regl NHE_ok [0,1,4,5,6,7,8,9,10,18,25,43] ?_
 | (refine AW.regc (id:=10) NHE_ok follows bb_overdublaw20_lines_10 (by kernel_rfl) [0,1,4,5,6,7,8,9,10,18,25,43] ?_)
 | (refine AW.regc (id:=13) NHE_ok follows bb_overdublaw20_lines_13 (by kernel_rfl) [0,1,4,5,6,7,8,9,10,18,25,43] ?_)
 | refine then_n ?_
 | refine then_r ?_
 | refine then_x ?_
 | refine block_x ?_
 | refine block_o (by decide) ?_
 | refine block_n ?_
 | refine block_r ?_
 | refine AW.skip ?_
 | refine AW.ret ?_
 | refine AW.exit ?_
 | refine AW.cond rfl ?_ ?_
 | refine awl_none rfl ?_
 | refine awl_nil2 ?_
 | refine awl_some rfl rfl (Nat.le_of_ble_eq_true rfl) rfl rfl ?_ ?_
 | refine awc_none rfl ?_
 | exact each_nil
 | refine each_none rfl ?_ ?_
 | refine awc_leaf2 [some 32,some 33,some 34,some 35,some 36,some 37,some 38,some 39,some 40,none] cc_overdublaw20_lines_10 rfl (by kernel_rfl) (by kernel_rfl) ?_ ?_
 | refine awc_leaf2 [some 45,some 46,some 47,some 48,some 49,some 50,some 51,some 52,some 6,some 7] cc_overdublaw20_lines_13 rfl (by kernel_rfl) (by kernel_rfl) ?_ ?_
 | (refine fun (hc : _ = _)=>?_;first|cases hc|((try rw [hc]);(try simp only [stH] at hc);(try (exfalso;omega)));(try ((first|show Awl _ _ _ _ _|show Awc _ _ _ _ _ _);simp only [stU])))
 | ((first|refine fun (K : V → List _ → _) hK=>?_|refine fun (_ : V → V)=>?_|refine fun (bb : Nat → Bool) K hK=>?_);simp (disch:=omega) only [go_sem,Int.reduceEq,↓reduceIte,reduceCtorEq,Nat.reduceEqDiff,Nat.reduceLT,Nat.reduceLeDiff,Nat.reduceAdd,Nat.reduceSub,Nat.reduceMul,Int.reduceToNat,Int.reduceLE,Int.reduceLT,NHE,Sp_overdubkeep_Within,stLn,Sg3,St.updIf,ifc_nil,gt_ifc,go_ifc,ite_self,Option.none_or,Option.some_or];(try (revert hK;intro hK;(repeat' first|(refine And.intro ?_ ?_)|(intro hc;first|cases hc|((try rw [hc]);(try simp only [stH] at hc);(try (exfalso;omega)))));all_goals first|(refine hK _ _ ?_;clear hK K;simp only [stU])|exact hK|omega)))
        all_goals (refine Ends.of (nm [(0,100),(1,101)]) (by first|exact .inl rfl|exact .inr rfl) ?_;simp (disch:=omega) only [go_sem,Int.reduceEq,↓reduceIte,reduceCtorEq,Nat.reduceEqDiff,Nat.reduceLT,Nat.reduceLeDiff,Nat.reduceAdd,Nat.reduceSub,Nat.reduceMul,Int.reduceToNat,Int.reduceLE,Int.reduceLT,NHE,Sp_overdubkeep_Within,hz,hr,linesOut])
theorem ent_overdublaw20_lines : Ent Try.prog 11:=⟨_,Try.func11,rfl,by decide⟩
def paG (rt : Bool) : Nat → Int → List Pa → List Pa
  | 0,_,_=>[]
  | _ + 1,_,[]=>[]
  | n + 1,i,x :: r=>if rt = true then ⟨i + (1 + within x.a 50),1 + within x.b 4000⟩ :: paG rt n (i + (1 + within x.a 50)) r else x :: paG rt n i r
theorem paG_zero (rt : Bool) (i : Int) (l : List Pa) : paG rt 0 i l = []:=by cases l <;> rfl
theorem paG_nil (rt : Bool) (n : Nat) (i : Int) : paG rt n i [] = []:=by cases n <;> rfl
theorem paG_len (rt : Bool) : ∀ (n : Nat) (i : Int) (l : List Pa),(paG rt n i l).length = min n l.length
  | 0,i,l=>by rw [paG_zero];simp
  | n + 1,i,[]=>rfl
  | n + 1,i,x :: r=>by
    unfold paG
    split <;> (rw [List.length_cons,paG_len,List.length_cons];omega)
theorem paG_step {rt : Bool} {i : Int} {k : Nat} {l : List Pa} (h8 : k < 10) (hk : k < l.length) : paG rt (10 - k) i (l.drop k) = if rt = true then ⟨i + (1 + within (l.getD k p0).a 50),1 + within (l.getD k p0).b 4000⟩ :: paG rt (10 - (k + 1)) (i + (1 + within (l.getD k p0).a 50)) (l.drop (k + 1)) else l.getD k p0 :: paG rt (10 - (k + 1)) i (l.drop (k + 1)):=by
  have e9 : l.drop k = l.getD k p0 :: l.drop (k + 1):=by rw [List.drop_eq_getElem_cons hk];simp [List.getD_eq_getElem?_getD,hk]
  obtain ⟨q,hq⟩ : ∃ q,10 - k = q + 1:=⟨9 - k,by omega⟩
  rw [hq,show 10 - (k + 1) = q by omega,e9];rfl
def partsOut (rt : Bool) (l : List Pa) : Out:=⟨.tup [.sl 0 2 0 (paG rt 10 0 l).length true,.sl 1 2 0 (paG rt 10 0 l).length true],[(0,.row 47 2 ((paG rt 10 0 l).map pD)),(1,.row 96 2 ((paG rt 10 0 l).map pD))]⟩
def Sp_overdublaw20_parts (ds : List D) (out : Out) : Prop:=∃ (l : List Pa) (rt : Bool),ds = [.list (l.map pD),.v (.bool rt)] ∧ l.length ≤ 9223372036854775807 ∧ out = partsOut rt l
def stPa (l : List Pa) (rt : Bool) (k : Nat) (r : List Pa) (i : Int) : St:=⟨[(0,.d (.list (l.map pD))),(1,.d (.v (.bool rt))),(6,.sl 100 2 0 k true),(7,.sl 101 2 0 k true),(8,.d (.v (.int .i64 i))),(9,.d (.v (.int .i64 k)))],[(100,.row 47 2 (r.map pD)),(101,.row 96 2 (r.map pD))],48⟩
def bb_overdublaw20_parts_11 : List Nat:=[0,0,2,7,0,0,32,127,255,511]
def cc_overdublaw20_parts_11 : List (List (Option Bool)):=[[some false,none,none,some false,none,none,none,some false,some false,some false],[none,some false,some false,some false,none,none,none,some false,some false,some false],[none,some true,some false,some false,none,none,none,some false,some false,some false],[some true,some true,some true,some false,none,none,none,some false,some false,some false],[none,none,none,none,some false,none,none,some false,some false,some false],[none,none,none,none,none,some false,some false,some false,some false,some false],[none,none,none,none,none,some true,some false,some false,some false,some false],[some true,some true,some true,some true,some true,some true,some true,some false,some false,some false],[some true,some true,some true,some true,some true,some true,some true,some true,some false,some false],[some true,some true,some true,some true,some true,some true,some true,some true,some true,some false]]
theorem good_overdublaw20_parts : Good Try.prog 29 Sp_overdublaw20_parts:=by
  refine good_body (E:=NHE) (nt:=48) (rs:=#[.tmp 4,.tmp 5]) Try.func29 rfl rfl rfl ?_
  rintro ds out ⟨l,rt,rfl,hl,rfl⟩
  refine ⟨by simp,?_⟩
  repeat' first
 | refine AW.seq ?_
 | refine AW.block ?_
 | refine AW.regl NHE_ok [0,1,4,5,6,7,8,9,10,18,25] ?_
 | (refine AW.regc (id:=11) NHE_ok follows bb_overdublaw20_parts_11 (by kernel_rfl) [0,1,4,5,6,7,8,9,10,18,25] ?_)
 | refine then_n ?_
 | refine then_r ?_
 | refine then_x ?_
 | refine block_x ?_
 | refine block_o (by decide) ?_
 | refine block_n ?_
 | refine block_r ?_
 | refine AW.skip ?_
 | refine AW.ret ?_
 | refine AW.exit ?_
 | refine AW.cond rfl ?_ ?_
 | refine awl_none rfl ?_
 | refine awl_nil2 ?_
 | refine awl_some rfl rfl (Nat.le_of_ble_eq_true rfl) rfl rfl ?_ ?_
 | refine awc_none rfl ?_
 | exact each_nil
 | refine each_none rfl ?_ ?_
 | refine awc_leaf2 [some 38,some 39,some 40,some 41,some 42,some 43,some 44,some 45,some 6,some 7] cc_overdublaw20_parts_11 rfl (by kernel_rfl) (by kernel_rfl) ?_ ?_
 | (refine fun (hc : _ = _)=>?_;first|cases hc|((try rw [hc]);(try simp only [stH] at hc);(try (exfalso;omega)));(try ((first|show Awl _ _ _ _ _|show Awc _ _ _ _ _ _);simp only [stU])))
 | ((first|refine fun (K : V → List _ → _) hK=>?_|refine fun (_ : V → V)=>?_|refine fun (bb : Nat → Bool) K hK=>?_);simp (disch:=omega) only [go_sem,Int.reduceEq,↓reduceIte,reduceCtorEq,Nat.reduceEqDiff,Nat.reduceLT,Nat.reduceLeDiff,Nat.reduceAdd,Nat.reduceSub,Nat.reduceMul,Int.reduceToNat,Int.reduceLE,Int.reduceLT,NHE,Sp_overdubkeep_Within,Sg3,St.updIf,ifc_nil,gt_ifc,go_ifc,ite_self,Option.none_or,Option.some_or];(try (revert hK;intro hK;(repeat' first|(refine And.intro ?_ ?_)|(intro hc;first|cases hc|((try rw [hc]);(try simp only [stH] at hc);(try (exfalso;omega)))));all_goals first|(refine hK _ _ ?_;clear hK K;simp only [stU])|exact hK|omega)))
  refine AW.loop_wk (fun p : Nat × List Pa × Int=>stPa l rt p.1 p.2.1 p.2.2)
    (fun p=>p.1 ≤ l.length ∧ p.1 ≤ 10 ∧ p.2.1.length = p.1 ∧ 0 ≤ p.2.2 ∧ p.2.2 ≤ 50 * p.1 ∧ paG rt 10 0 l = p.2.1 ++ paG rt (10 - p.1) p.2.2 (l.drop p.1)) (fun p=>l.length - p.1) (0,[],0) ⟨by omega,by omega,rfl,by dsimp only;omega,by dsimp only;omega,by simp⟩ (fun w0 oa a w hs=>Wk.sr (ρ:=nm []) (Wk.of ?_) (nil_sr 7 101 96 2 rfl (by simp [St.upd,St.put]) rfl (by decide) (nil_sr 6 100 47 2 rfl (by simp) rfl (by decide) hs))) ?_
  · simp (disch:=omega) only [go_sem,Int.reduceEq,↓reduceIte,reduceCtorEq,Nat.reduceEqDiff,Nat.reduceLT,Nat.reduceLeDiff,Nat.reduceAdd,Nat.reduceSub,Nat.reduceMul,Int.reduceToNat,Int.reduceLE,Int.reduceLT,NHE,Sp_overdubkeep_Within,stPa]
    all_goals first|done|rfl|exact ⟨rfl,rfl⟩
  · rintro ⟨k,r,i⟩ ⟨hk,hk8,hr,hi0,hi1,hv⟩
    dsimp only at hk hk8 hr hi0 hi1 hv
    by_cases hk1 : k < l.length ∧ k < 10
    · have e2:=nth_Ph l k hk1.1
      have hst:=paG_step (rt:=rt) (i:=i) hk1.2 hk1.1
      rw [hst] at hv
      clear hst
      generalize l.getD k p0 = x at *
      obtain ⟨a,b⟩:=x
      dsimp only at hv e2
      have hrm : (r.map pD).length = k:=by rw [List.length_map,hr]
      have hk8':=hk1.2
      have hk1':=hk1.1
      cases rt with
      | false =>
        simp only [Bool.false_eq_true,if_false] at hv
        as_aux_lemma =>
          repeat' first
 | refine AW.seq ?_
 | refine AW.block ?_
 | refine AW.regl NHE_ok [0,1,4,5,6,7,8,9,10,18,25] ?_
 | (refine AW.regc (id:=11) NHE_ok follows bb_overdublaw20_parts_11 (by kernel_rfl) [0,1,4,5,6,7,8,9,10,18,25] ?_)
 | refine then_n ?_
 | refine then_r ?_
 | refine then_x ?_
 | refine block_x ?_
 | refine block_o (by decide) ?_
 | refine block_n ?_
 | refine block_r ?_
 | refine AW.skip ?_
 | refine AW.ret ?_
 | refine AW.exit ?_
 | refine AW.cond rfl ?_ ?_
 | refine awl_none rfl ?_
 | refine awl_nil2 ?_
 | refine awl_some rfl rfl (Nat.le_of_ble_eq_true rfl) rfl rfl ?_ ?_
 | refine awc_none rfl ?_
 | exact each_nil
 | refine each_none rfl ?_ ?_
 | refine awc_leaf2 [some 38,some 39,some 40,some 41,some 42,some 43,some 44,some 45,some 6,some 7] cc_overdublaw20_parts_11 rfl (by kernel_rfl) (by kernel_rfl) ?_ ?_
 | (refine fun (hc : _ = _)=>?_;first|cases hc|((try rw [hc]);(try simp only [stH] at hc);(try (exfalso;omega)));(try ((first|show Awl _ _ _ _ _|show Awc _ _ _ _ _ _);simp only [stU])))
 | ((first|refine fun (K : V → List _ → _) hK=>?_|refine fun (_ : V → V)=>?_|refine fun (bb : Nat → Bool) K hK=>?_);simp (disch:=omega) only [go_sem,Int.reduceEq,↓reduceIte,reduceCtorEq,Nat.reduceEqDiff,Nat.reduceLT,Nat.reduceLeDiff,Nat.reduceAdd,Nat.reduceSub,Nat.reduceMul,Int.reduceToNat,Int.reduceLE,Int.reduceLT,NHE,Sp_overdubkeep_Within,stPa,e2,hr,hrm,Sg3,St.updIf,ifc_nil,gt_ifc,go_ifc,ite_self,Option.none_or,Option.some_or];(try (revert hK;intro hK;(repeat' first|(refine And.intro ?_ ?_)|(intro hc;first|cases hc|((try rw [hc]);(try simp only [stH] at hc);(try (exfalso;omega)))));all_goals first|(refine hK _ _ ?_;clear hK K;simp only [stU])|exact hK|omega)))
          refine ⟨(k + 1,r ++ [⟨a,b⟩],i),by dsimp only;omega,by dsimp only;omega,by simp [hr],by dsimp only;omega,by dsimp only;omega,by dsimp only;rw [hv,List.append_assoc];rfl,by dsimp only;omega,nm [(100,41),(101,45)],Wk.of ?_⟩
          simp (disch:=omega) only [go_sem,Int.reduceEq,↓reduceIte,reduceCtorEq,Nat.reduceEqDiff,Nat.reduceLT,Nat.reduceLeDiff,Nat.reduceAdd,Nat.reduceSub,Nat.reduceMul,Int.reduceToNat,Int.reduceLE,Int.reduceLT,NHE,Sp_overdubkeep_Within,stPa,snoc_Ph]
          all_goals first|done|rfl|exact ⟨rfl,rfl⟩|exact ⟨rfl,rfl,rfl⟩
      | true =>
        simp only [if_true] at hv
        have w1:=within_rngh (v:=a) (n:=50) (by omega)
        have w3:=within_rngh (v:=b) (n:=4000) (by omega)
        as_aux_lemma =>
          repeat' first
 | refine AW.seq ?_
 | refine AW.block ?_
 | refine AW.regl NHE_ok [0,1,4,5,6,7,8,9,10,18,25] ?_
 | (refine AW.regc (id:=11) NHE_ok follows bb_overdublaw20_parts_11 (by kernel_rfl) [0,1,4,5,6,7,8,9,10,18,25] ?_)
 | refine then_n ?_
 | refine then_r ?_
 | refine then_x ?_
 | refine block_x ?_
 | refine block_o (by decide) ?_
 | refine block_n ?_
 | refine block_r ?_
 | refine AW.skip ?_
 | refine AW.ret ?_
 | refine AW.exit ?_
 | refine AW.cond rfl ?_ ?_
 | refine awl_none rfl ?_
 | refine awl_nil2 ?_
 | refine awl_some rfl rfl (Nat.le_of_ble_eq_true rfl) rfl rfl ?_ ?_
 | refine awc_none rfl ?_
 | exact each_nil
 | refine each_none rfl ?_ ?_
 | refine awc_leaf2 [some 38,some 39,some 40,some 41,some 42,some 43,some 44,some 45,some 6,some 7] cc_overdublaw20_parts_11 rfl (by kernel_rfl) (by kernel_rfl) ?_ ?_
 | (refine fun (hc : _ = _)=>?_;first|cases hc|((try rw [hc]);(try simp only [stH] at hc);(try (exfalso;omega)));(try ((first|show Awl _ _ _ _ _|show Awc _ _ _ _ _ _);simp only [stU])))
 | ((first|refine fun (K : V → List _ → _) hK=>?_|refine fun (_ : V → V)=>?_|refine fun (bb : Nat → Bool) K hK=>?_);simp (disch:=omega) only [go_sem,Int.reduceEq,↓reduceIte,reduceCtorEq,Nat.reduceEqDiff,Nat.reduceLT,Nat.reduceLeDiff,Nat.reduceAdd,Nat.reduceSub,Nat.reduceMul,Int.reduceToNat,Int.reduceLE,Int.reduceLT,NHE,Sp_overdubkeep_Within,stPa,e2,hr,hrm,Sg3,St.updIf,ifc_nil,gt_ifc,go_ifc,ite_self,Option.none_or,Option.some_or];(try (revert hK;intro hK;(repeat' first|(refine And.intro ?_ ?_)|(intro hc;first|cases hc|((try rw [hc]);(try simp only [stH] at hc);(try (exfalso;omega)))));all_goals first|(refine hK _ _ ?_;clear hK K;simp only [stU])|exact hK|omega)))
          refine ⟨(k + 1,r ++ [⟨i + (1 + within a 50),1 + within b 4000⟩],i + (1 + within a 50)),by dsimp only;omega,by dsimp only;omega,by simp [hr],by dsimp only;omega,by dsimp only;omega,by dsimp only;rw [hv,List.append_assoc];rfl,by dsimp only;omega,nm [(100,41),(101,45)],Wk.of ?_⟩
          simp (disch:=omega) only [go_sem,Int.reduceEq,↓reduceIte,reduceCtorEq,Nat.reduceEqDiff,Nat.reduceLT,Nat.reduceLeDiff,Nat.reduceAdd,Nat.reduceSub,Nat.reduceMul,Int.reduceToNat,Int.reduceLE,Int.reduceLT,NHE,Sp_overdubkeep_Within,stPa,snoc_Ph]
          all_goals first|done|rfl|exact ⟨rfl,rfl⟩|exact ⟨rfl,rfl,rfl⟩
    · have hz : paG rt 10 0 l = r:=by
        rw [hv]
        by_cases h : k < l.length
        · rw [show 10 - k = 0 by omega,paG_zero,List.append_nil]
        · rw [List.drop_eq_nil_iff.2 (by omega),paG_nil,List.append_nil]
      as_aux_lemma =>
        repeat' first
 | refine AW.seq ?_
 | refine AW.block ?_
 | refine AW.regl NHE_ok [0,1,4,5,6,7,8,9,10,18,25] ?_
 | (refine AW.regc (id:=11) NHE_ok follows bb_overdublaw20_parts_11 (by kernel_rfl) [0,1,4,5,6,7,8,9,10,18,25] ?_)
 | refine then_n ?_
 | refine then_r ?_
 | refine then_x ?_
 | refine block_x ?_
 | refine block_o (by decide) ?_
 | refine block_n ?_
 | refine block_r ?_
 | refine AW.skip ?_
 | refine AW.ret ?_
 | refine AW.exit ?_
 | refine AW.cond rfl ?_ ?_
 | refine awl_none rfl ?_
 | refine awl_nil2 ?_
 | refine awl_some rfl rfl (Nat.le_of_ble_eq_true rfl) rfl rfl ?_ ?_
 | refine awc_none rfl ?_
 | exact each_nil
 | refine each_none rfl ?_ ?_
 | refine awc_leaf2 [some 38,some 39,some 40,some 41,some 42,some 43,some 44,some 45,some 6,some 7] cc_overdublaw20_parts_11 rfl (by kernel_rfl) (by kernel_rfl) ?_ ?_
 | (refine fun (hc : _ = _)=>?_;first|cases hc|((try rw [hc]);(try simp only [stH] at hc);(try (exfalso;omega)));(try ((first|show Awl _ _ _ _ _|show Awc _ _ _ _ _ _);simp only [stU])))
 | ((first|refine fun (K : V → List _ → _) hK=>?_|refine fun (_ : V → V)=>?_|refine fun (bb : Nat → Bool) K hK=>?_);simp (disch:=omega) only [go_sem,Int.reduceEq,↓reduceIte,reduceCtorEq,Nat.reduceEqDiff,Nat.reduceLT,Nat.reduceLeDiff,Nat.reduceAdd,Nat.reduceSub,Nat.reduceMul,Int.reduceToNat,Int.reduceLE,Int.reduceLT,NHE,Sp_overdubkeep_Within,stPa,Sg3,St.updIf,ifc_nil,gt_ifc,go_ifc,ite_self,Option.none_or,Option.some_or];(try (revert hK;intro hK;(repeat' first|(refine And.intro ?_ ?_)|(intro hc;first|cases hc|((try rw [hc]);(try simp only [stH] at hc);(try (exfalso;omega)))));all_goals first|(refine hK _ _ ?_;clear hK K;simp only [stU])|exact hK|omega)))
        all_goals (refine Ends.of (nm [(0,100),(1,101)]) (by first|exact .inl rfl|exact .inr rfl) ?_;simp (disch:=omega) only [go_sem,Int.reduceEq,↓reduceIte,reduceCtorEq,Nat.reduceEqDiff,Nat.reduceLT,Nat.reduceLeDiff,Nat.reduceAdd,Nat.reduceSub,Nat.reduceMul,Int.reduceToNat,Int.reduceLE,Int.reduceLT,NHE,Sp_overdubkeep_Within,hz,hr,partsOut])
theorem ent_overdublaw20_parts : Ent Try.prog 29:=⟨_,Try.func29,rfl,by decide⟩
def seG (rt : Bool) (l : List Int) : List Int:=(l.take 6).map fun n=>if rt = true then 1 + within n 4000 else n
def Sp_overdublaw20_sectors (ds : List D) (out : Out) : Prop:=∃ (l : List Int) (rt : Bool),ds = [.list (l.map mI),.v (.bool rt)] ∧ l.length ≤ 9223372036854775807 ∧ out = ⟨.sl 0 1 0 (seG rt l).length true,[(0,.row 3 1 ((seG rt l).map mI))]⟩
def stSe (l : List Int) (rt : Bool) (k : Nat) : St:=⟨[(0,.d (.list (l.map mI))),(1,.d (.v (.bool rt))),(5,.sl 100 1 0 k true),(6,.d (.v (.int .i64 k)))],[(100,.row 3 1 (((l.take k).map fun n=>if rt = true then 1 + within n 4000 else n).map mI))],31⟩
theorem good_overdublaw20_sectors : Good Try.prog 32 Sp_overdublaw20_sectors:=by
  refine good_body (E:=NHE) (nt:=31) (rs:=#[.tmp 4]) Try.func32 rfl rfl rfl ?_
  rintro ds out ⟨l,rt,rfl,hl,rfl⟩
  refine ⟨by simp,?_⟩
  repeat' first
 | refine AW.seq ?_
 | refine AW.block ?_
 | refine AW.regl NHE_ok [0,1,4,5,6,7,15,22] ?_
 | refine then_n ?_
 | refine then_r ?_
 | refine then_x ?_
 | refine block_x ?_
 | refine block_o (by decide) ?_
 | refine block_n ?_
 | refine block_r ?_
 | refine AW.skip ?_
 | refine AW.ret ?_
 | refine AW.exit ?_
 | refine AW.cond rfl ?_ ?_
 | refine awl_none rfl ?_
 | refine awl_nil2 ?_
 | refine awl_some rfl rfl (Nat.le_of_ble_eq_true rfl) rfl rfl ?_ ?_
 | (refine fun (hc : _ = _)=>?_;first|cases hc|((try rw [hc]);(try simp only [stH] at hc);(try (exfalso;omega)));(try (show Awl _ _ _ _ _;simp only [stU])))
 | ((first|refine fun (K : V → List _ → _) hK=>?_|refine fun (_ : V → V)=>?_);simp (disch:=omega) only [go_sem,Int.reduceEq,↓reduceIte,reduceCtorEq,Nat.reduceEqDiff,Nat.reduceLT,Nat.reduceLeDiff,Nat.reduceAdd,Nat.reduceSub,Nat.reduceMul,Int.reduceToNat,Int.reduceLE,Int.reduceLT,NHE,Sp_overdubkeep_Within];(try (revert hK;intro hK;(repeat' first|(refine And.intro ?_ ?_)|(intro hc;first|cases hc|((try rw [hc]);(try simp only [stH] at hc);(try (exfalso;omega)))));all_goals first|(refine hK _ _ ?_;clear hK K;simp only [stU])|exact hK|omega)))
  refine AW.loop_wk (fun k : Nat=>stSe l rt k) (fun k=>k ≤ l.length ∧ k ≤ 6) (fun k=>l.length - k) 0 ⟨by omega,by omega⟩ (fun w0 oa a w hs=>Wk.sr (ρ:=nm []) (Wk.of ?_) (nil_sr 5 100 3 1 rfl (by simp) rfl (by decide) hs)) ?_
  · simp (disch:=omega) only [go_sem,Int.reduceEq,↓reduceIte,reduceCtorEq,Nat.reduceEqDiff,Nat.reduceLT,Nat.reduceLeDiff,Nat.reduceAdd,Nat.reduceSub,Nat.reduceMul,Int.reduceToNat,Int.reduceLE,Int.reduceLT,NHE,Sp_overdubkeep_Within,stSe]
    all_goals first|done|rfl|exact ⟨rfl,rfl⟩
  · rintro k ⟨hk,hk6⟩
    by_cases hk1 : k < l.length ∧ k < 6
    · have e2:=nth_I l k hk1.1
      have hs : (l.take (k + 1)).map (fun n=>if rt = true then 1 + within n 4000 else n) = (l.take k).map (fun n=>if rt = true then 1 + within n 4000 else n) ++ [if rt = true then 1 + within (l.getD k 0) 4000 else l.getD k 0]:=by rw [take_snocG l k 0 hk1.1,List.map_append];rfl
      obtain ⟨R,hR⟩ : ∃ R,(l.take k).map (fun n=>if rt = true then 1 + within n 4000 else n) = R:=⟨_,rfl⟩
      have hRl : R.length = k:=by rw [← hR,List.length_map,List.length_take];omega
      have hRm : (R.map mI).length = k:=by rw [List.length_map,hRl]
      rw [hR] at hs
      have h1:=hk1.1
      have h2:=hk1.2
      have w3:=within_rngh (v:=l.getD k 0) (n:=4000) (by omega)
      generalize l.getD k 0 = x at *
      have hst : stSe l rt k = ⟨[(0,.d (.list (l.map mI))),(1,.d (.v (.bool rt))),(5,.sl 100 1 0 k true),(6,.d (.v (.int .i64 k)))],[(100,.row 3 1 (R.map mI))],31⟩:=by rw [← hR];rfl
      have hst1 : stSe l rt (k + 1) = ⟨[(0,.d (.list (l.map mI))),(1,.d (.v (.bool rt))),(5,.sl 100 1 0 (k + 1) true),(6,.d (.v (.int .i64 (k + 1 : Nat))))],[(100,.row 3 1 ((R ++ [if rt = true then 1 + within x 4000 else x]).map mI))],31⟩:=by rw [← hs];rfl
      rw [hst]
      cases rt with
      | false =>
        simp only [Bool.false_eq_true,if_false] at hst1
        repeat' first
 | refine AW.seq ?_
 | refine AW.block ?_
 | refine AW.regl NHE_ok [0,1,4,5,6,7,15,22] ?_
 | refine then_n ?_
 | refine then_r ?_
 | refine then_x ?_
 | refine block_x ?_
 | refine block_o (by decide) ?_
 | refine block_n ?_
 | refine block_r ?_
 | refine AW.skip ?_
 | refine AW.ret ?_
 | refine AW.exit ?_
 | refine AW.cond rfl ?_ ?_
 | refine awl_none rfl ?_
 | refine awl_nil2 ?_
 | refine awl_some rfl rfl (Nat.le_of_ble_eq_true rfl) rfl rfl ?_ ?_
 | (refine fun (hc : _ = _)=>?_;first|cases hc|((try rw [hc]);(try simp only [stH] at hc);(try (exfalso;omega)));(try (show Awl _ _ _ _ _;simp only [stU])))
 | ((first|refine fun (K : V → List _ → _) hK=>?_|refine fun (_ : V → V)=>?_);simp (disch:=omega) only [go_sem,Int.reduceEq,↓reduceIte,reduceCtorEq,Nat.reduceEqDiff,Nat.reduceLT,Nat.reduceLeDiff,Nat.reduceAdd,Nat.reduceSub,Nat.reduceMul,Int.reduceToNat,Int.reduceLE,Int.reduceLT,NHE,Sp_overdubkeep_Within,e2,hRl,hRm];(try (revert hK;intro hK;(repeat' first|(refine And.intro ?_ ?_)|(intro hc;first|cases hc|((try rw [hc]);(try simp only [stH] at hc);(try (exfalso;omega)))));all_goals first|(refine hK _ _ ?_;clear hK K;simp only [stU])|exact hK|omega)))
        refine ⟨k + 1,by omega,by omega,by omega,nm [(100,29)],Wk.of ?_⟩
        rw [hst1]
        simp (disch:=omega) only [go_sem,Int.reduceEq,↓reduceIte,reduceCtorEq,Nat.reduceEqDiff,Nat.reduceLT,Nat.reduceLeDiff,Nat.reduceAdd,Nat.reduceSub,Nat.reduceMul,Int.reduceToNat,Int.reduceLE,Int.reduceLT,NHE,Sp_overdubkeep_Within,snoc_Ih]
        all_goals first|done|rfl|exact ⟨rfl,rfl⟩|exact ⟨rfl,rfl,rfl⟩
      | true =>
        simp only [if_true] at hst1
        repeat' first
 | refine AW.seq ?_
 | refine AW.block ?_
 | refine AW.regl NHE_ok [0,1,4,5,6,7,15,22] ?_
 | refine then_n ?_
 | refine then_r ?_
 | refine then_x ?_
 | refine block_x ?_
 | refine block_o (by decide) ?_
 | refine block_n ?_
 | refine block_r ?_
 | refine AW.skip ?_
 | refine AW.ret ?_
 | refine AW.exit ?_
 | refine AW.cond rfl ?_ ?_
 | refine awl_none rfl ?_
 | refine awl_nil2 ?_
 | refine awl_some rfl rfl (Nat.le_of_ble_eq_true rfl) rfl rfl ?_ ?_
 | (refine fun (hc : _ = _)=>?_;first|cases hc|((try rw [hc]);(try simp only [stH] at hc);(try (exfalso;omega)));(try (show Awl _ _ _ _ _;simp only [stU])))
 | ((first|refine fun (K : V → List _ → _) hK=>?_|refine fun (_ : V → V)=>?_);simp (disch:=omega) only [go_sem,Int.reduceEq,↓reduceIte,reduceCtorEq,Nat.reduceEqDiff,Nat.reduceLT,Nat.reduceLeDiff,Nat.reduceAdd,Nat.reduceSub,Nat.reduceMul,Int.reduceToNat,Int.reduceLE,Int.reduceLT,NHE,Sp_overdubkeep_Within,e2,hRl,hRm];(try (revert hK;intro hK;(repeat' first|(refine And.intro ?_ ?_)|(intro hc;first|cases hc|((try rw [hc]);(try simp only [stH] at hc);(try (exfalso;omega)))));all_goals first|(refine hK _ _ ?_;clear hK K;simp only [stU])|exact hK|omega)))
        refine ⟨k + 1,by omega,by omega,by omega,nm [(100,29)],Wk.of ?_⟩
        rw [hst1]
        simp (disch:=omega) only [go_sem,Int.reduceEq,↓reduceIte,reduceCtorEq,Nat.reduceEqDiff,Nat.reduceLT,Nat.reduceLeDiff,Nat.reduceAdd,Nat.reduceSub,Nat.reduceMul,Int.reduceToNat,Int.reduceLE,Int.reduceLT,NHE,Sp_overdubkeep_Within,snoc_Ih]
        all_goals first|done|rfl|exact ⟨rfl,rfl⟩|exact ⟨rfl,rfl,rfl⟩
    · have hz : seG rt l = (l.take k).map fun n=>if rt = true then 1 + within n 4000 else n:=by
        unfold seG
        congr 1
        by_cases h : k < l.length
        · rw [show k = 6 by omega]
        · rw [List.take_of_length_le (by omega),List.take_of_length_le (by omega)]
      have hzl : ((l.take k).map fun n=>if rt = true then 1 + within n 4000 else n).length = k:=by rw [List.length_map,List.length_take];omega
      repeat' first
 | refine AW.seq ?_
 | refine AW.block ?_
 | refine AW.regl NHE_ok [0,1,4,5,6,7,15,22] ?_
 | refine then_n ?_
 | refine then_r ?_
 | refine then_x ?_
 | refine block_x ?_
 | refine block_o (by decide) ?_
 | refine block_n ?_
 | refine block_r ?_
 | refine AW.skip ?_
 | refine AW.ret ?_
 | refine AW.exit ?_
 | refine AW.cond rfl ?_ ?_
 | refine awl_none rfl ?_
 | refine awl_nil2 ?_
 | refine awl_some rfl rfl (Nat.le_of_ble_eq_true rfl) rfl rfl ?_ ?_
 | (refine fun (hc : _ = _)=>?_;first|cases hc|((try rw [hc]);(try simp only [stH] at hc);(try (exfalso;omega)));(try (show Awl _ _ _ _ _;simp only [stU])))
 | ((first|refine fun (K : V → List _ → _) hK=>?_|refine fun (_ : V → V)=>?_);simp (disch:=omega) only [go_sem,Int.reduceEq,↓reduceIte,reduceCtorEq,Nat.reduceEqDiff,Nat.reduceLT,Nat.reduceLeDiff,Nat.reduceAdd,Nat.reduceSub,Nat.reduceMul,Int.reduceToNat,Int.reduceLE,Int.reduceLT,NHE,Sp_overdubkeep_Within,stSe];(try (revert hK;intro hK;(repeat' first|(refine And.intro ?_ ?_)|(intro hc;first|cases hc|((try rw [hc]);(try simp only [stH] at hc);(try (exfalso;omega)))));all_goals first|(refine hK _ _ ?_;clear hK K;simp only [stU])|exact hK|omega)))
      all_goals (refine Ends.of (nm [(0,100)]) (by first|exact .inl rfl|exact .inr rfl) ?_;simp (disch:=omega) only [go_sem,Int.reduceEq,↓reduceIte,reduceCtorEq,Nat.reduceEqDiff,Nat.reduceLT,Nat.reduceLeDiff,Nat.reduceAdd,Nat.reduceSub,Nat.reduceMul,Int.reduceToNat,Int.reduceLE,Int.reduceLT,NHE,Sp_overdubkeep_Within,hz,hzl])
theorem ent_overdublaw20_sectors : Ent Try.prog 32:=⟨_,Try.func32,rfl,by decide⟩
end Go.Proofs.Ytigkcigoiinkpaa.Am
