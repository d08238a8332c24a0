import Derived.Test.YtigkcigoiinkpaaZN1
import Derived.Test.YtigkcigoiinkpaaZZA
set_option linter.unusedVariables false
set_option linter.unusedSimpArgs false
set_option maxRecDepth 10000
set_option maxHeartbeats 0
namespace Go.Proofs.Ytigkcigoiinkpaa.Am
open Go Go.RowKit Go.Proofs
structure Pa where
  a : Int
  b : Int
def p0 : Pa:=⟨0,0⟩
def pD (p : Pa) : D:=.agg [.v (.int .i64 p.a),.v (.int .i64 p.b)]
def itP (p : Pa) : List Int:=putB (max 0 p.a) 2 ++ putB (max 0 p.b) 2
def psB (l : List Pa) : List Int:=l.flatMap itP
theorem itP_len (p : Pa) : (itP p).length = 4:=by simp [itP,putB_len]
theorem psB_len (l : List Pa) : (psB l).length = 4 * l.length:=by
  induction l with
  | nil=>rfl
  | cons p r ih =>
    have e : psB (p :: r) = itP p ++ psB r:=rfl
    rw [e,List.length_append,itP_len,ih,List.length_cons];omega
theorem putB_byt (n : Int) (w : Nat) : Byt (putB n w):=by rw [putB_leB];exact leB_byt _ _
theorem psB_byt (l : List Pa) : Byt (psB l):=by
  intro x hx
  obtain ⟨p,_,hp⟩:=List.mem_flatMap.1 hx
  exact byt_append (putB_byt _ _) (putB_byt _ _) x hp
theorem psB_snoc (l : List Pa) (p : Pa) : psB (l ++ [p]) = psB l ++ itP p:=by simp [psB]
theorem take_snocG {α : Type} (l : List α) (k : Nat) (d : α) (h : k < l.length) : l.take (k + 1) = l.take k ++ [l.getD k d]:=by
  rw [List.take_succ_eq_append_getElem h];simp [List.getD_eq_getElem?_getD,h]
theorem nth_P (l : List Pa) (i : Nat) (h : i < l.length) : nth (l.map pD) i = pD (l.getD i p0):=nth_map pD l i p0 h
theorem pD_inj (l m : List Pa) : (l.map pD = m.map pD) = (l = m):=by
  apply propext
  refine ⟨fun h=>?_,fun h=>by rw [h]⟩
  have : ∀ a b : Pa,pD a = pD b → a = b:=by
    rintro ⟨a,b⟩ ⟨c,d⟩ h
    simp [pD] at h
    rw [h.1,h.2]
  induction l generalizing m with
  | nil=>cases m with|nil=>rfl|cons _ _=>simp at h
  | cons a r ih =>
    cases m with
    | nil=>simp at h
    | cons b s =>
      simp only [List.map_cons,List.cons.injEq] at h
      rw [this a b h.1,ih s h.2]
def okP (l : List Pa) (i : Nat) : Prop:=0 ≤ (l.getD i p0).a ∧ (l.getD i p0).a < 65536 ∧ secN (l.getD i p0).b ∧ (0 < i → (l.getD (i - 1) p0).a < (l.getD i p0).a)
def mayN (l : List Pa) : Prop:=1 ≤ l.length ∧ l.length ≤ 8 ∧ ∀ i,i < l.length → okP l i
open Classical in
noncomputable def packNOut (l : List Pa) : Out:=if mayN l then ⟨.tup [.sl 0 1 0 128 true,.d (.v (.bool true))],[(0,.row 5 1 ((nodP 2 l.length (psB l)).map mB))]⟩ else ⟨.tup [.nil,.d (.v (.bool false))],[]⟩
theorem Y2n (a b : List Int) (l : List (List Int)) : ([D.list (a.map mB),D.list (b.map mB)] = l.map bys) = (l = [a,b]):=by
  rw [show [D.list (a.map mB),D.list (b.map mB)] = [a,b].map bys from rfl,Y_inj]
  exact propext eq_comm
theorem wd_2n : wd 2 = 2:=rfl
theorem wd_1n : wd 1 = 1:=rfl
theorem putB_taken (n : Int) (m : Nat) : ((putB n m).map mB).take m = (putB n m).map mB:=List.take_of_length_le (by simp [putB])
noncomputable def N3 : Env:=⟨Try.prog,fun f ds out=>(f = 47 ∧ Sp_node_sector ds out) ∨ (f = 49 ∧ Sp_field_Put ds out) ∨ (f = 48 ∧ Sp_field_Join ds out) ∨ (f = 50 ∧ Sp_node_seal ds out),Es,fun _=>false⟩
theorem N3_sp : ∀ f ds out,N3.Sp f ds out → Ent N3.P f ∧ Good N3.P f (fun a b=>a = ds ∧ b = out):=by
  rintro f ds out (⟨rfl,h⟩|⟨rfl,h⟩|⟨rfl,h⟩|⟨rfl,h⟩)
  · exact ⟨ent_node_sector,good_node_sector.one h⟩
  · exact ⟨ent_field_Put,good_field_Put.one h⟩
  · exact ⟨ent_field_Join,good_field_Join.one h⟩
  · exact ⟨ent_node_seal,good_node_seal.one h⟩
theorem N3_ok : N3.Ok:=⟨N3_sp,Es_ok⟩
def Sp_node_PackNode (ds : List D) (out : Out) : Prop:=∃ l : List Pa,ds = [.list (l.map pD)] ∧ l.length ≤ 9223372036854775807 ∧ out = packNOut l
def bb_node_PackNode_7 : List Nat:=[0,1,3,7,15,31,63,127,255,511,1023,2047,4095,8191,16383,32767,65535,131071,262143,524287,262143,262143,2359295,7602175,15990783,32767999,67108863,134217727,268435455]
def bb_node_PackNode_9 : List Nat:=[0,0,2,6,0,16,62,126,254,511,1023]
def cc_node_PackNode_9 : List (List (Option Bool)):=[[some false,none,none,none,none,none,none,none,none,some false,some false],[none,some false,some false,some false,none,none,some false,some false,some false,some false,some false],[none,some true,some false,some false,none,none,some false,some false,some false,some false,some false],[none,some true,some true,some false,none,none,some false,some false,some false,some false,some false],[none,none,none,none,some false,some false,some false,some false,some false,some false,some false],[none,none,none,none,some true,some false,some false,some false,some false,some false,some false],[none,some true,some true,some true,some true,some true,some false,some false,some false,some false,some false],[none,some true,some true,some true,some true,some true,some true,some false,some false,some false,some false],[none,some true,some true,some true,some true,some true,some true,some true,some false,some false,some false],[some true,some true,some true,some true,some true,some true,some true,some true,some true,some false,some false],[some true,some true,some true,some true,some true,some true,some true,some true,some true,some true,some false]]
theorem good_node_PackNode : Good Try.prog 21 Sp_node_PackNode:=by
  refine good_body (E:=N3) (nt:=66) (rs:=#[.tmp 2,.tmp 3]) Try.func21 rfl rfl rfl ?_
  rintro ds out ⟨l,rfl,hl,rfl⟩
  refine ⟨by simp,?_⟩
  by_cases hlen : 1 ≤ l.length ∧ l.length ≤ 8
  case neg =>
    have hz : packNOut l = ⟨.tup [.nil,.d (.v (.bool false))],[]⟩:=if_neg fun h=>hlen ⟨h.1,h.2.1⟩
    repeat' first
 | refine AW.seq ?_
 | refine AW.block ?_
 | refine AW.regl N3_ok [0,2,3,4,5,6,14,15,16,17,18,50] ?_
 | (refine AW.regq (id:=7) N3_ok follows bb_node_PackNode_7 (by kernel_rfl) [0,2,3,4,5,6,14,15,16,17,18,50] ?_)
 | (refine AW.regc (id:=9) N3_ok follows bb_node_PackNode_9 (by kernel_rfl) [0,2,3,4,5,6,14,15,16,17,18,50] ?_)
 | refine then_n ?_
 | refine then_r ?_
 | refine then_x ?_
 | refine block_x ?_
 | refine block_o (by decide) ?_
 | refine block_n ?_
 | refine block_r ?_
 | refine AW.skip ?_
 | refine AW.ret ?_
 | refine AW.exit ?_
 | refine AW.cond rfl ?_ ?_
 | refine awl_none rfl ?_
 | refine awl_nil2 ?_
 | refine awl_some rfl rfl (Nat.le_of_ble_eq_true rfl) rfl rfl ?_ ?_
 | refine awc_none rfl ?_
 | refine awc_some rfl rfl (Nat.le_of_ble_eq_true rfl) rfl rfl ?_ ?_
 | (refine awc_skip rfl rfl (Nat.le_of_ble_eq_true rfl) rfl rfl ?_;simp only [stU])
 | exact each_nil
 | refine each_none rfl ?_ ?_
 | refine awc_nilq (by kernel_rfl) (by kernel_rfl) ?_
 | refine awc_leaf2 [some 51,some 52,some 53,some 54,some 55,some 56,some 57,some 58,some 59,some 60,some 4] cc_node_PackNode_9 rfl (by kernel_rfl) (by kernel_rfl) ?_ ?_
 | (refine fun (hc : _ = _)=>?_;first|cases hc|((try rw [hc]);(try simp only [stH] at hc);(try (exfalso;omega)));(try ((first|show Awl _ _ _ _ _|show Awc _ _ _ _ _ _);simp only [stU])))
 | ((first|refine fun (K : V → List _ → _) hK=>?_|refine fun (_ : V → V)=>?_|refine fun (bb : Nat → Bool) K hK=>?_);simp (disch:=omega) only [go_sem,Int.reduceEq,↓reduceIte,reduceCtorEq,Nat.reduceEqDiff,Nat.reduceLT,Nat.reduceLeDiff,Nat.reduceAdd,Nat.reduceSub,Nat.reduceMul,Int.reduceToNat,Int.reduceLE,Int.reduceLT,N3,Sp_node_sector,Sp_field_Put,Sp_field_Join,Sp_node_seal,Sg3,St.updIf,ifc_nil,gt_ifc,go_ifc,ite_self,Option.none_or,Option.some_or];(try (revert hK;intro hK;(repeat' first|(refine And.intro ?_ ?_)|(intro hc;first|cases hc|((try rw [hc]);(try simp only [stH] at hc);(try (exfalso;omega)))));all_goals first|(refine hK _ _ ?_;clear hK K;simp only [stU])|exact hK|omega)))
    all_goals (refine Ends.of (nm []) (by first|exact .inl rfl|exact .inr rfl) ?_;simp (disch:=omega) only [go_sem,Int.reduceEq,↓reduceIte,reduceCtorEq,Nat.reduceEqDiff,Nat.reduceLT,Nat.reduceLeDiff,Nat.reduceAdd,Nat.reduceSub,Nat.reduceMul,Int.reduceToNat,Int.reduceLE,Int.reduceLT,N3,Sp_node_sector,Sp_field_Put,Sp_field_Join,Sp_node_seal,hz])
  repeat' first
 | refine AW.seq ?_
 | refine AW.block ?_
 | refine AW.regl N3_ok [0,2,3,4,5,6,14,15,16,17,18,50] ?_
 | (refine AW.regq (id:=7) N3_ok follows bb_node_PackNode_7 (by kernel_rfl) [0,2,3,4,5,6,14,15,16,17,18,50] ?_)
 | (refine AW.regc (id:=9) N3_ok follows bb_node_PackNode_9 (by kernel_rfl) [0,2,3,4,5,6,14,15,16,17,18,50] ?_)
 | refine then_n ?_
 | refine then_r ?_
 | refine then_x ?_
 | refine block_x ?_
 | refine block_o (by decide) ?_
 | refine block_n ?_
 | refine block_r ?_
 | refine AW.skip ?_
 | refine AW.ret ?_
 | refine AW.exit ?_
 | refine AW.cond rfl ?_ ?_
 | refine awl_none rfl ?_
 | refine awl_nil2 ?_
 | refine awl_some rfl rfl (Nat.le_of_ble_eq_true rfl) rfl rfl ?_ ?_
 | refine awc_none rfl ?_
 | refine awc_some rfl rfl (Nat.le_of_ble_eq_true rfl) rfl rfl ?_ ?_
 | (refine awc_skip rfl rfl (Nat.le_of_ble_eq_true rfl) rfl rfl ?_;simp only [stU])
 | exact each_nil
 | refine each_none rfl ?_ ?_
 | refine awc_nilq (by kernel_rfl) (by kernel_rfl) ?_
 | refine awc_leaf2 [some 51,some 52,some 53,some 54,some 55,some 56,some 57,some 58,some 59,some 60,some 4] cc_node_PackNode_9 rfl (by kernel_rfl) (by kernel_rfl) ?_ ?_
 | (refine fun (hc : _ = _)=>?_;first|cases hc|((try rw [hc]);(try simp only [stH] at hc);(try (exfalso;omega)));(try ((first|show Awl _ _ _ _ _|show Awc _ _ _ _ _ _);simp only [stU])))
 | ((first|refine fun (K : V → List _ → _) hK=>?_|refine fun (_ : V → V)=>?_|refine fun (bb : Nat → Bool) K hK=>?_);simp (disch:=omega) only [go_sem,Int.reduceEq,↓reduceIte,reduceCtorEq,Nat.reduceEqDiff,Nat.reduceLT,Nat.reduceLeDiff,Nat.reduceAdd,Nat.reduceSub,Nat.reduceMul,Int.reduceToNat,Int.reduceLE,Int.reduceLT,N3,Sp_node_sector,Sp_field_Put,Sp_field_Join,Sp_node_seal,Sg3,St.updIf,ifc_nil,gt_ifc,go_ifc,ite_self,Option.none_or,Option.some_or];(try (revert hK;intro hK;(repeat' first|(refine And.intro ?_ ?_)|(intro hc;first|cases hc|((try rw [hc]);(try simp only [stH] at hc);(try (exfalso;omega)))));all_goals first|(refine hK _ _ ?_;clear hK K;simp only [stU])|exact hK|omega)))
  refine AW.loop_wk (fun k : Nat=>⟨[(0,.d (.list (l.map pD))),(2,.nil),(3,.d (.v (.bool false))),(4,.sl 100 1 0 (4 * k) true),(15,.d (.list (l.map pD))),(16,.d (.v (.int .i64 l.length))),(17,.d (.v (.int .i64 k)))],[(100,.row 5 1 ((psB (l.take k)).map mB))],66⟩)
    (fun k=>k ≤ l.length ∧ ∀ i,i < k → okP l i) (fun k=>l.length - k) 0 ⟨by omega,fun i hi=>by omega⟩ (fun w0 oa a w hs=>Wk.sr (ρ:=nm []) (Wk.of ?_) (nil_sr 4 100 5 1 rfl (by simp) rfl (by decide) hs)) ?_
  · simp (disch:=omega) only [go_sem,Int.reduceEq,↓reduceIte,reduceCtorEq,Nat.reduceEqDiff,Nat.reduceLT,Nat.reduceLeDiff,Nat.reduceAdd,Nat.reduceSub,Nat.reduceMul,Int.reduceToNat,Int.reduceLE,Int.reduceLT,N3,Sp_node_sector,Sp_field_Put,Sp_field_Join,Sp_node_seal]
    first|done|exact ⟨rfl,rfl⟩|rfl
  · rintro k ⟨hk,hok⟩
    by_cases hk1 : k < l.length
    · have e2:=nth_P l k hk1
      have hpl : (psB (l.take k)).length = 4 * k:=by rw [psB_len,List.length_take];omega
      have e4 : psB (l.take (k + 1)) = psB (l.take k) ++ itP (l.getD k p0):=by rw [take_snocG l k p0 hk1,psB_snoc]
      have e3 : 0 < k → nth (l.map pD) ((k : Int) - 1).toNat = pD (l.getD (k - 1) p0):=fun h=>by rw [show ((k : Int) - 1).toNat = k - 1 by omega];exact nth_P l _ (by omega)
      have hokk : okP l k ↔ 0 ≤ (l.getD k p0).a ∧ (l.getD k p0).a < 65536 ∧ secN (l.getD k p0).b ∧ (0 < k → (l.getD (k - 1) p0).a < (l.getD k p0).a):=Iff.rfl
      have hitp : putB (max 0 (l.getD k p0).a) 2 ++ putB (max 0 (l.getD k p0).b) 2 = itP (l.getD k p0):=rfl
      have hil:=itP_len (l.getD k p0)
      have hit : ((itP (l.getD k p0)).map mB).take 4 = (itP (l.getD k p0)).map mB:=List.take_of_length_le (by rw [List.length_map,hil];omega)
      obtain ⟨I,hI⟩ : ∃ I,itP (l.getD k p0) = I:=⟨_,rfl⟩
      rw [hI] at hitp hil hit e4
      clear hI
      generalize l.getD k p0 = P at *
      generalize l.getD (k - 1) p0 = Q at *
      obtain ⟨a,b⟩:=P
      obtain ⟨q,qb⟩:=Q
      dsimp only at hokk hitp
      replace e2 : nth (l.map pD) k = .agg [.v (.int .i64 a),.v (.int .i64 b)]:=e2
      replace e3 : 0 < k → nth (l.map pD) ((k : Int) - 1).toNat = .agg [.v (.int .i64 q),.v (.int .i64 qb)]:=e3
      have hcs : (a < 0) ∨ (¬ a < 0 ∧ 65536 ≤ a) ∨ (¬ a < 0 ∧ ¬ 65536 ≤ a ∧ ¬ secN b) ∨ (¬ a < 0 ∧ ¬ 65536 ≤ a ∧ secN b ∧ 0 < k ∧ a ≤ q) ∨ (¬ a < 0 ∧ ¬ 65536 ≤ a ∧ secN b ∧ ¬ 0 < k) ∨ (¬ a < 0 ∧ ¬ 65536 ≤ a ∧ secN b ∧ 0 < k ∧ ¬ a ≤ q):=by
        by_cases hs : secN b
        · simp only [hs,true_and,not_true_eq_false,and_false,false_or];omega
        · simp only [hs,not_false_eq_true,and_true,false_and,and_false,or_false];omega
      rcases hcs with h1|⟨h1,h2⟩|⟨h1,h2,h3⟩|⟨h1,h2,h3,h4,h5⟩|⟨h1,h2,h3,h4⟩|⟨h1,h2,h3,h4,h5⟩
      · have hz : packNOut l = ⟨.tup [.nil,.d (.v (.bool false))],[]⟩:=if_neg fun h=>by have:=hokk.1 (h.2.2 k hk1);omega
        have d1 : decide (a < 0) = true:=decide_eq_true h1
        clear e3 e4 hok
        repeat' first
 | refine AW.seq ?_
 | refine AW.block ?_
 | refine AW.regl N3_ok [0,2,3,4,5,6,14,15,16,17,18,50] ?_
 | (refine AW.regq (id:=7) N3_ok follows bb_node_PackNode_7 (by kernel_rfl) [0,2,3,4,5,6,14,15,16,17,18,50] ?_)
 | (refine AW.regc (id:=9) N3_ok follows bb_node_PackNode_9 (by kernel_rfl) [0,2,3,4,5,6,14,15,16,17,18,50] ?_)
 | refine then_n ?_
 | refine then_r ?_
 | refine then_x ?_
 | refine block_x ?_
 | refine block_o (by decide) ?_
 | refine block_n ?_
 | refine block_r ?_
 | refine AW.skip ?_
 | refine AW.ret ?_
 | refine AW.exit ?_
 | refine AW.cond rfl ?_ ?_
 | refine awl_none rfl ?_
 | refine awl_nil2 ?_
 | refine awl_some rfl rfl (Nat.le_of_ble_eq_true rfl) rfl rfl ?_ ?_
 | refine awc_none rfl ?_
 | refine awc_some rfl rfl (Nat.le_of_ble_eq_true rfl) rfl rfl ?_ ?_
 | (refine awc_skip rfl rfl (Nat.le_of_ble_eq_true rfl) rfl rfl ?_;simp only [stU])
 | exact each_nil
 | refine each_none rfl ?_ ?_
 | refine awc_nilq (by kernel_rfl) (by kernel_rfl) ?_
 | refine awc_leaf2 [some 51,some 52,some 53,some 54,some 55,some 56,some 57,some 58,some 59,some 60,some 4] cc_node_PackNode_9 rfl (by kernel_rfl) (by kernel_rfl) ?_ ?_
 | (refine fun (hc : _ = _)=>?_;first|cases hc|((try rw [hc]);(try simp only [stH] at hc);(try (exfalso;omega)));(try ((first|show Awl _ _ _ _ _|show Awc _ _ _ _ _ _);simp only [stU])))
 | ((first|refine fun (K : V → List _ → _) hK=>?_|refine fun (_ : V → V)=>?_|refine fun (bb : Nat → Bool) K hK=>?_);simp (disch:=omega) only [go_sem,Int.reduceEq,↓reduceIte,reduceCtorEq,Nat.reduceEqDiff,Nat.reduceLT,Nat.reduceLeDiff,Nat.reduceAdd,Nat.reduceSub,Nat.reduceMul,Int.reduceToNat,Int.reduceLE,Int.reduceLT,N3,Sp_node_sector,Sp_field_Put,Sp_field_Join,Sp_node_seal,e2,d1,Sg3,St.updIf,ifc_nil,gt_ifc,go_ifc,ite_self,Option.none_or,Option.some_or];(try (revert hK;intro hK;(repeat' first|(refine And.intro ?_ ?_)|(intro hc;first|cases hc|((try rw [hc]);(try simp only [stH] at hc);(try (exfalso;omega)))));all_goals first|(refine hK _ _ ?_;clear hK K;simp only [stU])|exact hK|omega)))
        (refine Ends.of (nm []) (by first|exact .inl rfl|exact .inr rfl) ?_;simp (disch:=omega) only [go_sem,Int.reduceEq,↓reduceIte,reduceCtorEq,Nat.reduceEqDiff,Nat.reduceLT,Nat.reduceLeDiff,Nat.reduceAdd,Nat.reduceSub,Nat.reduceMul,Int.reduceToNat,Int.reduceLE,Int.reduceLT,N3,Sp_node_sector,Sp_field_Put,Sp_field_Join,Sp_node_seal,hz])
      · have hz : packNOut l = ⟨.tup [.nil,.d (.v (.bool false))],[]⟩:=if_neg fun h=>by have:=hokk.1 (h.2.2 k hk1);omega
        have d1 : decide (a < 0) = false:=decide_eq_false h1
        have d2 : decide (65536 ≤ a) = true:=decide_eq_true h2
        clear e3 e4 hok
        repeat' first
 | refine AW.seq ?_
 | refine AW.block ?_
 | refine AW.regl N3_ok [0,2,3,4,5,6,14,15,16,17,18,50] ?_
 | (refine AW.regq (id:=7) N3_ok follows bb_node_PackNode_7 (by kernel_rfl) [0,2,3,4,5,6,14,15,16,17,18,50] ?_)
 | (refine AW.regc (id:=9) N3_ok follows bb_node_PackNode_9 (by kernel_rfl) [0,2,3,4,5,6,14,15,16,17,18,50] ?_)
 | refine then_n ?_
 | refine then_r ?_
 | refine then_x ?_
 | refine block_x ?_
 | refine block_o (by decide) ?_
 | refine block_n ?_
 | refine block_r ?_
 | refine AW.skip ?_
 | refine AW.ret ?_
 | refine AW.exit ?_
 | refine AW.cond rfl ?_ ?_
 | refine awl_none rfl ?_
 | refine awl_nil2 ?_
 | refine awl_some rfl rfl (Nat.le_of_ble_eq_true rfl) rfl rfl ?_ ?_
 | refine awc_none rfl ?_
 | refine awc_some rfl rfl (Nat.le_of_ble_eq_true rfl) rfl rfl ?_ ?_
 | (refine awc_skip rfl rfl (Nat.le_of_ble_eq_true rfl) rfl rfl ?_;simp only [stU])
 | exact each_nil
 | refine each_none rfl ?_ ?_
 | refine awc_nilq (by kernel_rfl) (by kernel_rfl) ?_
 | refine awc_leaf2 [some 51,some 52,some 53,some 54,some 55,some 56,some 57,some 58,some 59,some 60,some 4] cc_node_PackNode_9 rfl (by kernel_rfl) (by kernel_rfl) ?_ ?_
 | (refine fun (hc : _ = _)=>?_;first|cases hc|((try rw [hc]);(try simp only [stH] at hc);(try (exfalso;omega)));(try ((first|show Awl _ _ _ _ _|show Awc _ _ _ _ _ _);simp only [stU])))
 | ((first|refine fun (K : V → List _ → _) hK=>?_|refine fun (_ : V → V)=>?_|refine fun (bb : Nat → Bool) K hK=>?_);simp (disch:=omega) only [go_sem,Int.reduceEq,↓reduceIte,reduceCtorEq,Nat.reduceEqDiff,Nat.reduceLT,Nat.reduceLeDiff,Nat.reduceAdd,Nat.reduceSub,Nat.reduceMul,Int.reduceToNat,Int.reduceLE,Int.reduceLT,N3,Sp_node_sector,Sp_field_Put,Sp_field_Join,Sp_node_seal,e2,d1,d2,Sg3,St.updIf,ifc_nil,gt_ifc,go_ifc,ite_self,Option.none_or,Option.some_or];(try (revert hK;intro hK;(repeat' first|(refine And.intro ?_ ?_)|(intro hc;first|cases hc|((try rw [hc]);(try simp only [stH] at hc);(try (exfalso;omega)))));all_goals first|(refine hK _ _ ?_;clear hK K;simp only [stU])|exact hK|omega)))
        (refine Ends.of (nm []) (by first|exact .inl rfl|exact .inr rfl) ?_;simp (disch:=omega) only [go_sem,Int.reduceEq,↓reduceIte,reduceCtorEq,Nat.reduceEqDiff,Nat.reduceLT,Nat.reduceLeDiff,Nat.reduceAdd,Nat.reduceSub,Nat.reduceMul,Int.reduceToNat,Int.reduceLE,Int.reduceLT,N3,Sp_node_sector,Sp_field_Put,Sp_field_Join,Sp_node_seal,hz])
      · have hz : packNOut l = ⟨.tup [.nil,.d (.v (.bool false))],[]⟩:=if_neg fun h=>h3 (hokk.1 (h.2.2 k hk1)).2.2.1
        have d1 : decide (a < 0) = false:=decide_eq_false h1
        have d2 : decide (65536 ≤ a) = false:=decide_eq_false h2
        have d3 : decide (secN b) = false:=decide_eq_false h3
        clear e3 e4 hok h3
        repeat' first
 | refine AW.seq ?_
 | refine AW.block ?_
 | refine AW.regl N3_ok [0,2,3,4,5,6,14,15,16,17,18,50] ?_
 | (refine AW.regq (id:=7) N3_ok follows bb_node_PackNode_7 (by kernel_rfl) [0,2,3,4,5,6,14,15,16,17,18,50] ?_)
 | (refine AW.regc (id:=9) N3_ok follows bb_node_PackNode_9 (by kernel_rfl) [0,2,3,4,5,6,14,15,16,17,18,50] ?_)
 | refine then_n ?_
 | refine then_r ?_
 | refine then_x ?_
 | refine block_x ?_
 | refine block_o (by decide) ?_
 | refine block_n ?_
 | refine block_r ?_
 | refine AW.skip ?_
 | refine AW.ret ?_
 | refine AW.exit ?_
 | refine AW.cond rfl ?_ ?_
 | refine awl_none rfl ?_
 | refine awl_nil2 ?_
 | refine awl_some rfl rfl (Nat.le_of_ble_eq_true rfl) rfl rfl ?_ ?_
 | refine awc_none rfl ?_
 | refine awc_some rfl rfl (Nat.le_of_ble_eq_true rfl) rfl rfl ?_ ?_
 | (refine awc_skip rfl rfl (Nat.le_of_ble_eq_true rfl) rfl rfl ?_;simp only [stU])
 | exact each_nil
 | refine each_none rfl ?_ ?_
 | refine awc_nilq (by kernel_rfl) (by kernel_rfl) ?_
 | refine awc_leaf2 [some 51,some 52,some 53,some 54,some 55,some 56,some 57,some 58,some 59,some 60,some 4] cc_node_PackNode_9 rfl (by kernel_rfl) (by kernel_rfl) ?_ ?_
 | (refine fun (hc : _ = _)=>?_;first|cases hc|((try rw [hc]);(try simp only [stH] at hc);(try (exfalso;omega)));(try ((first|show Awl _ _ _ _ _|show Awc _ _ _ _ _ _);simp only [stU])))
 | ((first|refine fun (K : V → List _ → _) hK=>?_|refine fun (_ : V → V)=>?_|refine fun (bb : Nat → Bool) K hK=>?_);simp (disch:=omega) only [go_sem,Int.reduceEq,↓reduceIte,reduceCtorEq,Nat.reduceEqDiff,Nat.reduceLT,Nat.reduceLeDiff,Nat.reduceAdd,Nat.reduceSub,Nat.reduceMul,Int.reduceToNat,Int.reduceLE,Int.reduceLT,N3,Sp_node_sector,Sp_field_Put,Sp_field_Join,Sp_node_seal,e2,d1,d2,d3,Sg3,St.updIf,ifc_nil,gt_ifc,go_ifc,ite_self,Option.none_or,Option.some_or];(try (revert hK;intro hK;(repeat' first|(refine And.intro ?_ ?_)|(intro hc;first|cases hc|((try rw [hc]);(try simp only [stH] at hc);(try (exfalso;omega)))));all_goals first|(refine hK _ _ ?_;clear hK K;simp only [stU])|exact hK|omega)))
        (refine Ends.of (nm []) (by first|exact .inl rfl|exact .inr rfl) ?_;simp (disch:=omega) only [go_sem,Int.reduceEq,↓reduceIte,reduceCtorEq,Nat.reduceEqDiff,Nat.reduceLT,Nat.reduceLeDiff,Nat.reduceAdd,Nat.reduceSub,Nat.reduceMul,Int.reduceToNat,Int.reduceLE,Int.reduceLT,N3,Sp_node_sector,Sp_field_Put,Sp_field_Join,Sp_node_seal,hz])
      · have hz : packNOut l = ⟨.tup [.nil,.d (.v (.bool false))],[]⟩:=if_neg fun h=>by have:=(hokk.1 (h.2.2 k hk1)).2.2.2 h4;omega
        have e3':=e3 h4
        have d1 : decide (a < 0) = false:=decide_eq_false h1
        have d2 : decide (65536 ≤ a) = false:=decide_eq_false h2
        have d3 : decide (secN b) = true:=decide_eq_true h3
        have d4 : decide (0 < (k : Int)) = true:=decide_eq_true (by omega)
        have d5 : decide (a ≤ q) = true:=decide_eq_true h5
        clear e4 hok h3
        repeat' first
 | refine AW.seq ?_
 | refine AW.block ?_
 | refine AW.regl N3_ok [0,2,3,4,5,6,14,15,16,17,18,50] ?_
 | (refine AW.regq (id:=7) N3_ok follows bb_node_PackNode_7 (by kernel_rfl) [0,2,3,4,5,6,14,15,16,17,18,50] ?_)
 | (refine AW.regc (id:=9) N3_ok follows bb_node_PackNode_9 (by kernel_rfl) [0,2,3,4,5,6,14,15,16,17,18,50] ?_)
 | refine then_n ?_
 | refine then_r ?_
 | refine then_x ?_
 | refine block_x ?_
 | refine block_o (by decide) ?_
 | refine block_n ?_
 | refine block_r ?_
 | refine AW.skip ?_
 | refine AW.ret ?_
 | refine AW.exit ?_
 | refine AW.cond rfl ?_ ?_
 | refine awl_none rfl ?_
 | refine awl_nil2 ?_
 | refine awl_some rfl rfl (Nat.le_of_ble_eq_true rfl) rfl rfl ?_ ?_
 | refine awc_none rfl ?_
 | refine awc_some rfl rfl (Nat.le_of_ble_eq_true rfl) rfl rfl ?_ ?_
 | (refine awc_skip rfl rfl (Nat.le_of_ble_eq_true rfl) rfl rfl ?_;simp only [stU])
 | exact each_nil
 | refine each_none rfl ?_ ?_
 | refine awc_nilq (by kernel_rfl) (by kernel_rfl) ?_
 | refine awc_leaf2 [some 51,some 52,some 53,some 54,some 55,some 56,some 57,some 58,some 59,some 60,some 4] cc_node_PackNode_9 rfl (by kernel_rfl) (by kernel_rfl) ?_ ?_
 | (refine fun (hc : _ = _)=>?_;first|cases hc|((try rw [hc]);(try simp only [stH] at hc);(try (exfalso;omega)));(try ((first|show Awl _ _ _ _ _|show Awc _ _ _ _ _ _);simp only [stU])))
 | ((first|refine fun (K : V → List _ → _) hK=>?_|refine fun (_ : V → V)=>?_|refine fun (bb : Nat → Bool) K hK=>?_);simp (disch:=omega) only [go_sem,Int.reduceEq,↓reduceIte,reduceCtorEq,Nat.reduceEqDiff,Nat.reduceLT,Nat.reduceLeDiff,Nat.reduceAdd,Nat.reduceSub,Nat.reduceMul,Int.reduceToNat,Int.reduceLE,Int.reduceLT,N3,Sp_node_sector,Sp_field_Put,Sp_field_Join,Sp_node_seal,e2,e3',d1,d2,d3,d4,d5,Sg3,St.updIf,ifc_nil,gt_ifc,go_ifc,ite_self,Option.none_or,Option.some_or];(try (revert hK;intro hK;(repeat' first|(refine And.intro ?_ ?_)|(intro hc;first|cases hc|((try rw [hc]);(try simp only [stH] at hc);(try (exfalso;omega)))));all_goals first|(refine hK _ _ ?_;clear hK K;simp only [stU])|exact hK|omega)))
        (refine Ends.of (nm []) (by first|exact .inl rfl|exact .inr rfl) ?_;simp (disch:=omega) only [go_sem,Int.reduceEq,↓reduceIte,reduceCtorEq,Nat.reduceEqDiff,Nat.reduceLT,Nat.reduceLeDiff,Nat.reduceAdd,Nat.reduceSub,Nat.reduceMul,Int.reduceToNat,Int.reduceLE,Int.reduceLT,N3,Sp_node_sector,Sp_field_Put,Sp_field_Join,Sp_node_seal,hz])
      · have hk2 : okP l k:=hokk.2 ⟨by omega,by omega,h3,fun h=>absurd h h4⟩
        have d1 : decide (a < 0) = false:=decide_eq_false h1
        have d2 : decide (65536 ≤ a) = false:=decide_eq_false h2
        have d3 : decide (secN b) = true:=decide_eq_true h3
        have d4 : decide (0 < (k : Int)) = false:=decide_eq_false (by omega)
        have hb2 : b < 4096:=h3.2
        clear h3
        repeat' first
 | refine AW.seq ?_
 | refine AW.block ?_
 | refine AW.regl N3_ok [0,2,3,4,5,6,14,15,16,17,18,50] ?_
 | (refine AW.regq (id:=7) N3_ok follows bb_node_PackNode_7 (by kernel_rfl) [0,2,3,4,5,6,14,15,16,17,18,50] ?_)
 | (refine AW.regc (id:=9) N3_ok follows bb_node_PackNode_9 (by kernel_rfl) [0,2,3,4,5,6,14,15,16,17,18,50] ?_)
 | refine then_n ?_
 | refine then_r ?_
 | refine then_x ?_
 | refine block_x ?_
 | refine block_o (by decide) ?_
 | refine block_n ?_
 | refine block_r ?_
 | refine AW.skip ?_
 | refine AW.ret ?_
 | refine AW.exit ?_
 | refine AW.cond rfl ?_ ?_
 | refine awl_none rfl ?_
 | refine awl_nil2 ?_
 | refine awl_some rfl rfl (Nat.le_of_ble_eq_true rfl) rfl rfl ?_ ?_
 | refine awc_none rfl ?_
 | refine awc_some rfl rfl (Nat.le_of_ble_eq_true rfl) rfl rfl ?_ ?_
 | (refine awc_skip rfl rfl (Nat.le_of_ble_eq_true rfl) rfl rfl ?_;simp only [stU])
 | exact each_nil
 | refine each_none rfl ?_ ?_
 | refine awc_nilq (by kernel_rfl) (by kernel_rfl) ?_
 | refine awc_leaf2 [some 51,some 52,some 53,some 54,some 55,some 56,some 57,some 58,some 59,some 60,some 4] cc_node_PackNode_9 rfl (by kernel_rfl) (by kernel_rfl) ?_ ?_
 | (refine fun (hc : _ = _)=>?_;first|cases hc|((try rw [hc]);(try simp only [stH] at hc);(try (exfalso;omega)));(try ((first|show Awl _ _ _ _ _|show Awc _ _ _ _ _ _);simp only [stU])))
 | ((first|refine fun (K : V → List _ → _) hK=>?_|refine fun (_ : V → V)=>?_|refine fun (bb : Nat → Bool) K hK=>?_);simp (disch:=omega) only [go_sem,Int.reduceEq,↓reduceIte,reduceCtorEq,Nat.reduceEqDiff,Nat.reduceLT,Nat.reduceLeDiff,Nat.reduceAdd,Nat.reduceSub,Nat.reduceMul,Int.reduceToNat,Int.reduceLE,Int.reduceLT,N3,Sp_node_sector,Sp_field_Put,Sp_field_Join,Sp_node_seal,e2,d1,d2,d3,d4,wd_2n,putB_taken,putB_len,Y2n,hitp,hil,hit,List.flatten_cons,List.flatten_nil,Sg3,St.updIf,ifc_nil,gt_ifc,go_ifc,ite_self,Option.none_or,Option.some_or];(try (revert hK;intro hK;(repeat' first|(refine And.intro ?_ ?_)|(intro hc;first|cases hc|((try rw [hc]);(try simp only [stH] at hc);(try (exfalso;omega)))));all_goals first|(refine hK _ _ ?_;clear hK K;simp only [stU])|exact hK|omega)))
        refine ⟨k + 1,by omega,fun i hi=>?_,by omega,nm [(100,60)],Wk.of ?_⟩
        · by_cases h : i = k
          · rw [h];exact hk2
          · exact hok i (by omega)
        · simp (disch:=omega) only [go_sem,Int.reduceEq,↓reduceIte,reduceCtorEq,Nat.reduceEqDiff,Nat.reduceLT,Nat.reduceLeDiff,Nat.reduceAdd,Nat.reduceSub,Nat.reduceMul,Int.reduceToNat,Int.reduceLE,Int.reduceLT,N3,Sp_node_sector,Sp_field_Put,Sp_field_Join,Sp_node_seal,e4,List.map_append]
          all_goals first|done|rfl|exact ⟨by rw [hpl];rfl,rfl⟩|exact ⟨rfl,rfl⟩
      · have hk2 : okP l k:=hokk.2 ⟨by omega,by omega,h3,fun h=>by omega⟩
        have e3':=e3 h4
        have d1 : decide (a < 0) = false:=decide_eq_false h1
        have d2 : decide (65536 ≤ a) = false:=decide_eq_false h2
        have d3 : decide (secN b) = true:=decide_eq_true h3
        have d4 : decide (0 < (k : Int)) = true:=decide_eq_true (by omega)
        have d5 : decide (a ≤ q) = false:=decide_eq_false h5
        have hb2 : b < 4096:=h3.2
        clear h3
        repeat' first
 | refine AW.seq ?_
 | refine AW.block ?_
 | refine AW.regl N3_ok [0,2,3,4,5,6,14,15,16,17,18,50] ?_
 | (refine AW.regq (id:=7) N3_ok follows bb_node_PackNode_7 (by kernel_rfl) [0,2,3,4,5,6,14,15,16,17,18,50] ?_)
 | (refine AW.regc (id:=9) N3_ok follows bb_node_PackNode_9 (by kernel_rfl) [0,2,3,4,5,6,14,15,16,17,18,50] ?_)
 | refine then_n ?_
 | refine then_r ?_
 | refine then_x ?_
 | refine block_x ?_
 | refine block_o (by decide) ?_
 | refine block_n ?_
 | refine block_r ?_
 | refine AW.skip ?_
 | refine AW.ret ?_
 | refine AW.exit ?_
 | refine AW.cond rfl ?_ ?_
 | refine awl_none rfl ?_
 | refine awl_nil2 ?_
 | refine awl_some rfl rfl (Nat.le_of_ble_eq_true rfl) rfl rfl ?_ ?_
 | refine awc_none rfl ?_
 | refine awc_some rfl rfl (Nat.le_of_ble_eq_true rfl) rfl rfl ?_ ?_
 | (refine awc_skip rfl rfl (Nat.le_of_ble_eq_true rfl) rfl rfl ?_;simp only [stU])
 | exact each_nil
 | refine each_none rfl ?_ ?_
 | refine awc_nilq (by kernel_rfl) (by kernel_rfl) ?_
 | refine awc_leaf2 [some 51,some 52,some 53,some 54,some 55,some 56,some 57,some 58,some 59,some 60,some 4] cc_node_PackNode_9 rfl (by kernel_rfl) (by kernel_rfl) ?_ ?_
 | (refine fun (hc : _ = _)=>?_;first|cases hc|((try rw [hc]);(try simp only [stH] at hc);(try (exfalso;omega)));(try ((first|show Awl _ _ _ _ _|show Awc _ _ _ _ _ _);simp only [stU])))
 | ((first|refine fun (K : V → List _ → _) hK=>?_|refine fun (_ : V → V)=>?_|refine fun (bb : Nat → Bool) K hK=>?_);simp (disch:=omega) only [go_sem,Int.reduceEq,↓reduceIte,reduceCtorEq,Nat.reduceEqDiff,Nat.reduceLT,Nat.reduceLeDiff,Nat.reduceAdd,Nat.reduceSub,Nat.reduceMul,Int.reduceToNat,Int.reduceLE,Int.reduceLT,N3,Sp_node_sector,Sp_field_Put,Sp_field_Join,Sp_node_seal,e2,e3',d1,d2,d3,d4,d5,wd_2n,putB_taken,putB_len,Y2n,hitp,hil,hit,List.flatten_cons,List.flatten_nil,Sg3,St.updIf,ifc_nil,gt_ifc,go_ifc,ite_self,Option.none_or,Option.some_or];(try (revert hK;intro hK;(repeat' first|(refine And.intro ?_ ?_)|(intro hc;first|cases hc|((try rw [hc]);(try simp only [stH] at hc);(try (exfalso;omega)))));all_goals first|(refine hK _ _ ?_;clear hK K;simp only [stU])|exact hK|omega)))
        refine ⟨k + 1,by omega,fun i hi=>?_,by omega,nm [(100,60)],Wk.of ?_⟩
        · by_cases h : i = k
          · rw [h];exact hk2
          · exact hok i (by omega)
        · simp (disch:=omega) only [go_sem,Int.reduceEq,↓reduceIte,reduceCtorEq,Nat.reduceEqDiff,Nat.reduceLT,Nat.reduceLeDiff,Nat.reduceAdd,Nat.reduceSub,Nat.reduceMul,Int.reduceToNat,Int.reduceLE,Int.reduceLT,N3,Sp_node_sector,Sp_field_Put,Sp_field_Join,Sp_node_seal,e4,List.map_append]
          all_goals first|done|rfl|exact ⟨by rw [hpl];rfl,rfl⟩|exact ⟨rfl,rfl⟩
    · obtain rfl : k = l.length:=by omega
      have hm : mayN l:=⟨hlen.1,hlen.2,hok⟩
      have hz : packNOut l = ⟨.tup [.sl 0 1 0 128 true,.d (.v (.bool true))],[(0,.row 5 1 ((nodP 2 l.length (psB l)).map mB))]⟩:=if_pos hm
      have hpl:=psB_len l
      have hpt : ((psB l).map mB).take (4 * l.length) = (psB l).map mB:=List.take_of_length_le (by simp [hpl])
      rw [List.take_length]
      repeat' first
 | refine AW.seq ?_
 | refine AW.block ?_
 | refine AW.regl N3_ok [0,2,3,4,5,6,14,15,16,17,18,50] ?_
 | (refine AW.regq (id:=7) N3_ok follows bb_node_PackNode_7 (by kernel_rfl) [0,2,3,4,5,6,14,15,16,17,18,50] ?_)
 | (refine AW.regc (id:=9) N3_ok follows bb_node_PackNode_9 (by kernel_rfl) [0,2,3,4,5,6,14,15,16,17,18,50] ?_)
 | refine then_n ?_
 | refine then_r ?_
 | refine then_x ?_
 | refine block_x ?_
 | refine block_o (by decide) ?_
 | refine block_n ?_
 | refine block_r ?_
 | refine AW.skip ?_
 | refine AW.ret ?_
 | refine AW.exit ?_
 | refine AW.cond rfl ?_ ?_
 | refine awl_none rfl ?_
 | refine awl_nil2 ?_
 | refine awl_some rfl rfl (Nat.le_of_ble_eq_true rfl) rfl rfl ?_ ?_
 | refine awc_none rfl ?_
 | refine awc_some rfl rfl (Nat.le_of_ble_eq_true rfl) rfl rfl ?_ ?_
 | (refine awc_skip rfl rfl (Nat.le_of_ble_eq_true rfl) rfl rfl ?_;simp only [stU])
 | exact each_nil
 | refine each_none rfl ?_ ?_
 | refine awc_nilq (by kernel_rfl) (by kernel_rfl) ?_
 | refine awc_leaf2 [some 51,some 52,some 53,some 54,some 55,some 56,some 57,some 58,some 59,some 60,some 4] cc_node_PackNode_9 rfl (by kernel_rfl) (by kernel_rfl) ?_ ?_
 | (refine fun (hc : _ = _)=>?_;first|cases hc|((try rw [hc]);(try simp only [stH] at hc);(try (exfalso;omega)));(try ((first|show Awl _ _ _ _ _|show Awc _ _ _ _ _ _);simp only [stU])))
 | ((first|refine fun (K : V → List _ → _) hK=>?_|refine fun (_ : V → V)=>?_|refine fun (bb : Nat → Bool) K hK=>?_);simp (disch:=omega) only [go_sem,Int.reduceEq,↓reduceIte,reduceCtorEq,Nat.reduceEqDiff,Nat.reduceLT,Nat.reduceLeDiff,Nat.reduceAdd,Nat.reduceSub,Nat.reduceMul,Int.reduceToNat,Int.reduceLE,Int.reduceLT,N3,Sp_node_sector,Sp_field_Put,Sp_field_Join,Sp_node_seal,hpt,hpl,mB_inj,Sg3,St.updIf,ifc_nil,gt_ifc,go_ifc,ite_self,Option.none_or,Option.some_or];(try (revert hK;intro hK;(repeat' first|(refine And.intro ?_ ?_)|(intro hc;first|cases hc|((try rw [hc]);(try simp only [stH] at hc);(try (exfalso;omega)))));all_goals first|(refine hK _ _ ?_;clear hK K;simp only [stU])|exact hK|omega)))
      (refine Ends.of (nm [(0,65)]) (by first|exact .inl rfl|exact .inr rfl) ?_;simp (disch:=omega) only [go_sem,Int.reduceEq,↓reduceIte,reduceCtorEq,Nat.reduceEqDiff,Nat.reduceLT,Nat.reduceLeDiff,Nat.reduceAdd,Nat.reduceSub,Nat.reduceMul,Int.reduceToNat,Int.reduceLE,Int.reduceLT,N3,Sp_node_sector,Sp_field_Put,Sp_field_Join,Sp_node_seal,hz])
theorem ent_node_PackNode : Ent Try.prog 21:=⟨_,Try.func21,rfl,by decide⟩
end Go.Proofs.Ytigkcigoiinkpaa.Am
