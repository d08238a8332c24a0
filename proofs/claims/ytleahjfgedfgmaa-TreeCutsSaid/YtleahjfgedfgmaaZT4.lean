import Derived.Test.YtleahjfgedfgmaaZT3
set_option linter.unusedVariables false
set_option linter.unusedSimpArgs false
set_option maxRecDepth 10000
set_option maxHeartbeats 0
namespace Go.Proofs.Ytleahjfgedfgmaa.Am
open Go Go.RowKit Go.Proofs
def SpK_tree_Node_depth (k : Nat) (ds : List D) (out : Out) : Prop:=∃ (l : List Xt) (f : List Int) (p : List Nd) (top : Bool) (e : Int),ds = [.agg [.list (l.map eD),.list (f.map mI),.list (p.map nD)],.v (.bool top),.v (.int .i64 e)] ∧ e = (k : Int) ∧ k ≤ 8 ∧ SzN (.mk l f p) ∧ out = ⟨.d (.v (.int .i64 (dv (chk k top (.mk l f p))))),[]⟩
theorem chk_big : ∀ {k : Nat} {top : Bool} {n : Nd} {r : List Xt} {d m : Nat},chk k top n = some (r,d,m) → r.length ≤ 8 ^ k
  | 0,_,_,_,_,_,h=>by cases h
  | k + 1,top,.mk l f p,r,d,m,h=>by
    have hp : 0 < 8 ^ k:=Nat.pow_pos (by decide)
    rcases chk_open h with ⟨rfl,rfl,h1,h2,h3⟩|⟨hp,rfl,h1,h2,h3,d',q,hq,h4⟩
    · cases h3;rw [Nat.pow_succ];omega
    · cases h4
      have key : ∀ (f : List Int) (p : List Nd) (q : List Xt × Nat),chkP (chk k false) d' f p = some q → q.1.length ≤ p.length * 8 ^ k:=by
        intro f p
        induction p generalizing f with
        | nil=>intro q h;cases f with
          | nil=>simp only [chkP,Option.some.injEq] at h;subst h;simp
          | cons _ _=>simp [chkP] at h
        | cons n ns ih =>
          intro q h
          cases f with
          | nil=>simp [chkP] at h
          | cons x fs =>
            simp only [chkP] at h
            split at h
            · rename_i r1 d1 m1 hc1
              split at h
              · cases hq1 : chkP (chk k false) d' fs ns with
                | none=>rw [hq1] at h;cases h
                | some q1 =>
                  rw [hq1] at h;cases h
                  have:=ih fs q1 hq1
                  have:=chk_big hc1
                  simp only [List.length_append,List.length_cons,Nat.add_mul,Nat.one_mul];omega
              · cases h
            · cases h
      have:=key f p q hq
      have h8 : p.length * 8 ^ k ≤ 8 * 8 ^ k:=Nat.mul_le_mul_right _ h2
      rw [Nat.pow_succ];omega
theorem chk_big8 {k : Nat} {top : Bool} {n : Nd} {r : List Xt} {d m : Nat} (hk : k ≤ 8) (h : chk k top n = some (r,d,m)) : r.length ≤ 16777216:=Nat.le_trans (chk_big h) (Nat.le_trans (Nat.pow_le_pow_right (by decide) hk) (by decide))
theorem okc_8 {k : Nat} {top : Bool} {n : Nd} {r : List Xt} {d m : Nat} (hk : k ≤ 8) (h : chk k top n = some (r,d,m)) : okc 8 n ∧ chk 8 true n = some (r,d,m):=okc_of (chk_le h hk) (by have:=chk_big8 hk h;omega)
theorem lst_t : lst true = 1:=rfl
theorem lst_f : lst false = 4:=rfl
theorem dv_n : dv none = -1:=rfl
theorem dv_s (r : List Xt) (d m : Nat) : dv (some (r,d,m)) = d:=rfl
structure gP (j d' : Nat) (f : List Int) (p : List Nd) (i : Nat) : Prop where
  le : i ≤ p.length
  c : ∃ q,chkP (chk j false) d' (f.take i) (p.take i) = some q
theorem chk_bad {k : Nat} {top : Bool} {l : List Xt} {f : List Int} {p : List Nd} (h : ¬ ∃ c,chk (k + 1) top (.mk l f p) = some c) : chk (k + 1) top (.mk l f p) = none:=by
  cases hc : chk (k + 1) top (.mk l f p) with
  | none=>rfl
  | some c=>exact absurd ⟨c,hc⟩ h
theorem chk_parts {k : Nat} {top : Bool} {l : List Xt} {f : List Int} {p : List Nd} {c : Ck} (hp : p ≠ []) (h : chk (k + 1) top (.mk l f p) = some c) {r0 : List Xt} {d0 m0 : Nat} (h0 : chk k false (p.getD 0 n0) = some (r0,d0,m0)) :
    ∃ q,chkP (chk k false) d0 f p = some q ∧ c = (q.1,d0 + 1,1 + q.2):=by
  rcases chk_open h with ⟨rfl,_⟩|⟨_,_,_,_,_,d',q,hq,h4⟩
  · exact absurd rfl hp
  · have hp0 : 0 < p.length:=by cases p;exact absurd rfl hp;simp
    obtain ⟨r,m,h1,_⟩:=chkP_get hq 0 hp0
    rw [h0] at h1
    cases h1
    exact ⟨q,hq,h4⟩
theorem chk_parts0 {k : Nat} {top : Bool} {l : List Xt} {f : List Int} {p : List Nd} {c : Ck} (hp : p ≠ []) (h : chk (k + 1) top (.mk l f p) = some c) : ∃ c0,chk k false (p.getD 0 n0) = some c0:=by
  rcases chk_open h with ⟨rfl,_⟩|⟨_,_,_,_,_,d',q,hq,h4⟩
  · exact absurd rfl hp
  · have hp0 : 0 < p.length:=by cases p;exact absurd rfl hp;simp
    obtain ⟨r,m,h1,_⟩:=chkP_get hq 0 hp0
    exact ⟨_,h1⟩
def Sp_tree_Node_depth (ds : List D) (out : Out) : Prop:=SpK_tree_Node_depth 8 ds out
theorem ent_tree_Node_depth : Ent Try.prog 44:=⟨_,Try.func44,rfl,by decide⟩
noncomputable def Z4 (k : Nat) : Env:=⟨Try.prog,fun f ds out=>(f = 44 ∧ Lo SpK_tree_Node_depth k ds out) ∨ (f = 55 ∧ Sp_tree_Node_first ds out),Es,fun _=>false,fun f vs lent out=>False,fun f=>none,fun f=>false,false,fun f=>none⟩
theorem Z4_okK (k : Nat) (hg : ∀ j,j < k → Good Try.prog 44 (SpK_tree_Node_depth j)) : (Z4 k).Ok:=by
  refine ⟨?_,Es_ok,fun _ _ _ _ h=>h.elim,fun _ _ h=>nomatch h⟩
  rintro f ds out (⟨rfl,h⟩|⟨rfl,h⟩)
  · cases k with
    | zero=>exact h.elim
    | succ j=>exact ⟨ent_tree_Node_depth,(hg j (by omega)).one h⟩
  · exact ⟨ent_tree_Node_first,good_tree_Node_first.one h⟩
def bb_tree_Node_depth_14 : List Nat:=[0,1,3,7,7,23,63,7,255,511,1023,2047,4095,2047,10239,2047,59391,124927,262143,524287]
def cc_tree_Node_depth_14 : List (List (Option Bool)):=[[some false,some false,some false,some false,some false,some false,some false,some false,some false,some false,some false,some false,some false,some false,some false,some false,some false,some false,some false,some false],[some true,some false,some false,some false,some false,some false,some false,some false,some false,some false,some false,some false,some false,some false,some false,some false,some false,some false,some false,some false],[some true,some true,some false,some false,some false,some false,some false,some false,some false,some false,some false,some false,some false,some false,some false,some false,some false,some false,some false,some false],[some true,some true,some true,some false,none,none,some false,none,some false,some false,some false,some false,some false,some false,some false,some false,some false,some false,some false,some false],[some true,some true,some true,none,some false,some false,some false,none,some false,some false,some false,some false,some false,some false,some false,some false,some false,some false,some false,some false],[some true,some true,some true,none,some true,some false,some false,none,some false,some false,some false,some false,some false,some false,some false,some false,some false,some false,some false,some false],[some true,some true,some true,some true,some true,some true,some false,none,some false,some false,some false,some false,some false,some false,some false,some false,some false,some false,some false,some false],[some true,some true,some true,none,none,none,none,some false,some false,some false,some false,some false,some false,some false,some false,some false,some false,some false,some false,some false],[some true,some true,some true,some true,some true,some true,some true,some true,some false,some false,some false,some false,some false,some false,some false,some false,some false,some false,some false,some false],[some true,some true,some true,some true,some true,some true,some true,some true,some true,some false,some false,some false,some false,some false,some false,some false,some false,some false,some false,some false],[some true,some true,some true,some true,some true,some true,some true,some true,some true,some true,some false,some false,some false,some false,some false,some false,some false,some false,some false,some false],[some true,some true,some true,some true,some true,some true,some true,some true,some true,some true,some true,some false,some false,none,none,none,none,none,some false,some false],[some true,some true,some true,some true,some true,some true,some true,some true,some true,some true,some true,some true,some false,none,none,none,none,none,some false,some false],[some true,some true,some true,some true,some true,some true,some true,some true,some true,some true,some true,none,none,some false,some false,none,some false,some false,some false,some false],[some true,some true,some true,some true,some true,some true,some true,some true,some true,some true,some true,none,none,some true,some false,none,some false,some false,some false,some false],[some true,some true,some true,some true,some true,some true,some true,some true,some true,some true,some true,none,none,none,none,some false,some false,some false,some false,some false],[some true,some true,some true,some true,some true,some true,some true,some true,some true,some true,some true,none,none,some true,some true,some true,some false,some false,some false,some false],[some true,some true,some true,some true,some true,some true,some true,some true,some true,some true,some true,none,none,some true,some true,some true,some true,some false,some false,some false],[some true,some true,some true,some true,some true,some true,some true,some true,some true,some true,some true,some true,some true,some true,some true,some true,some true,some true,some false,some false],[some true,some true,some true,some true,some true,some true,some true,some true,some true,some true,some true,some true,some true,some true,some true,some true,some true,some true,some true,some false]]
theorem goodK_tree_Node_depth : ∀ k,Good Try.prog 44 (SpK_tree_Node_depth k):=by
  intro k
  induction k using Nat.strongRecOn with
  | ind k ih =>
  have Z4_ok : (Z4 k).Ok:=Z4_okK k ih
  clear ih
  refine good_body (E:=Z4 k) (nt:=107) (rs:=#[.tmp 6]) Try.func44 rfl rfl rfl ?_
  rintro ds out ⟨l,f,p,top,e,rfl,he,hk8,hsz,rfl⟩
  refine ⟨by simp,?_⟩
  obtain ⟨hl,hf,hp,hps⟩:=hsz.open
  clear hsz
  have mx1 : max (2 : Int) 1 = 2:=rfl
  have mx4 : max (2 : Int) 4 = 4:=rfl
  by_cases p0 : p = []
  · subst p0
    have dZ : decide ((([] : List Nd).length : Int) = 0) = true:=by simp
    by_cases k0 : k = 0
    · subst k0
      have hz : dv (chk 0 top (.mk l f [])) = -1:=rfl
      have dA : decide (e < 1) = true:=decide_eq_true (by omega)
      cases top
      all_goals (repeat' ((first
 | refine AW.seq ?_
 | refine AW.block ?_
 | refine AW.regl Z4_ok [0,1,2,3,6,7,8,9,10,12,16,37,68,77,78,79,80,103] ?_
 | (refine AW.regc (id:=14) Z4_ok follows bb_tree_Node_depth_14 (by kernel_rfl) [0,1,2,3,6,7,8,9,10,12,16,37,68,77,78,79,80,103] ?_)
 | refine then_n ?_
 | refine then_r ?_
 | refine then_x ?_
 | refine block_x ?_
 | refine block_o (by decide) ?_
 | refine block_n ?_
 | refine block_r ?_
 | refine AW.skip ?_
 | refine AW.ret ?_
 | refine AW.exit ?_
 | refine AW.cond rfl ?_ ?_
 | refine awl_none rfl ?_
 | refine awl_nil2 ?_
 | refine awl_some rfl rfl (Nat.le_of_ble_eq_true rfl) rfl rfl ?_ ?_
 | refine awc_none rfl ?_
 | refine awc_some rfl rfl (Nat.le_of_ble_eq_true rfl) rfl rfl ?_ ?_
 | exact each_nil
 | (refine each_some rfl rfl (Nat.le_of_ble_eq_true rfl) rfl ?_ ?_;first|(rw [if_pos rfl])|(rw [if_neg (by decide)];exact ⟨rfl,rfl⟩))
 | refine each_none rfl ?_ ?_
 | refine awc_leaf2 [some 84,some 85,some 86,some 87,some 88,some 89,some 90,some 91,some 92,some 93,some 94,some 95,some 96,some 97,some 98,some 99,some 100,some 101,some 102,some 103] cc_tree_Node_depth_14 rfl (by kernel_rfl) (by kernel_rfl) ?_ ?_
 | (refine fun (hc : _ = _)=>?_;first|cases hc|((try rw [hc]);(try simp only [stH] at hc);(try (exfalso;omega)));(try ((first|show Awl _ _ _ _ _|show Awc _ _ _ _ _ _);simp only [stU])))
 | ((first|refine fun (K : V → List _ → _) hK=>?_|refine fun (_ : V → V)=>?_|refine fun (bb : Nat → Bool) K hK=>?_);simp (maxSteps:=1000000) (disch:=omega) only [go_sem,Int.reduceEq,↓reduceIte,reduceCtorEq,Nat.reduceEqDiff,Nat.reduceLT,Nat.reduceLeDiff,Nat.reduceAdd,Nat.reduceSub,Nat.reduceMul,Int.reduceToNat,Int.reduceLE,Int.reduceLT,Z4,Sp_tree_Node_depth,Sp_tree_Node_first,SpK_tree_Node_depth,Lo_succ,Lo_zero,dZ,dA,Sg3,St.updIf,ifc_nil,gt_ifc,go_ifc,ite_self,Option.none_or,Option.some_or];(try (revert hK;intro hK;(repeat' first|(refine And.intro ?_ ?_)|(intro hc;first|cases hc|((try rw [hc]);(try simp only [stH] at hc);(try (exfalso;omega)))));all_goals first|(refine hK _ _ ?_;clear hK K;simp only [stU])|exact hK|omega)))) <;> (fail_if_success (show False;skip))))
      all_goals (refine Ends.of (nm []) (by first|exact .inl rfl|exact .inr rfl) ?_;simp (maxSteps:=1000000) (disch:=omega) only [go_sem,Int.reduceEq,↓reduceIte,reduceCtorEq,Nat.reduceEqDiff,Nat.reduceLT,Nat.reduceLeDiff,Nat.reduceAdd,Nat.reduceSub,Nat.reduceMul,Int.reduceToNat,Int.reduceLE,Int.reduceLT,Z4,Sp_tree_Node_depth,Sp_tree_Node_first,SpK_tree_Node_depth,Lo_succ,Lo_zero,hz])
    obtain ⟨j,rfl⟩ : ∃ j,k = j + 1:=⟨k - 1,by omega⟩
    have dA : decide (e < 1) = false:=decide_eq_false (by omega)
    by_cases f0 : f = []
    · subst f0
      have dB : decide (0 < (([] : List Int).length : Int)) = false:=by simp
      by_cases l1 : lst top ≤ l.length
      · by_cases l2 : l.length ≤ 8
        · have hz : dv (chk (j + 1) top (.mk l [] [])) = 1:=by rw [chk_leaf,if_pos ⟨rfl,l1,l2⟩];rfl
          have dD : decide (8 < (l.length : Int)) = false:=decide_eq_false (by omega)
          cases top
          · have dC : decide ((l.length : Int) < 4) = false:=decide_eq_false (by rw [lst_f] at l1;omega)
            repeat' ((first
 | refine AW.seq ?_
 | refine AW.block ?_
 | refine AW.regl Z4_ok [0,1,2,3,6,7,8,9,10,12,16,37,68,77,78,79,80,103] ?_
 | (refine AW.regc (id:=14) Z4_ok follows bb_tree_Node_depth_14 (by kernel_rfl) [0,1,2,3,6,7,8,9,10,12,16,37,68,77,78,79,80,103] ?_)
 | refine then_n ?_
 | refine then_r ?_
 | refine then_x ?_
 | refine block_x ?_
 | refine block_o (by decide) ?_
 | refine block_n ?_
 | refine block_r ?_
 | refine AW.skip ?_
 | refine AW.ret ?_
 | refine AW.exit ?_
 | refine AW.cond rfl ?_ ?_
 | refine awl_none rfl ?_
 | refine awl_nil2 ?_
 | refine awl_some rfl rfl (Nat.le_of_ble_eq_true rfl) rfl rfl ?_ ?_
 | refine awc_none rfl ?_
 | refine awc_some rfl rfl (Nat.le_of_ble_eq_true rfl) rfl rfl ?_ ?_
 | exact each_nil
 | (refine each_some rfl rfl (Nat.le_of_ble_eq_true rfl) rfl ?_ ?_;first|(rw [if_pos rfl])|(rw [if_neg (by decide)];exact ⟨rfl,rfl⟩))
 | refine each_none rfl ?_ ?_
 | refine awc_leaf2 [some 84,some 85,some 86,some 87,some 88,some 89,some 90,some 91,some 92,some 93,some 94,some 95,some 96,some 97,some 98,some 99,some 100,some 101,some 102,some 103] cc_tree_Node_depth_14 rfl (by kernel_rfl) (by kernel_rfl) ?_ ?_
 | (refine fun (hc : _ = _)=>?_;first|cases hc|((try rw [hc]);(try simp only [stH] at hc);(try (exfalso;omega)));(try ((first|show Awl _ _ _ _ _|show Awc _ _ _ _ _ _);simp only [stU])))
 | ((first|refine fun (K : V → List _ → _) hK=>?_|refine fun (_ : V → V)=>?_|refine fun (bb : Nat → Bool) K hK=>?_);simp (maxSteps:=1000000) (disch:=omega) only [go_sem,Int.reduceEq,↓reduceIte,reduceCtorEq,Nat.reduceEqDiff,Nat.reduceLT,Nat.reduceLeDiff,Nat.reduceAdd,Nat.reduceSub,Nat.reduceMul,Int.reduceToNat,Int.reduceLE,Int.reduceLT,Z4,Sp_tree_Node_depth,Sp_tree_Node_first,SpK_tree_Node_depth,Lo_succ,Lo_zero,dZ,dA,dB,dC,dD,Sg3,St.updIf,ifc_nil,gt_ifc,go_ifc,ite_self,Option.none_or,Option.some_or];(try (revert hK;intro hK;(repeat' first|(refine And.intro ?_ ?_)|(intro hc;first|cases hc|((try rw [hc]);(try simp only [stH] at hc);(try (exfalso;omega)))));all_goals first|(refine hK _ _ ?_;clear hK K;simp only [stU])|exact hK|omega)))) <;> (fail_if_success (show False;skip)))
            all_goals (refine Ends.of (nm []) (by first|exact .inl rfl|exact .inr rfl) ?_;simp (maxSteps:=1000000) (disch:=omega) only [go_sem,Int.reduceEq,↓reduceIte,reduceCtorEq,Nat.reduceEqDiff,Nat.reduceLT,Nat.reduceLeDiff,Nat.reduceAdd,Nat.reduceSub,Nat.reduceMul,Int.reduceToNat,Int.reduceLE,Int.reduceLT,Z4,Sp_tree_Node_depth,Sp_tree_Node_first,SpK_tree_Node_depth,Lo_succ,Lo_zero,hz])
          · have dC : decide ((l.length : Int) < 1) = false:=decide_eq_false (by rw [lst_t] at l1;omega)
            repeat' ((first
 | refine AW.seq ?_
 | refine AW.block ?_
 | refine AW.regl Z4_ok [0,1,2,3,6,7,8,9,10,12,16,37,68,77,78,79,80,103] ?_
 | (refine AW.regc (id:=14) Z4_ok follows bb_tree_Node_depth_14 (by kernel_rfl) [0,1,2,3,6,7,8,9,10,12,16,37,68,77,78,79,80,103] ?_)
 | refine then_n ?_
 | refine then_r ?_
 | refine then_x ?_
 | refine block_x ?_
 | refine block_o (by decide) ?_
 | refine block_n ?_
 | refine block_r ?_
 | refine AW.skip ?_
 | refine AW.ret ?_
 | refine AW.exit ?_
 | refine AW.cond rfl ?_ ?_
 | refine awl_none rfl ?_
 | refine awl_nil2 ?_
 | refine awl_some rfl rfl (Nat.le_of_ble_eq_true rfl) rfl rfl ?_ ?_
 | refine awc_none rfl ?_
 | refine awc_some rfl rfl (Nat.le_of_ble_eq_true rfl) rfl rfl ?_ ?_
 | exact each_nil
 | (refine each_some rfl rfl (Nat.le_of_ble_eq_true rfl) rfl ?_ ?_;first|(rw [if_pos rfl])|(rw [if_neg (by decide)];exact ⟨rfl,rfl⟩))
 | refine each_none rfl ?_ ?_
 | refine awc_leaf2 [some 84,some 85,some 86,some 87,some 88,some 89,some 90,some 91,some 92,some 93,some 94,some 95,some 96,some 97,some 98,some 99,some 100,some 101,some 102,some 103] cc_tree_Node_depth_14 rfl (by kernel_rfl) (by kernel_rfl) ?_ ?_
 | (refine fun (hc : _ = _)=>?_;first|cases hc|((try rw [hc]);(try simp only [stH] at hc);(try (exfalso;omega)));(try ((first|show Awl _ _ _ _ _|show Awc _ _ _ _ _ _);simp only [stU])))
 | ((first|refine fun (K : V → List _ → _) hK=>?_|refine fun (_ : V → V)=>?_|refine fun (bb : Nat → Bool) K hK=>?_);simp (maxSteps:=1000000) (disch:=omega) only [go_sem,Int.reduceEq,↓reduceIte,reduceCtorEq,Nat.reduceEqDiff,Nat.reduceLT,Nat.reduceLeDiff,Nat.reduceAdd,Nat.reduceSub,Nat.reduceMul,Int.reduceToNat,Int.reduceLE,Int.reduceLT,Z4,Sp_tree_Node_depth,Sp_tree_Node_first,SpK_tree_Node_depth,Lo_succ,Lo_zero,dZ,dA,dB,dC,dD,Sg3,St.updIf,ifc_nil,gt_ifc,go_ifc,ite_self,Option.none_or,Option.some_or];(try (revert hK;intro hK;(repeat' first|(refine And.intro ?_ ?_)|(intro hc;first|cases hc|((try rw [hc]);(try simp only [stH] at hc);(try (exfalso;omega)))));all_goals first|(refine hK _ _ ?_;clear hK K;simp only [stU])|exact hK|omega)))) <;> (fail_if_success (show False;skip)))
            all_goals (refine Ends.of (nm []) (by first|exact .inl rfl|exact .inr rfl) ?_;simp (maxSteps:=1000000) (disch:=omega) only [go_sem,Int.reduceEq,↓reduceIte,reduceCtorEq,Nat.reduceEqDiff,Nat.reduceLT,Nat.reduceLeDiff,Nat.reduceAdd,Nat.reduceSub,Nat.reduceMul,Int.reduceToNat,Int.reduceLE,Int.reduceLT,Z4,Sp_tree_Node_depth,Sp_tree_Node_first,SpK_tree_Node_depth,Lo_succ,Lo_zero,hz])
        · have hz : dv (chk (j + 1) top (.mk l [] [])) = -1:=by rw [chk_leaf,if_neg fun h=>l2 h.2.2];rfl
          have dD : decide (8 < (l.length : Int)) = true:=decide_eq_true (by omega)
          cases top
          · have dC : decide ((l.length : Int) < 4) = false:=decide_eq_false (by omega)
            repeat' ((first
 | refine AW.seq ?_
 | refine AW.block ?_
 | refine AW.regl Z4_ok [0,1,2,3,6,7,8,9,10,12,16,37,68,77,78,79,80,103] ?_
 | (refine AW.regc (id:=14) Z4_ok follows bb_tree_Node_depth_14 (by kernel_rfl) [0,1,2,3,6,7,8,9,10,12,16,37,68,77,78,79,80,103] ?_)
 | refine then_n ?_
 | refine then_r ?_
 | refine then_x ?_
 | refine block_x ?_
 | refine block_o (by decide) ?_
 | refine block_n ?_
 | refine block_r ?_
 | refine AW.skip ?_
 | refine AW.ret ?_
 | refine AW.exit ?_
 | refine AW.cond rfl ?_ ?_
 | refine awl_none rfl ?_
 | refine awl_nil2 ?_
 | refine awl_some rfl rfl (Nat.le_of_ble_eq_true rfl) rfl rfl ?_ ?_
 | refine awc_none rfl ?_
 | refine awc_some rfl rfl (Nat.le_of_ble_eq_true rfl) rfl rfl ?_ ?_
 | exact each_nil
 | (refine each_some rfl rfl (Nat.le_of_ble_eq_true rfl) rfl ?_ ?_;first|(rw [if_pos rfl])|(rw [if_neg (by decide)];exact ⟨rfl,rfl⟩))
 | refine each_none rfl ?_ ?_
 | refine awc_leaf2 [some 84,some 85,some 86,some 87,some 88,some 89,some 90,some 91,some 92,some 93,some 94,some 95,some 96,some 97,some 98,some 99,some 100,some 101,some 102,some 103] cc_tree_Node_depth_14 rfl (by kernel_rfl) (by kernel_rfl) ?_ ?_
 | (refine fun (hc : _ = _)=>?_;first|cases hc|((try rw [hc]);(try simp only [stH] at hc);(try (exfalso;omega)));(try ((first|show Awl _ _ _ _ _|show Awc _ _ _ _ _ _);simp only [stU])))
 | ((first|refine fun (K : V → List _ → _) hK=>?_|refine fun (_ : V → V)=>?_|refine fun (bb : Nat → Bool) K hK=>?_);simp (maxSteps:=1000000) (disch:=omega) only [go_sem,Int.reduceEq,↓reduceIte,reduceCtorEq,Nat.reduceEqDiff,Nat.reduceLT,Nat.reduceLeDiff,Nat.reduceAdd,Nat.reduceSub,Nat.reduceMul,Int.reduceToNat,Int.reduceLE,Int.reduceLT,Z4,Sp_tree_Node_depth,Sp_tree_Node_first,SpK_tree_Node_depth,Lo_succ,Lo_zero,dZ,dA,dB,dC,dD,Sg3,St.updIf,ifc_nil,gt_ifc,go_ifc,ite_self,Option.none_or,Option.some_or];(try (revert hK;intro hK;(repeat' first|(refine And.intro ?_ ?_)|(intro hc;first|cases hc|((try rw [hc]);(try simp only [stH] at hc);(try (exfalso;omega)))));all_goals first|(refine hK _ _ ?_;clear hK K;simp only [stU])|exact hK|omega)))) <;> (fail_if_success (show False;skip)))
            all_goals (refine Ends.of (nm []) (by first|exact .inl rfl|exact .inr rfl) ?_;simp (maxSteps:=1000000) (disch:=omega) only [go_sem,Int.reduceEq,↓reduceIte,reduceCtorEq,Nat.reduceEqDiff,Nat.reduceLT,Nat.reduceLeDiff,Nat.reduceAdd,Nat.reduceSub,Nat.reduceMul,Int.reduceToNat,Int.reduceLE,Int.reduceLT,Z4,Sp_tree_Node_depth,Sp_tree_Node_first,SpK_tree_Node_depth,Lo_succ,Lo_zero,hz])
          · have dC : decide ((l.length : Int) < 1) = false:=decide_eq_false (by omega)
            repeat' ((first
 | refine AW.seq ?_
 | refine AW.block ?_
 | refine AW.regl Z4_ok [0,1,2,3,6,7,8,9,10,12,16,37,68,77,78,79,80,103] ?_
 | (refine AW.regc (id:=14) Z4_ok follows bb_tree_Node_depth_14 (by kernel_rfl) [0,1,2,3,6,7,8,9,10,12,16,37,68,77,78,79,80,103] ?_)
 | refine then_n ?_
 | refine then_r ?_
 | refine then_x ?_
 | refine block_x ?_
 | refine block_o (by decide) ?_
 | refine block_n ?_
 | refine block_r ?_
 | refine AW.skip ?_
 | refine AW.ret ?_
 | refine AW.exit ?_
 | refine AW.cond rfl ?_ ?_
 | refine awl_none rfl ?_
 | refine awl_nil2 ?_
 | refine awl_some rfl rfl (Nat.le_of_ble_eq_true rfl) rfl rfl ?_ ?_
 | refine awc_none rfl ?_
 | refine awc_some rfl rfl (Nat.le_of_ble_eq_true rfl) rfl rfl ?_ ?_
 | exact each_nil
 | (refine each_some rfl rfl (Nat.le_of_ble_eq_true rfl) rfl ?_ ?_;first|(rw [if_pos rfl])|(rw [if_neg (by decide)];exact ⟨rfl,rfl⟩))
 | refine each_none rfl ?_ ?_
 | refine awc_leaf2 [some 84,some 85,some 86,some 87,some 88,some 89,some 90,some 91,some 92,some 93,some 94,some 95,some 96,some 97,some 98,some 99,some 100,some 101,some 102,some 103] cc_tree_Node_depth_14 rfl (by kernel_rfl) (by kernel_rfl) ?_ ?_
 | (refine fun (hc : _ = _)=>?_;first|cases hc|((try rw [hc]);(try simp only [stH] at hc);(try (exfalso;omega)));(try ((first|show Awl _ _ _ _ _|show Awc _ _ _ _ _ _);simp only [stU])))
 | ((first|refine fun (K : V → List _ → _) hK=>?_|refine fun (_ : V → V)=>?_|refine fun (bb : Nat → Bool) K hK=>?_);simp (maxSteps:=1000000) (disch:=omega) only [go_sem,Int.reduceEq,↓reduceIte,reduceCtorEq,Nat.reduceEqDiff,Nat.reduceLT,Nat.reduceLeDiff,Nat.reduceAdd,Nat.reduceSub,Nat.reduceMul,Int.reduceToNat,Int.reduceLE,Int.reduceLT,Z4,Sp_tree_Node_depth,Sp_tree_Node_first,SpK_tree_Node_depth,Lo_succ,Lo_zero,dZ,dA,dB,dC,dD,Sg3,St.updIf,ifc_nil,gt_ifc,go_ifc,ite_self,Option.none_or,Option.some_or];(try (revert hK;intro hK;(repeat' first|(refine And.intro ?_ ?_)|(intro hc;first|cases hc|((try rw [hc]);(try simp only [stH] at hc);(try (exfalso;omega)))));all_goals first|(refine hK _ _ ?_;clear hK K;simp only [stU])|exact hK|omega)))) <;> (fail_if_success (show False;skip)))
            all_goals (refine Ends.of (nm []) (by first|exact .inl rfl|exact .inr rfl) ?_;simp (maxSteps:=1000000) (disch:=omega) only [go_sem,Int.reduceEq,↓reduceIte,reduceCtorEq,Nat.reduceEqDiff,Nat.reduceLT,Nat.reduceLeDiff,Nat.reduceAdd,Nat.reduceSub,Nat.reduceMul,Int.reduceToNat,Int.reduceLE,Int.reduceLT,Z4,Sp_tree_Node_depth,Sp_tree_Node_first,SpK_tree_Node_depth,Lo_succ,Lo_zero,hz])
      · have hz : dv (chk (j + 1) top (.mk l [] [])) = -1:=by rw [chk_leaf,if_neg fun h=>l1 h.2.1];rfl
        cases top
        · have dC : decide ((l.length : Int) < 4) = true:=decide_eq_true (by rw [lst_f] at l1;omega)
          repeat' ((first
 | refine AW.seq ?_
 | refine AW.block ?_
 | refine AW.regl Z4_ok [0,1,2,3,6,7,8,9,10,12,16,37,68,77,78,79,80,103] ?_
 | (refine AW.regc (id:=14) Z4_ok follows bb_tree_Node_depth_14 (by kernel_rfl) [0,1,2,3,6,7,8,9,10,12,16,37,68,77,78,79,80,103] ?_)
 | refine then_n ?_
 | refine then_r ?_
 | refine then_x ?_
 | refine block_x ?_
 | refine block_o (by decide) ?_
 | refine block_n ?_
 | refine block_r ?_
 | refine AW.skip ?_
 | refine AW.ret ?_
 | refine AW.exit ?_
 | refine AW.cond rfl ?_ ?_
 | refine awl_none rfl ?_
 | refine awl_nil2 ?_
 | refine awl_some rfl rfl (Nat.le_of_ble_eq_true rfl) rfl rfl ?_ ?_
 | refine awc_none rfl ?_
 | refine awc_some rfl rfl (Nat.le_of_ble_eq_true rfl) rfl rfl ?_ ?_
 | exact each_nil
 | (refine each_some rfl rfl (Nat.le_of_ble_eq_true rfl) rfl ?_ ?_;first|(rw [if_pos rfl])|(rw [if_neg (by decide)];exact ⟨rfl,rfl⟩))
 | refine each_none rfl ?_ ?_
 | refine awc_leaf2 [some 84,some 85,some 86,some 87,some 88,some 89,some 90,some 91,some 92,some 93,some 94,some 95,some 96,some 97,some 98,some 99,some 100,some 101,some 102,some 103] cc_tree_Node_depth_14 rfl (by kernel_rfl) (by kernel_rfl) ?_ ?_
 | (refine fun (hc : _ = _)=>?_;first|cases hc|((try rw [hc]);(try simp only [stH] at hc);(try (exfalso;omega)));(try ((first|show Awl _ _ _ _ _|show Awc _ _ _ _ _ _);simp only [stU])))
 | ((first|refine fun (K : V → List _ → _) hK=>?_|refine fun (_ : V → V)=>?_|refine fun (bb : Nat → Bool) K hK=>?_);simp (maxSteps:=1000000) (disch:=omega) only [go_sem,Int.reduceEq,↓reduceIte,reduceCtorEq,Nat.reduceEqDiff,Nat.reduceLT,Nat.reduceLeDiff,Nat.reduceAdd,Nat.reduceSub,Nat.reduceMul,Int.reduceToNat,Int.reduceLE,Int.reduceLT,Z4,Sp_tree_Node_depth,Sp_tree_Node_first,SpK_tree_Node_depth,Lo_succ,Lo_zero,dZ,dA,dB,dC,Sg3,St.updIf,ifc_nil,gt_ifc,go_ifc,ite_self,Option.none_or,Option.some_or];(try (revert hK;intro hK;(repeat' first|(refine And.intro ?_ ?_)|(intro hc;first|cases hc|((try rw [hc]);(try simp only [stH] at hc);(try (exfalso;omega)))));all_goals first|(refine hK _ _ ?_;clear hK K;simp only [stU])|exact hK|omega)))) <;> (fail_if_success (show False;skip)))
          all_goals (refine Ends.of (nm []) (by first|exact .inl rfl|exact .inr rfl) ?_;simp (maxSteps:=1000000) (disch:=omega) only [go_sem,Int.reduceEq,↓reduceIte,reduceCtorEq,Nat.reduceEqDiff,Nat.reduceLT,Nat.reduceLeDiff,Nat.reduceAdd,Nat.reduceSub,Nat.reduceMul,Int.reduceToNat,Int.reduceLE,Int.reduceLT,Z4,Sp_tree_Node_depth,Sp_tree_Node_first,SpK_tree_Node_depth,Lo_succ,Lo_zero,hz])
        · have dC : decide ((l.length : Int) < 1) = true:=decide_eq_true (by rw [lst_t] at l1;omega)
          repeat' ((first
 | refine AW.seq ?_
 | refine AW.block ?_
 | refine AW.regl Z4_ok [0,1,2,3,6,7,8,9,10,12,16,37,68,77,78,79,80,103] ?_
 | (refine AW.regc (id:=14) Z4_ok follows bb_tree_Node_depth_14 (by kernel_rfl) [0,1,2,3,6,7,8,9,10,12,16,37,68,77,78,79,80,103] ?_)
 | refine then_n ?_
 | refine then_r ?_
 | refine then_x ?_
 | refine block_x ?_
 | refine block_o (by decide) ?_
 | refine block_n ?_
 | refine block_r ?_
 | refine AW.skip ?_
 | refine AW.ret ?_
 | refine AW.exit ?_
 | refine AW.cond rfl ?_ ?_
 | refine awl_none rfl ?_
 | refine awl_nil2 ?_
 | refine awl_some rfl rfl (Nat.le_of_ble_eq_true rfl) rfl rfl ?_ ?_
 | refine awc_none rfl ?_
 | refine awc_some rfl rfl (Nat.le_of_ble_eq_true rfl) rfl rfl ?_ ?_
 | exact each_nil
 | (refine each_some rfl rfl (Nat.le_of_ble_eq_true rfl) rfl ?_ ?_;first|(rw [if_pos rfl])|(rw [if_neg (by decide)];exact ⟨rfl,rfl⟩))
 | refine each_none rfl ?_ ?_
 | refine awc_leaf2 [some 84,some 85,some 86,some 87,some 88,some 89,some 90,some 91,some 92,some 93,some 94,some 95,some 96,some 97,some 98,some 99,some 100,some 101,some 102,some 103] cc_tree_Node_depth_14 rfl (by kernel_rfl) (by kernel_rfl) ?_ ?_
 | (refine fun (hc : _ = _)=>?_;first|cases hc|((try rw [hc]);(try simp only [stH] at hc);(try (exfalso;omega)));(try ((first|show Awl _ _ _ _ _|show Awc _ _ _ _ _ _);simp only [stU])))
 | ((first|refine fun (K : V → List _ → _) hK=>?_|refine fun (_ : V → V)=>?_|refine fun (bb : Nat → Bool) K hK=>?_);simp (maxSteps:=1000000) (disch:=omega) only [go_sem,Int.reduceEq,↓reduceIte,reduceCtorEq,Nat.reduceEqDiff,Nat.reduceLT,Nat.reduceLeDiff,Nat.reduceAdd,Nat.reduceSub,Nat.reduceMul,Int.reduceToNat,Int.reduceLE,Int.reduceLT,Z4,Sp_tree_Node_depth,Sp_tree_Node_first,SpK_tree_Node_depth,Lo_succ,Lo_zero,dZ,dA,dB,dC,Sg3,St.updIf,ifc_nil,gt_ifc,go_ifc,ite_self,Option.none_or,Option.some_or];(try (revert hK;intro hK;(repeat' first|(refine And.intro ?_ ?_)|(intro hc;first|cases hc|((try rw [hc]);(try simp only [stH] at hc);(try (exfalso;omega)))));all_goals first|(refine hK _ _ ?_;clear hK K;simp only [stU])|exact hK|omega)))) <;> (fail_if_success (show False;skip)))
          all_goals (refine Ends.of (nm []) (by first|exact .inl rfl|exact .inr rfl) ?_;simp (maxSteps:=1000000) (disch:=omega) only [go_sem,Int.reduceEq,↓reduceIte,reduceCtorEq,Nat.reduceEqDiff,Nat.reduceLT,Nat.reduceLeDiff,Nat.reduceAdd,Nat.reduceSub,Nat.reduceMul,Int.reduceToNat,Int.reduceLE,Int.reduceLT,Z4,Sp_tree_Node_depth,Sp_tree_Node_first,SpK_tree_Node_depth,Lo_succ,Lo_zero,hz])
    · have hz : dv (chk (j + 1) top (.mk l f [])) = -1:=by rw [chk_leaf,if_neg fun h=>f0 h.1];rfl
      have dB : decide (0 < (f.length : Int)) = true:=decide_eq_true (by have:=List.length_pos_iff.2 f0;omega)
      cases top
      all_goals (repeat' ((first
 | refine AW.seq ?_
 | refine AW.block ?_
 | refine AW.regl Z4_ok [0,1,2,3,6,7,8,9,10,12,16,37,68,77,78,79,80,103] ?_
 | (refine AW.regc (id:=14) Z4_ok follows bb_tree_Node_depth_14 (by kernel_rfl) [0,1,2,3,6,7,8,9,10,12,16,37,68,77,78,79,80,103] ?_)
 | refine then_n ?_
 | refine then_r ?_
 | refine then_x ?_
 | refine block_x ?_
 | refine block_o (by decide) ?_
 | refine block_n ?_
 | refine block_r ?_
 | refine AW.skip ?_
 | refine AW.ret ?_
 | refine AW.exit ?_
 | refine AW.cond rfl ?_ ?_
 | refine awl_none rfl ?_
 | refine awl_nil2 ?_
 | refine awl_some rfl rfl (Nat.le_of_ble_eq_true rfl) rfl rfl ?_ ?_
 | refine awc_none rfl ?_
 | refine awc_some rfl rfl (Nat.le_of_ble_eq_true rfl) rfl rfl ?_ ?_
 | exact each_nil
 | (refine each_some rfl rfl (Nat.le_of_ble_eq_true rfl) rfl ?_ ?_;first|(rw [if_pos rfl])|(rw [if_neg (by decide)];exact ⟨rfl,rfl⟩))
 | refine each_none rfl ?_ ?_
 | refine awc_leaf2 [some 84,some 85,some 86,some 87,some 88,some 89,some 90,some 91,some 92,some 93,some 94,some 95,some 96,some 97,some 98,some 99,some 100,some 101,some 102,some 103] cc_tree_Node_depth_14 rfl (by kernel_rfl) (by kernel_rfl) ?_ ?_
 | (refine fun (hc : _ = _)=>?_;first|cases hc|((try rw [hc]);(try simp only [stH] at hc);(try (exfalso;omega)));(try ((first|show Awl _ _ _ _ _|show Awc _ _ _ _ _ _);simp only [stU])))
 | ((first|refine fun (K : V → List _ → _) hK=>?_|refine fun (_ : V → V)=>?_|refine fun (bb : Nat → Bool) K hK=>?_);simp (maxSteps:=1000000) (disch:=omega) only [go_sem,Int.reduceEq,↓reduceIte,reduceCtorEq,Nat.reduceEqDiff,Nat.reduceLT,Nat.reduceLeDiff,Nat.reduceAdd,Nat.reduceSub,Nat.reduceMul,Int.reduceToNat,Int.reduceLE,Int.reduceLT,Z4,Sp_tree_Node_depth,Sp_tree_Node_first,SpK_tree_Node_depth,Lo_succ,Lo_zero,dZ,dA,dB,Sg3,St.updIf,ifc_nil,gt_ifc,go_ifc,ite_self,Option.none_or,Option.some_or];(try (revert hK;intro hK;(repeat' first|(refine And.intro ?_ ?_)|(intro hc;first|cases hc|((try rw [hc]);(try simp only [stH] at hc);(try (exfalso;omega)))));all_goals first|(refine hK _ _ ?_;clear hK K;simp only [stU])|exact hK|omega)))) <;> (fail_if_success (show False;skip))))
      all_goals (refine Ends.of (nm []) (by first|exact .inl rfl|exact .inr rfl) ?_;simp (maxSteps:=1000000) (disch:=omega) only [go_sem,Int.reduceEq,↓reduceIte,reduceCtorEq,Nat.reduceEqDiff,Nat.reduceLT,Nat.reduceLeDiff,Nat.reduceAdd,Nat.reduceSub,Nat.reduceMul,Int.reduceToNat,Int.reduceLE,Int.reduceLT,Z4,Sp_tree_Node_depth,Sp_tree_Node_first,SpK_tree_Node_depth,Lo_succ,Lo_zero,hz])
  have hpl : 0 < p.length:=by cases p;exact absurd rfl p0;simp
  have dZ : decide ((p.length : Int) = 0) = false:=decide_eq_false (by omega)
  by_cases k2 : k < 2
  · have hz : dv (chk k top (.mk l f p)) = -1:=by
      rcases (show k = 0 ∨ k = 1 by omega) with rfl|rfl
      · rfl
      · rw [chk_bad];rfl
        rintro ⟨c,hc⟩
        obtain ⟨c0,h0⟩:=chk_parts0 p0 hc
        cases h0
    have dE : decide (e < 2) = true:=decide_eq_true (by omega)
    cases top
    all_goals (repeat' ((first
 | refine AW.seq ?_
 | refine AW.block ?_
 | refine AW.regl Z4_ok [0,1,2,3,6,7,8,9,10,12,16,37,68,77,78,79,80,103] ?_
 | (refine AW.regc (id:=14) Z4_ok follows bb_tree_Node_depth_14 (by kernel_rfl) [0,1,2,3,6,7,8,9,10,12,16,37,68,77,78,79,80,103] ?_)
 | refine then_n ?_
 | refine then_r ?_
 | refine then_x ?_
 | refine block_x ?_
 | refine block_o (by decide) ?_
 | refine block_n ?_
 | refine block_r ?_
 | refine AW.skip ?_
 | refine AW.ret ?_
 | refine AW.exit ?_
 | refine AW.cond rfl ?_ ?_
 | refine awl_none rfl ?_
 | refine awl_nil2 ?_
 | refine awl_some rfl rfl (Nat.le_of_ble_eq_true rfl) rfl rfl ?_ ?_
 | refine awc_none rfl ?_
 | refine awc_some rfl rfl (Nat.le_of_ble_eq_true rfl) rfl rfl ?_ ?_
 | exact each_nil
 | (refine each_some rfl rfl (Nat.le_of_ble_eq_true rfl) rfl ?_ ?_;first|(rw [if_pos rfl])|(rw [if_neg (by decide)];exact ⟨rfl,rfl⟩))
 | refine each_none rfl ?_ ?_
 | refine awc_leaf2 [some 84,some 85,some 86,some 87,some 88,some 89,some 90,some 91,some 92,some 93,some 94,some 95,some 96,some 97,some 98,some 99,some 100,some 101,some 102,some 103] cc_tree_Node_depth_14 rfl (by kernel_rfl) (by kernel_rfl) ?_ ?_
 | (refine fun (hc : _ = _)=>?_;first|cases hc|((try rw [hc]);(try simp only [stH] at hc);(try (exfalso;omega)));(try ((first|show Awl _ _ _ _ _|show Awc _ _ _ _ _ _);simp only [stU])))
 | ((first|refine fun (K : V → List _ → _) hK=>?_|refine fun (_ : V → V)=>?_|refine fun (bb : Nat → Bool) K hK=>?_);simp (maxSteps:=1000000) (disch:=omega) only [go_sem,Int.reduceEq,↓reduceIte,reduceCtorEq,Nat.reduceEqDiff,Nat.reduceLT,Nat.reduceLeDiff,Nat.reduceAdd,Nat.reduceSub,Nat.reduceMul,Int.reduceToNat,Int.reduceLE,Int.reduceLT,Z4,Sp_tree_Node_depth,Sp_tree_Node_first,SpK_tree_Node_depth,Lo_succ,Lo_zero,dZ,dE,Sg3,St.updIf,ifc_nil,gt_ifc,go_ifc,ite_self,Option.none_or,Option.some_or];(try (revert hK;intro hK;(repeat' first|(refine And.intro ?_ ?_)|(intro hc;first|cases hc|((try rw [hc]);(try simp only [stH] at hc);(try (exfalso;omega)))));all_goals first|(refine hK _ _ ?_;clear hK K;simp only [stU])|exact hK|omega)))) <;> (fail_if_success (show False;skip))))
    all_goals (refine Ends.of (nm []) (by first|exact .inl rfl|exact .inr rfl) ?_;simp (maxSteps:=1000000) (disch:=omega) only [go_sem,Int.reduceEq,↓reduceIte,reduceCtorEq,Nat.reduceEqDiff,Nat.reduceLT,Nat.reduceLeDiff,Nat.reduceAdd,Nat.reduceSub,Nat.reduceMul,Int.reduceToNat,Int.reduceLE,Int.reduceLT,Z4,Sp_tree_Node_depth,Sp_tree_Node_first,SpK_tree_Node_depth,Lo_succ,Lo_zero,hz])
  obtain ⟨j,rfl⟩ : ∃ j,k = j + 1:=⟨k - 1,by omega⟩
  have dE : decide (e < 2) = false:=decide_eq_false (by omega)
  by_cases l0 : l = []
  case neg =>
    have hz : dv (chk (j + 1) top (.mk l f p)) = -1:=by rw [chk_node p0,if_neg fun h=>l0 h.1];rfl
    have dF : decide (0 < (l.length : Int)) = true:=decide_eq_true (by have:=List.length_pos_iff.2 l0;omega)
    cases top
    all_goals (repeat' ((first
 | refine AW.seq ?_
 | refine AW.block ?_
 | refine AW.regl Z4_ok [0,1,2,3,6,7,8,9,10,12,16,37,68,77,78,79,80,103] ?_
 | (refine AW.regc (id:=14) Z4_ok follows bb_tree_Node_depth_14 (by kernel_rfl) [0,1,2,3,6,7,8,9,10,12,16,37,68,77,78,79,80,103] ?_)
 | refine then_n ?_
 | refine then_r ?_
 | refine then_x ?_
 | refine block_x ?_
 | refine block_o (by decide) ?_
 | refine block_n ?_
 | refine block_r ?_
 | refine AW.skip ?_
 | refine AW.ret ?_
 | refine AW.exit ?_
 | refine AW.cond rfl ?_ ?_
 | refine awl_none rfl ?_
 | refine awl_nil2 ?_
 | refine awl_some rfl rfl (Nat.le_of_ble_eq_true rfl) rfl rfl ?_ ?_
 | refine awc_none rfl ?_
 | refine awc_some rfl rfl (Nat.le_of_ble_eq_true rfl) rfl rfl ?_ ?_
 | exact each_nil
 | (refine each_some rfl rfl (Nat.le_of_ble_eq_true rfl) rfl ?_ ?_;first|(rw [if_pos rfl])|(rw [if_neg (by decide)];exact ⟨rfl,rfl⟩))
 | refine each_none rfl ?_ ?_
 | refine awc_leaf2 [some 84,some 85,some 86,some 87,some 88,some 89,some 90,some 91,some 92,some 93,some 94,some 95,some 96,some 97,some 98,some 99,some 100,some 101,some 102,some 103] cc_tree_Node_depth_14 rfl (by kernel_rfl) (by kernel_rfl) ?_ ?_
 | (refine fun (hc : _ = _)=>?_;first|cases hc|((try rw [hc]);(try simp only [stH] at hc);(try (exfalso;omega)));(try ((first|show Awl _ _ _ _ _|show Awc _ _ _ _ _ _);simp only [stU])))
 | ((first|refine fun (K : V → List _ → _) hK=>?_|refine fun (_ : V → V)=>?_|refine fun (bb : Nat → Bool) K hK=>?_);simp (maxSteps:=1000000) (disch:=omega) only [go_sem,Int.reduceEq,↓reduceIte,reduceCtorEq,Nat.reduceEqDiff,Nat.reduceLT,Nat.reduceLeDiff,Nat.reduceAdd,Nat.reduceSub,Nat.reduceMul,Int.reduceToNat,Int.reduceLE,Int.reduceLT,Z4,Sp_tree_Node_depth,Sp_tree_Node_first,SpK_tree_Node_depth,Lo_succ,Lo_zero,dZ,dE,dF,Sg3,St.updIf,ifc_nil,gt_ifc,go_ifc,ite_self,Option.none_or,Option.some_or];(try (revert hK;intro hK;(repeat' first|(refine And.intro ?_ ?_)|(intro hc;first|cases hc|((try rw [hc]);(try simp only [stH] at hc);(try (exfalso;omega)))));all_goals first|(refine hK _ _ ?_;clear hK K;simp only [stU])|exact hK|omega)))) <;> (fail_if_success (show False;skip))))
    all_goals (refine Ends.of (nm []) (by first|exact .inl rfl|exact .inr rfl) ?_;simp (maxSteps:=1000000) (disch:=omega) only [go_sem,Int.reduceEq,↓reduceIte,reduceCtorEq,Nat.reduceEqDiff,Nat.reduceLT,Nat.reduceLeDiff,Nat.reduceAdd,Nat.reduceSub,Nat.reduceMul,Int.reduceToNat,Int.reduceLE,Int.reduceLT,Z4,Sp_tree_Node_depth,Sp_tree_Node_first,SpK_tree_Node_depth,Lo_succ,Lo_zero,hz])
  subst l0
  have dF : decide (0 < (([] : List Xt).length : Int)) = false:=by simp
  by_cases fl : f.length = p.length
  case neg =>
    have hz : dv (chk (j + 1) top (.mk [] f p)) = -1:=by
      rw [chk_bad];rfl
      rintro ⟨c,hc⟩
      rcases chk_open hc with ⟨h,_⟩|⟨_,_,_,_,h,_⟩
      · exact p0 h
      · exact fl h
    have dG : decide (¬ (f.length : Int) = (p.length : Int)) = true:=decide_eq_true (by omega)
    cases top
    all_goals (repeat' ((first
 | refine AW.seq ?_
 | refine AW.block ?_
 | refine AW.regl Z4_ok [0,1,2,3,6,7,8,9,10,12,16,37,68,77,78,79,80,103] ?_
 | (refine AW.regc (id:=14) Z4_ok follows bb_tree_Node_depth_14 (by kernel_rfl) [0,1,2,3,6,7,8,9,10,12,16,37,68,77,78,79,80,103] ?_)
 | refine then_n ?_
 | refine then_r ?_
 | refine then_x ?_
 | refine block_x ?_
 | refine block_o (by decide) ?_
 | refine block_n ?_
 | refine block_r ?_
 | refine AW.skip ?_
 | refine AW.ret ?_
 | refine AW.exit ?_
 | refine AW.cond rfl ?_ ?_
 | refine awl_none rfl ?_
 | refine awl_nil2 ?_
 | refine awl_some rfl rfl (Nat.le_of_ble_eq_true rfl) rfl rfl ?_ ?_
 | refine awc_none rfl ?_
 | refine awc_some rfl rfl (Nat.le_of_ble_eq_true rfl) rfl rfl ?_ ?_
 | exact each_nil
 | (refine each_some rfl rfl (Nat.le_of_ble_eq_true rfl) rfl ?_ ?_;first|(rw [if_pos rfl])|(rw [if_neg (by decide)];exact ⟨rfl,rfl⟩))
 | refine each_none rfl ?_ ?_
 | refine awc_leaf2 [some 84,some 85,some 86,some 87,some 88,some 89,some 90,some 91,some 92,some 93,some 94,some 95,some 96,some 97,some 98,some 99,some 100,some 101,some 102,some 103] cc_tree_Node_depth_14 rfl (by kernel_rfl) (by kernel_rfl) ?_ ?_
 | (refine fun (hc : _ = _)=>?_;first|cases hc|((try rw [hc]);(try simp only [stH] at hc);(try (exfalso;omega)));(try ((first|show Awl _ _ _ _ _|show Awc _ _ _ _ _ _);simp only [stU])))
 | ((first|refine fun (K : V → List _ → _) hK=>?_|refine fun (_ : V → V)=>?_|refine fun (bb : Nat → Bool) K hK=>?_);simp (maxSteps:=1000000) (disch:=omega) only [go_sem,Int.reduceEq,↓reduceIte,reduceCtorEq,Nat.reduceEqDiff,Nat.reduceLT,Nat.reduceLeDiff,Nat.reduceAdd,Nat.reduceSub,Nat.reduceMul,Int.reduceToNat,Int.reduceLE,Int.reduceLT,Z4,Sp_tree_Node_depth,Sp_tree_Node_first,SpK_tree_Node_depth,Lo_succ,Lo_zero,dZ,dE,dF,dG,Sg3,St.updIf,ifc_nil,gt_ifc,go_ifc,ite_self,Option.none_or,Option.some_or];(try (revert hK;intro hK;(repeat' first|(refine And.intro ?_ ?_)|(intro hc;first|cases hc|((try rw [hc]);(try simp only [stH] at hc);(try (exfalso;omega)))));all_goals first|(refine hK _ _ ?_;clear hK K;simp only [stU])|exact hK|omega)))) <;> (fail_if_success (show False;skip))))
    all_goals (refine Ends.of (nm []) (by first|exact .inl rfl|exact .inr rfl) ?_;simp (maxSteps:=1000000) (disch:=omega) only [go_sem,Int.reduceEq,↓reduceIte,reduceCtorEq,Nat.reduceEqDiff,Nat.reduceLT,Nat.reduceLeDiff,Nat.reduceAdd,Nat.reduceSub,Nat.reduceMul,Int.reduceToNat,Int.reduceLE,Int.reduceLT,Z4,Sp_tree_Node_depth,Sp_tree_Node_first,SpK_tree_Node_depth,Lo_succ,Lo_zero,hz])
  have dG : decide (¬ (f.length : Int) = (p.length : Int)) = false:=decide_eq_false (by omega)
  by_cases p8 : p.length ≤ 8
  case neg =>
    have hz : dv (chk (j + 1) top (.mk [] f p)) = -1:=by rw [chk_node p0,if_neg fun h=>p8 h.2.2];rfl
    have dI : decide (8 < (p.length : Int)) = true:=decide_eq_true (by omega)
    have dH2 : decide ((p.length : Int) < 2) = false:=decide_eq_false (by omega)
    have dH4 : decide ((p.length : Int) < 4) = false:=decide_eq_false (by omega)
    cases top
    all_goals (repeat' ((first
 | refine AW.seq ?_
 | refine AW.block ?_
 | refine AW.regl Z4_ok [0,1,2,3,6,7,8,9,10,12,16,37,68,77,78,79,80,103] ?_
 | (refine AW.regc (id:=14) Z4_ok follows bb_tree_Node_depth_14 (by kernel_rfl) [0,1,2,3,6,7,8,9,10,12,16,37,68,77,78,79,80,103] ?_)
 | refine then_n ?_
 | refine then_r ?_
 | refine then_x ?_
 | refine block_x ?_
 | refine block_o (by decide) ?_
 | refine block_n ?_
 | refine block_r ?_
 | refine AW.skip ?_
 | refine AW.ret ?_
 | refine AW.exit ?_
 | refine AW.cond rfl ?_ ?_
 | refine awl_none rfl ?_
 | refine awl_nil2 ?_
 | refine awl_some rfl rfl (Nat.le_of_ble_eq_true rfl) rfl rfl ?_ ?_
 | refine awc_none rfl ?_
 | refine awc_some rfl rfl (Nat.le_of_ble_eq_true rfl) rfl rfl ?_ ?_
 | exact each_nil
 | (refine each_some rfl rfl (Nat.le_of_ble_eq_true rfl) rfl ?_ ?_;first|(rw [if_pos rfl])|(rw [if_neg (by decide)];exact ⟨rfl,rfl⟩))
 | refine each_none rfl ?_ ?_
 | refine awc_leaf2 [some 84,some 85,some 86,some 87,some 88,some 89,some 90,some 91,some 92,some 93,some 94,some 95,some 96,some 97,some 98,some 99,some 100,some 101,some 102,some 103] cc_tree_Node_depth_14 rfl (by kernel_rfl) (by kernel_rfl) ?_ ?_
 | (refine fun (hc : _ = _)=>?_;first|cases hc|((try rw [hc]);(try simp only [stH] at hc);(try (exfalso;omega)));(try ((first|show Awl _ _ _ _ _|show Awc _ _ _ _ _ _);simp only [stU])))
 | ((first|refine fun (K : V → List _ → _) hK=>?_|refine fun (_ : V → V)=>?_|refine fun (bb : Nat → Bool) K hK=>?_);simp (maxSteps:=1000000) (disch:=omega) only [go_sem,Int.reduceEq,↓reduceIte,reduceCtorEq,Nat.reduceEqDiff,Nat.reduceLT,Nat.reduceLeDiff,Nat.reduceAdd,Nat.reduceSub,Nat.reduceMul,Int.reduceToNat,Int.reduceLE,Int.reduceLT,Z4,Sp_tree_Node_depth,Sp_tree_Node_first,SpK_tree_Node_depth,Lo_succ,Lo_zero,dZ,dE,dF,dG,dI,dH2,dH4,mx1,mx4,Sg3,St.updIf,ifc_nil,gt_ifc,go_ifc,ite_self,Option.none_or,Option.some_or];(try (revert hK;intro hK;(repeat' first|(refine And.intro ?_ ?_)|(intro hc;first|cases hc|((try rw [hc]);(try simp only [stH] at hc);(try (exfalso;omega)))));all_goals first|(refine hK _ _ ?_;clear hK K;simp only [stU])|exact hK|omega)))) <;> (fail_if_success (show False;skip))))
    all_goals (refine Ends.of (nm []) (by first|exact .inl rfl|exact .inr rfl) ?_;simp (maxSteps:=1000000) (disch:=omega) only [go_sem,Int.reduceEq,↓reduceIte,reduceCtorEq,Nat.reduceEqDiff,Nat.reduceLT,Nat.reduceLeDiff,Nat.reduceAdd,Nat.reduceSub,Nat.reduceMul,Int.reduceToNat,Int.reduceLE,Int.reduceLT,Z4,Sp_tree_Node_depth,Sp_tree_Node_first,SpK_tree_Node_depth,Lo_succ,Lo_zero,hz])
  have dI : decide (8 < (p.length : Int)) = false:=decide_eq_false (by omega)
  by_cases pl : max 2 (lst top) ≤ p.length
  case neg =>
    have hz : dv (chk (j + 1) top (.mk [] f p)) = -1:=by rw [chk_node p0,if_neg fun h=>pl h.2.1];rfl
    cases top
    · have dH4 : decide ((p.length : Int) < 4) = true:=decide_eq_true (by rw [lst_f] at pl;omega)
      repeat' ((first
 | refine AW.seq ?_
 | refine AW.block ?_
 | refine AW.regl Z4_ok [0,1,2,3,6,7,8,9,10,12,16,37,68,77,78,79,80,103] ?_
 | (refine AW.regc (id:=14) Z4_ok follows bb_tree_Node_depth_14 (by kernel_rfl) [0,1,2,3,6,7,8,9,10,12,16,37,68,77,78,79,80,103] ?_)
 | refine then_n ?_
 | refine then_r ?_
 | refine then_x ?_
 | refine block_x ?_
 | refine block_o (by decide) ?_
 | refine block_n ?_
 | refine block_r ?_
 | refine AW.skip ?_
 | refine AW.ret ?_
 | refine AW.exit ?_
 | refine AW.cond rfl ?_ ?_
 | refine awl_none rfl ?_
 | refine awl_nil2 ?_
 | refine awl_some rfl rfl (Nat.le_of_ble_eq_true rfl) rfl rfl ?_ ?_
 | refine awc_none rfl ?_
 | refine awc_some rfl rfl (Nat.le_of_ble_eq_true rfl) rfl rfl ?_ ?_
 | exact each_nil
 | (refine each_some rfl rfl (Nat.le_of_ble_eq_true rfl) rfl ?_ ?_;first|(rw [if_pos rfl])|(rw [if_neg (by decide)];exact ⟨rfl,rfl⟩))
 | refine each_none rfl ?_ ?_
 | refine awc_leaf2 [some 84,some 85,some 86,some 87,some 88,some 89,some 90,some 91,some 92,some 93,some 94,some 95,some 96,some 97,some 98,some 99,some 100,some 101,some 102,some 103] cc_tree_Node_depth_14 rfl (by kernel_rfl) (by kernel_rfl) ?_ ?_
 | (refine fun (hc : _ = _)=>?_;first|cases hc|((try rw [hc]);(try simp only [stH] at hc);(try (exfalso;omega)));(try ((first|show Awl _ _ _ _ _|show Awc _ _ _ _ _ _);simp only [stU])))
 | ((first|refine fun (K : V → List _ → _) hK=>?_|refine fun (_ : V → V)=>?_|refine fun (bb : Nat → Bool) K hK=>?_);simp (maxSteps:=1000000) (disch:=omega) only [go_sem,Int.reduceEq,↓reduceIte,reduceCtorEq,Nat.reduceEqDiff,Nat.reduceLT,Nat.reduceLeDiff,Nat.reduceAdd,Nat.reduceSub,Nat.reduceMul,Int.reduceToNat,Int.reduceLE,Int.reduceLT,Z4,Sp_tree_Node_depth,Sp_tree_Node_first,SpK_tree_Node_depth,Lo_succ,Lo_zero,dZ,dE,dF,dG,dI,dH4,mx1,mx4,Sg3,St.updIf,ifc_nil,gt_ifc,go_ifc,ite_self,Option.none_or,Option.some_or];(try (revert hK;intro hK;(repeat' first|(refine And.intro ?_ ?_)|(intro hc;first|cases hc|((try rw [hc]);(try simp only [stH] at hc);(try (exfalso;omega)))));all_goals first|(refine hK _ _ ?_;clear hK K;simp only [stU])|exact hK|omega)))) <;> (fail_if_success (show False;skip)))
      all_goals (refine Ends.of (nm []) (by first|exact .inl rfl|exact .inr rfl) ?_;simp (maxSteps:=1000000) (disch:=omega) only [go_sem,Int.reduceEq,↓reduceIte,reduceCtorEq,Nat.reduceEqDiff,Nat.reduceLT,Nat.reduceLeDiff,Nat.reduceAdd,Nat.reduceSub,Nat.reduceMul,Int.reduceToNat,Int.reduceLE,Int.reduceLT,Z4,Sp_tree_Node_depth,Sp_tree_Node_first,SpK_tree_Node_depth,Lo_succ,Lo_zero,hz])
    · have dH2 : decide ((p.length : Int) < 2) = true:=decide_eq_true (by rw [lst_t] at pl;omega)
      repeat' ((first
 | refine AW.seq ?_
 | refine AW.block ?_
 | refine AW.regl Z4_ok [0,1,2,3,6,7,8,9,10,12,16,37,68,77,78,79,80,103] ?_
 | (refine AW.regc (id:=14) Z4_ok follows bb_tree_Node_depth_14 (by kernel_rfl) [0,1,2,3,6,7,8,9,10,12,16,37,68,77,78,79,80,103] ?_)
 | refine then_n ?_
 | refine then_r ?_
 | refine then_x ?_
 | refine block_x ?_
 | refine block_o (by decide) ?_
 | refine block_n ?_
 | refine block_r ?_
 | refine AW.skip ?_
 | refine AW.ret ?_
 | refine AW.exit ?_
 | refine AW.cond rfl ?_ ?_
 | refine awl_none rfl ?_
 | refine awl_nil2 ?_
 | refine awl_some rfl rfl (Nat.le_of_ble_eq_true rfl) rfl rfl ?_ ?_
 | refine awc_none rfl ?_
 | refine awc_some rfl rfl (Nat.le_of_ble_eq_true rfl) rfl rfl ?_ ?_
 | exact each_nil
 | (refine each_some rfl rfl (Nat.le_of_ble_eq_true rfl) rfl ?_ ?_;first|(rw [if_pos rfl])|(rw [if_neg (by decide)];exact ⟨rfl,rfl⟩))
 | refine each_none rfl ?_ ?_
 | refine awc_leaf2 [some 84,some 85,some 86,some 87,some 88,some 89,some 90,some 91,some 92,some 93,some 94,some 95,some 96,some 97,some 98,some 99,some 100,some 101,some 102,some 103] cc_tree_Node_depth_14 rfl (by kernel_rfl) (by kernel_rfl) ?_ ?_
 | (refine fun (hc : _ = _)=>?_;first|cases hc|((try rw [hc]);(try simp only [stH] at hc);(try (exfalso;omega)));(try ((first|show Awl _ _ _ _ _|show Awc _ _ _ _ _ _);simp only [stU])))
 | ((first|refine fun (K : V → List _ → _) hK=>?_|refine fun (_ : V → V)=>?_|refine fun (bb : Nat → Bool) K hK=>?_);simp (maxSteps:=1000000) (disch:=omega) only [go_sem,Int.reduceEq,↓reduceIte,reduceCtorEq,Nat.reduceEqDiff,Nat.reduceLT,Nat.reduceLeDiff,Nat.reduceAdd,Nat.reduceSub,Nat.reduceMul,Int.reduceToNat,Int.reduceLE,Int.reduceLT,Z4,Sp_tree_Node_depth,Sp_tree_Node_first,SpK_tree_Node_depth,Lo_succ,Lo_zero,dZ,dE,dF,dG,dI,dH2,mx1,mx4,Sg3,St.updIf,ifc_nil,gt_ifc,go_ifc,ite_self,Option.none_or,Option.some_or];(try (revert hK;intro hK;(repeat' first|(refine And.intro ?_ ?_)|(intro hc;first|cases hc|((try rw [hc]);(try simp only [stH] at hc);(try (exfalso;omega)))));all_goals first|(refine hK _ _ ?_;clear hK K;simp only [stU])|exact hK|omega)))) <;> (fail_if_success (show False;skip)))
      all_goals (refine Ends.of (nm []) (by first|exact .inl rfl|exact .inr rfl) ?_;simp (maxSteps:=1000000) (disch:=omega) only [go_sem,Int.reduceEq,↓reduceIte,reduceCtorEq,Nat.reduceEqDiff,Nat.reduceLT,Nat.reduceLeDiff,Nat.reduceAdd,Nat.reduceSub,Nat.reduceMul,Int.reduceToNat,Int.reduceLE,Int.reduceLT,Z4,Sp_tree_Node_depth,Sp_tree_Node_first,SpK_tree_Node_depth,Lo_succ,Lo_zero,hz])
  have hbad : ∀ h : (∃ c,chk (j + 1) top (.mk [] f p) = some c) → False,dv (chk (j + 1) top (.mk [] f p)) = -1:=fun h=>by rw [chk_bad h];rfl
  have hj : e - 1 = (j : Int):=by omega
  have hj8 : (j ≤ 8) = True:=eq_true (by omega)
  have e0:=nth_N p 0 hpl
  have hz0:=hps _ (memN_getD hpl)
  have hcp:=fun (c : Ck) (hc : chk (j + 1) top (.mk [] f p) = some c) (r0 : List Xt) (d0 m0 : Nat)=>chk_parts p0 hc (r0:=r0) (d0:=d0) (m0:=m0)
  have hcp0:=fun (c : Ck) (hc : chk (j + 1) top (.mk [] f p) = some c)=>chk_parts0 p0 hc
  have hend : ∀ r0 d0 m0,chk j false (p.getD 0 n0) = some (r0,d0,m0) → (∃ q,chkP (chk j false) d0 f p = some q) → dv (chk (j + 1) top (.mk [] f p)) = (d0 : Int) + 1:=fun r0 d0 m0 h ⟨q,hq⟩=>by
    rw [chk_node p0,if_pos ⟨rfl,pl,p8⟩,h];simp only;rw [hq];rfl
  obtain ⟨⟨la,fa,pa⟩,hn0⟩ : ∃ n,p.getD 0 n0 = n:=⟨_,rfl⟩
  rw [hn0,nD_mk] at e0
  rw [hn0] at hz0 hcp hcp0 hend
  have hz0t : SzN (.mk la fa pa) = True:=eq_true hz0
  obtain ⟨v,hv⟩ : ∃ v,dv (chk (j + 1) top (.mk [] f p)) = v:=⟨_,rfl⟩
  rw [hv] at hbad hend ⊢
  obtain ⟨o0,ho0⟩ : ∃ o,chk j false (.mk la fa pa) = o:=⟨_,rfl⟩
  rw [ho0] at hcp hcp0 hend
  refine AW.m6 ⟨[(2,.d (.v (.int .i64 e))),(3,.ptr 3 0),(6,.junk),(8,.d (.v (.int .i64 (dv o0))))],[(3,.box [.d (.list []),.d (.list (f.map mI)),.d (.list (p.map nD))])],107⟩ ?_ ?_
  · cases top
    · have dHx : decide ((p.length : Int) < 4) = false:=decide_eq_false (by rw [lst_f] at pl;omega)
      repeat' ((first
 | refine AW.seq ?_
 | refine AW.block ?_
 | refine AW.regl Z4_ok [0,1,2,3,6,7,8,9,10,12,16,37,68,77,78,79,80,103] ?_
 | (refine AW.regc (id:=14) Z4_ok follows bb_tree_Node_depth_14 (by kernel_rfl) [0,1,2,3,6,7,8,9,10,12,16,37,68,77,78,79,80,103] ?_)
 | refine then_n ?_
 | refine then_r ?_
 | refine then_x ?_
 | refine block_x ?_
 | refine block_o (by decide) ?_
 | refine block_n ?_
 | refine block_r ?_
 | refine AW.skip ?_
 | refine AW.ret ?_
 | refine AW.exit ?_
 | refine AW.cond rfl ?_ ?_
 | refine awl_none rfl ?_
 | refine awl_nil2 ?_
 | refine awl_some rfl rfl (Nat.le_of_ble_eq_true rfl) rfl rfl ?_ ?_
 | refine awc_none rfl ?_
 | refine awc_some rfl rfl (Nat.le_of_ble_eq_true rfl) rfl rfl ?_ ?_
 | exact each_nil
 | (refine each_some rfl rfl (Nat.le_of_ble_eq_true rfl) rfl ?_ ?_;first|(rw [if_pos rfl])|(rw [if_neg (by decide)];exact ⟨rfl,rfl⟩))
 | refine each_none rfl ?_ ?_
 | refine awc_leaf2 [some 84,some 85,some 86,some 87,some 88,some 89,some 90,some 91,some 92,some 93,some 94,some 95,some 96,some 97,some 98,some 99,some 100,some 101,some 102,some 103] cc_tree_Node_depth_14 rfl (by kernel_rfl) (by kernel_rfl) ?_ ?_
 | (refine fun (hc : _ = _)=>?_;first|cases hc|((try rw [hc]);(try simp only [stH] at hc);(try (exfalso;omega)));(try ((first|show Awl _ _ _ _ _|show Awc _ _ _ _ _ _);simp only [stU])))
 | ((first|refine fun (K : V → List _ → _) hK=>?_|refine fun (_ : V → V)=>?_|refine fun (bb : Nat → Bool) K hK=>?_);simp (maxSteps:=1000000) (disch:=omega) only [go_sem,Int.reduceEq,↓reduceIte,reduceCtorEq,Nat.reduceEqDiff,Nat.reduceLT,Nat.reduceLeDiff,Nat.reduceAdd,Nat.reduceSub,Nat.reduceMul,Int.reduceToNat,Int.reduceLE,Int.reduceLT,Z4,Sp_tree_Node_depth,Sp_tree_Node_first,SpK_tree_Node_depth,Lo_succ,Lo_zero,dZ,dE,dF,dG,dI,dHx,mx1,mx4,e0,hj,hj8,hz0t,ho0,all_N,eD_inj,mI_inj,nD_inj,Sg3,St.updIf,ifc_nil,gt_ifc,go_ifc,ite_self,Option.none_or,Option.some_or];(try (revert hK;intro hK;(repeat' first|(refine And.intro ?_ ?_)|(intro hc;first|cases hc|((try rw [hc]);(try simp only [stH] at hc);(try (exfalso;omega)))));all_goals first|(refine hK _ _ ?_;clear hK K;simp only [stU])|exact hK|omega)))) <;> (fail_if_success (show False;skip)))
      refine ⟨nm [(3,3)],Wk.of ?_⟩
      simp (maxSteps:=1000000) (disch:=omega) only [go_sem,Int.reduceEq,↓reduceIte,reduceCtorEq,Nat.reduceEqDiff,Nat.reduceLT,Nat.reduceLeDiff,Nat.reduceAdd,Nat.reduceSub,Nat.reduceMul,Int.reduceToNat,Int.reduceLE,Int.reduceLT,Z4,Sp_tree_Node_depth,Sp_tree_Node_first,SpK_tree_Node_depth,Lo_succ,Lo_zero]
      all_goals rfl
    · have dHx : decide ((p.length : Int) < 2) = false:=decide_eq_false (by rw [lst_t] at pl;omega)
      repeat' ((first
 | refine AW.seq ?_
 | refine AW.block ?_
 | refine AW.regl Z4_ok [0,1,2,3,6,7,8,9,10,12,16,37,68,77,78,79,80,103] ?_
 | (refine AW.regc (id:=14) Z4_ok follows bb_tree_Node_depth_14 (by kernel_rfl) [0,1,2,3,6,7,8,9,10,12,16,37,68,77,78,79,80,103] ?_)
 | refine then_n ?_
 | refine then_r ?_
 | refine then_x ?_
 | refine block_x ?_
 | refine block_o (by decide) ?_
 | refine block_n ?_
 | refine block_r ?_
 | refine AW.skip ?_
 | refine AW.ret ?_
 | refine AW.exit ?_
 | refine AW.cond rfl ?_ ?_
 | refine awl_none rfl ?_
 | refine awl_nil2 ?_
 | refine awl_some rfl rfl (Nat.le_of_ble_eq_true rfl) rfl rfl ?_ ?_
 | refine awc_none rfl ?_
 | refine awc_some rfl rfl (Nat.le_of_ble_eq_true rfl) rfl rfl ?_ ?_
 | exact each_nil
 | (refine each_some rfl rfl (Nat.le_of_ble_eq_true rfl) rfl ?_ ?_;first|(rw [if_pos rfl])|(rw [if_neg (by decide)];exact ⟨rfl,rfl⟩))
 | refine each_none rfl ?_ ?_
 | refine awc_leaf2 [some 84,some 85,some 86,some 87,some 88,some 89,some 90,some 91,some 92,some 93,some 94,some 95,some 96,some 97,some 98,some 99,some 100,some 101,some 102,some 103] cc_tree_Node_depth_14 rfl (by kernel_rfl) (by kernel_rfl) ?_ ?_
 | (refine fun (hc : _ = _)=>?_;first|cases hc|((try rw [hc]);(try simp only [stH] at hc);(try (exfalso;omega)));(try ((first|show Awl _ _ _ _ _|show Awc _ _ _ _ _ _);simp only [stU])))
 | ((first|refine fun (K : V → List _ → _) hK=>?_|refine fun (_ : V → V)=>?_|refine fun (bb : Nat → Bool) K hK=>?_);simp (maxSteps:=1000000) (disch:=omega) only [go_sem,Int.reduceEq,↓reduceIte,reduceCtorEq,Nat.reduceEqDiff,Nat.reduceLT,Nat.reduceLeDiff,Nat.reduceAdd,Nat.reduceSub,Nat.reduceMul,Int.reduceToNat,Int.reduceLE,Int.reduceLT,Z4,Sp_tree_Node_depth,Sp_tree_Node_first,SpK_tree_Node_depth,Lo_succ,Lo_zero,dZ,dE,dF,dG,dI,dHx,mx1,mx4,e0,hj,hj8,hz0t,ho0,all_N,eD_inj,mI_inj,nD_inj,Sg3,St.updIf,ifc_nil,gt_ifc,go_ifc,ite_self,Option.none_or,Option.some_or];(try (revert hK;intro hK;(repeat' first|(refine And.intro ?_ ?_)|(intro hc;first|cases hc|((try rw [hc]);(try simp only [stH] at hc);(try (exfalso;omega)))));all_goals first|(refine hK _ _ ?_;clear hK K;simp only [stU])|exact hK|omega)))) <;> (fail_if_success (show False;skip)))
      refine ⟨nm [(3,3)],Wk.of ?_⟩
      simp (maxSteps:=1000000) (disch:=omega) only [go_sem,Int.reduceEq,↓reduceIte,reduceCtorEq,Nat.reduceEqDiff,Nat.reduceLT,Nat.reduceLeDiff,Nat.reduceAdd,Nat.reduceSub,Nat.reduceMul,Int.reduceToNat,Int.reduceLE,Int.reduceLT,Z4,Sp_tree_Node_depth,Sp_tree_Node_first,SpK_tree_Node_depth,Lo_succ,Lo_zero]
      all_goals rfl
  cases o0 with
  | none =>
    have hz : v = -1:=hbad fun ⟨c,hc⟩=>by obtain ⟨c0,h0⟩:=hcp0 c hc;cases h0
    have d0 : decide ((-1 : Int) < 0) = true:=by decide
    repeat' ((first
 | refine AW.seq ?_
 | refine AW.block ?_
 | refine AW.regl Z4_ok [0,1,2,3,6,7,8,9,10,12,16,37,68,77,78,79,80,103] ?_
 | (refine AW.regc (id:=14) Z4_ok follows bb_tree_Node_depth_14 (by kernel_rfl) [0,1,2,3,6,7,8,9,10,12,16,37,68,77,78,79,80,103] ?_)
 | refine then_n ?_
 | refine then_r ?_
 | refine then_x ?_
 | refine block_x ?_
 | refine block_o (by decide) ?_
 | refine block_n ?_
 | refine block_r ?_
 | refine AW.skip ?_
 | refine AW.ret ?_
 | refine AW.exit ?_
 | refine AW.cond rfl ?_ ?_
 | refine awl_none rfl ?_
 | refine awl_nil2 ?_
 | refine awl_some rfl rfl (Nat.le_of_ble_eq_true rfl) rfl rfl ?_ ?_
 | refine awc_none rfl ?_
 | refine awc_some rfl rfl (Nat.le_of_ble_eq_true rfl) rfl rfl ?_ ?_
 | exact each_nil
 | (refine each_some rfl rfl (Nat.le_of_ble_eq_true rfl) rfl ?_ ?_;first|(rw [if_pos rfl])|(rw [if_neg (by decide)];exact ⟨rfl,rfl⟩))
 | refine each_none rfl ?_ ?_
 | refine awc_leaf2 [some 84,some 85,some 86,some 87,some 88,some 89,some 90,some 91,some 92,some 93,some 94,some 95,some 96,some 97,some 98,some 99,some 100,some 101,some 102,some 103] cc_tree_Node_depth_14 rfl (by kernel_rfl) (by kernel_rfl) ?_ ?_
 | (refine fun (hc : _ = _)=>?_;first|cases hc|((try rw [hc]);(try simp only [stH] at hc);(try (exfalso;omega)));(try ((first|show Awl _ _ _ _ _|show Awc _ _ _ _ _ _);simp only [stU])))
 | ((first|refine fun (K : V → List _ → _) hK=>?_|refine fun (_ : V → V)=>?_|refine fun (bb : Nat → Bool) K hK=>?_);simp (maxSteps:=1000000) (disch:=omega) only [go_sem,Int.reduceEq,↓reduceIte,reduceCtorEq,Nat.reduceEqDiff,Nat.reduceLT,Nat.reduceLeDiff,Nat.reduceAdd,Nat.reduceSub,Nat.reduceMul,Int.reduceToNat,Int.reduceLE,Int.reduceLT,Z4,Sp_tree_Node_depth,Sp_tree_Node_first,SpK_tree_Node_depth,Lo_succ,Lo_zero,dv_n,Sg3,St.updIf,ifc_nil,gt_ifc,go_ifc,ite_self,Option.none_or,Option.some_or];(try (revert hK;intro hK;(repeat' first|(refine And.intro ?_ ?_)|(intro hc;first|cases hc|((try rw [hc]);(try simp only [stH] at hc);(try (exfalso;omega)))));all_goals first|(refine hK _ _ ?_;clear hK K;simp only [stU])|exact hK|omega)))) <;> (fail_if_success (show False;skip)))
    refine AW.loop_wk (fun i : Nat=>⟨[(2,.d (.v (.int .i64 e))),(3,.ptr 3 0),(8,.d (.v (.int .i64 (-1)))),(77,.d (.list (p.map nD))),(78,.d (.v (.int .i64 p.length))),(79,.d (.v (.int .i64 i)))],[(3,.box [.d (.list []),.d (.list (f.map mI)),.d (.list (p.map nD))])],107⟩)
      (fun i=>i = 0) (fun i=>0) 0 rfl (fun w0 oa aa w hs=>Wk.sr (ρ:=nm []) (Wk.of ?_) hs) ?_
    · simp (maxSteps:=1000000) (disch:=omega) only [go_sem,Int.reduceEq,↓reduceIte,reduceCtorEq,Nat.reduceEqDiff,Nat.reduceLT,Nat.reduceLeDiff,Nat.reduceAdd,Nat.reduceSub,Nat.reduceMul,Int.reduceToNat,Int.reduceLE,Int.reduceLT,Z4,Sp_tree_Node_depth,Sp_tree_Node_first,SpK_tree_Node_depth,Lo_succ,Lo_zero]
    rintro i rfl
    have e0':=e0
    repeat' ((first
 | refine AW.seq ?_
 | refine AW.block ?_
 | refine AW.regl Z4_ok [0,1,2,3,6,7,8,9,10,12,16,37,68,77,78,79,80,103] ?_
 | (refine AW.regc (id:=14) Z4_ok follows bb_tree_Node_depth_14 (by kernel_rfl) [0,1,2,3,6,7,8,9,10,12,16,37,68,77,78,79,80,103] ?_)
 | refine then_n ?_
 | refine then_r ?_
 | refine then_x ?_
 | refine block_x ?_
 | refine block_o (by decide) ?_
 | refine block_n ?_
 | refine block_r ?_
 | refine AW.skip ?_
 | refine AW.ret ?_
 | refine AW.exit ?_
 | refine AW.cond rfl ?_ ?_
 | refine awl_none rfl ?_
 | refine awl_nil2 ?_
 | refine awl_some rfl rfl (Nat.le_of_ble_eq_true rfl) rfl rfl ?_ ?_
 | refine awc_none rfl ?_
 | refine awc_some rfl rfl (Nat.le_of_ble_eq_true rfl) rfl rfl ?_ ?_
 | exact each_nil
 | (refine each_some rfl rfl (Nat.le_of_ble_eq_true rfl) rfl ?_ ?_;first|(rw [if_pos rfl])|(rw [if_neg (by decide)];exact ⟨rfl,rfl⟩))
 | refine each_none rfl ?_ ?_
 | refine awc_leaf2 [some 84,some 85,some 86,some 87,some 88,some 89,some 90,some 91,some 92,some 93,some 94,some 95,some 96,some 97,some 98,some 99,some 100,some 101,some 102,some 103] cc_tree_Node_depth_14 rfl (by kernel_rfl) (by kernel_rfl) ?_ ?_
 | (refine fun (hc : _ = _)=>?_;first|cases hc|((try rw [hc]);(try simp only [stH] at hc);(try (exfalso;omega)));(try ((first|show Awl _ _ _ _ _|show Awc _ _ _ _ _ _);simp only [stU])))
 | ((first|refine fun (K : V → List _ → _) hK=>?_|refine fun (_ : V → V)=>?_|refine fun (bb : Nat → Bool) K hK=>?_);simp (maxSteps:=1000000) (disch:=omega) only [go_sem,Int.reduceEq,↓reduceIte,reduceCtorEq,Nat.reduceEqDiff,Nat.reduceLT,Nat.reduceLeDiff,Nat.reduceAdd,Nat.reduceSub,Nat.reduceMul,Int.reduceToNat,Int.reduceLE,Int.reduceLT,Z4,Sp_tree_Node_depth,Sp_tree_Node_first,SpK_tree_Node_depth,Lo_succ,Lo_zero,e0,d0,all_N,Sg3,St.updIf,ifc_nil,gt_ifc,go_ifc,ite_self,Option.none_or,Option.some_or];(try (revert hK;intro hK;(repeat' first|(refine And.intro ?_ ?_)|(intro hc;first|cases hc|((try rw [hc]);(try simp only [stH] at hc);(try (exfalso;omega)))));all_goals first|(refine hK _ _ ?_;clear hK K;simp only [stU])|exact hK|omega)))) <;> (fail_if_success (show False;skip)))
    all_goals (refine Ends.of (nm []) (by first|exact .inl rfl|exact .inr rfl) ?_;simp (maxSteps:=1000000) (disch:=omega) only [go_sem,Int.reduceEq,↓reduceIte,reduceCtorEq,Nat.reduceEqDiff,Nat.reduceLT,Nat.reduceLeDiff,Nat.reduceAdd,Nat.reduceSub,Nat.reduceMul,Int.reduceToNat,Int.reduceLE,Int.reduceLT,Z4,Sp_tree_Node_depth,Sp_tree_Node_first,SpK_tree_Node_depth,Lo_succ,Lo_zero,hz])
  | some c0 =>
    obtain ⟨r0,d0,m0⟩:=c0
    have hd0:=(chk_size ho0).1
    have hd8:=(chk_size ho0).2.1
    have dN : decide ((d0 : Int) < 0) = false:=decide_eq_false (by omega)
    have hq0 : gP j d0 f p 0:=⟨Nat.zero_le _,([],0),by simp [chkP]⟩
    repeat' ((first
 | refine AW.seq ?_
 | refine AW.block ?_
 | refine AW.regl Z4_ok [0,1,2,3,6,7,8,9,10,12,16,37,68,77,78,79,80,103] ?_
 | (refine AW.regc (id:=14) Z4_ok follows bb_tree_Node_depth_14 (by kernel_rfl) [0,1,2,3,6,7,8,9,10,12,16,37,68,77,78,79,80,103] ?_)
 | refine then_n ?_
 | refine then_r ?_
 | refine then_x ?_
 | refine block_x ?_
 | refine block_o (by decide) ?_
 | refine block_n ?_
 | refine block_r ?_
 | refine AW.skip ?_
 | refine AW.ret ?_
 | refine AW.exit ?_
 | refine AW.cond rfl ?_ ?_
 | refine awl_none rfl ?_
 | refine awl_nil2 ?_
 | refine awl_some rfl rfl (Nat.le_of_ble_eq_true rfl) rfl rfl ?_ ?_
 | refine awc_none rfl ?_
 | refine awc_some rfl rfl (Nat.le_of_ble_eq_true rfl) rfl rfl ?_ ?_
 | exact each_nil
 | (refine each_some rfl rfl (Nat.le_of_ble_eq_true rfl) rfl ?_ ?_;first|(rw [if_pos rfl])|(rw [if_neg (by decide)];exact ⟨rfl,rfl⟩))
 | refine each_none rfl ?_ ?_
 | refine awc_leaf2 [some 84,some 85,some 86,some 87,some 88,some 89,some 90,some 91,some 92,some 93,some 94,some 95,some 96,some 97,some 98,some 99,some 100,some 101,some 102,some 103] cc_tree_Node_depth_14 rfl (by kernel_rfl) (by kernel_rfl) ?_ ?_
 | (refine fun (hc : _ = _)=>?_;first|cases hc|((try rw [hc]);(try simp only [stH] at hc);(try (exfalso;omega)));(try ((first|show Awl _ _ _ _ _|show Awc _ _ _ _ _ _);simp only [stU])))
 | ((first|refine fun (K : V → List _ → _) hK=>?_|refine fun (_ : V → V)=>?_|refine fun (bb : Nat → Bool) K hK=>?_);simp (maxSteps:=1000000) (disch:=omega) only [go_sem,Int.reduceEq,↓reduceIte,reduceCtorEq,Nat.reduceEqDiff,Nat.reduceLT,Nat.reduceLeDiff,Nat.reduceAdd,Nat.reduceSub,Nat.reduceMul,Int.reduceToNat,Int.reduceLE,Int.reduceLT,Z4,Sp_tree_Node_depth,Sp_tree_Node_first,SpK_tree_Node_depth,Lo_succ,Lo_zero,dv_s,Sg3,St.updIf,ifc_nil,gt_ifc,go_ifc,ite_self,Option.none_or,Option.some_or];(try (revert hK;intro hK;(repeat' first|(refine And.intro ?_ ?_)|(intro hc;first|cases hc|((try rw [hc]);(try simp only [stH] at hc);(try (exfalso;omega)))));all_goals first|(refine hK _ _ ?_;clear hK K;simp only [stU])|exact hK|omega)))) <;> (fail_if_success (show False;skip)))
    refine AW.loop_wk (fun i : Nat=>⟨[(2,.d (.v (.int .i64 e))),(3,.ptr 3 0),(8,.d (.v (.int .i64 d0))),(77,.d (.list (p.map nD))),(78,.d (.v (.int .i64 p.length))),(79,.d (.v (.int .i64 i)))],[(3,.box [.d (.list []),.d (.list (f.map mI)),.d (.list (p.map nD))])],107⟩)
      (gP j d0 f p) (fun i=>p.length - i) 0 hq0 (fun w0 oa aa w hs=>Wk.sr (ρ:=nm []) (Wk.of ?_) hs) ?_
    · simp (maxSteps:=1000000) (disch:=omega) only [go_sem,Int.reduceEq,↓reduceIte,reduceCtorEq,Nat.reduceEqDiff,Nat.reduceLT,Nat.reduceLeDiff,Nat.reduceAdd,Nat.reduceSub,Nat.reduceMul,Int.reduceToNat,Int.reduceLE,Int.reduceLT,Z4,Sp_tree_Node_depth,Sp_tree_Node_first,SpK_tree_Node_depth,Lo_succ,Lo_zero]
    intro i hg
    have hi:=hg.le
    by_cases hi1 : i < p.length
    · have e1:=nth_N p i hi1
      have e2:=nth_I f i (by omega)
      have hzi:=hps _ (memN_getD hi1)
      have hget:=fun (q : List Xt × Nat) (hq : chkP (chk j false) d0 f p = some q)=>chkP_get hq i hi1
      have hstep:=fun (r : List Xt) (m : Nat) (q : List Xt × Nat)=>chkP_take (C:=chk j false) (d:=d0) (f:=f) (p:=p) (q:=q) (k:=i) (r:=r) (m:=m) hi1 (by omega)
      obtain ⟨⟨l2,f2,p2⟩,hn⟩ : ∃ n,p.getD i n0 = n:=⟨_,rfl⟩
      rw [hn,nD_mk] at e1
      rw [hn] at hzi hget hstep
      have hzit : SzN (.mk l2 f2 p2) = True:=eq_true hzi
      obtain ⟨o,ho⟩ : ∃ o,chk j false (.mk l2 f2 p2) = o:=⟨_,rfl⟩
      by_cases hdo : dv o = d0
      · obtain ⟨r,m,rfl⟩ : ∃ r m,o = some (r,d0,m):=by
          cases o with
          | none=>simp only [dv] at hdo;omega
          | some c=>obtain ⟨r,d,m⟩:=c;simp only [dv,Int.natCast_inj] at hdo;exact ⟨r,m,by rw [hdo]⟩
        obtain ⟨k1,k2⟩:=okc_8 (by omega) ho
        have k1t : okc 8 (.mk l2 f2 p2) = True:=eq_true k1
        have dV : decide (¬ (d0 : Int) = (d0 : Int)) = false:=by simp
        obtain ⟨b,hb⟩ : ∃ b,(r.getD 0 x0).f0 = b:=⟨_,rfl⟩
        by_cases hf0 : f.getD i 0 = b
        · have dW : decide (¬ b = b) = false:=by simp
          rw [hf0] at e2
          have hg' : gP j d0 f p (i + 1):=by
            obtain ⟨_,q,hq⟩:=hg
            exact ⟨by omega,_,hstep r m q ho (by rw [hf0,hb]) hq⟩
          repeat' ((first
 | refine AW.seq ?_
 | refine AW.block ?_
 | refine AW.regl Z4_ok [0,1,2,3,6,7,8,9,10,12,16,37,68,77,78,79,80,103] ?_
 | (refine AW.regc (id:=14) Z4_ok follows bb_tree_Node_depth_14 (by kernel_rfl) [0,1,2,3,6,7,8,9,10,12,16,37,68,77,78,79,80,103] ?_)
 | refine then_n ?_
 | refine then_r ?_
 | refine then_x ?_
 | refine block_x ?_
 | refine block_o (by decide) ?_
 | refine block_n ?_
 | refine block_r ?_
 | refine AW.skip ?_
 | refine AW.ret ?_
 | refine AW.exit ?_
 | refine AW.cond rfl ?_ ?_
 | refine awl_none rfl ?_
 | refine awl_nil2 ?_
 | refine awl_some rfl rfl (Nat.le_of_ble_eq_true rfl) rfl rfl ?_ ?_
 | refine awc_none rfl ?_
 | refine awc_some rfl rfl (Nat.le_of_ble_eq_true rfl) rfl rfl ?_ ?_
 | exact each_nil
 | (refine each_some rfl rfl (Nat.le_of_ble_eq_true rfl) rfl ?_ ?_;first|(rw [if_pos rfl])|(rw [if_neg (by decide)];exact ⟨rfl,rfl⟩))
 | refine each_none rfl ?_ ?_
 | refine awc_leaf2 [some 84,some 85,some 86,some 87,some 88,some 89,some 90,some 91,some 92,some 93,some 94,some 95,some 96,some 97,some 98,some 99,some 100,some 101,some 102,some 103] cc_tree_Node_depth_14 rfl (by kernel_rfl) (by kernel_rfl) ?_ ?_
 | (refine fun (hc : _ = _)=>?_;first|cases hc|((try rw [hc]);(try simp only [stH] at hc);(try (exfalso;omega)));(try ((first|show Awl _ _ _ _ _|show Awc _ _ _ _ _ _);simp only [stU])))
 | ((first|refine fun (K : V → List _ → _) hK=>?_|refine fun (_ : V → V)=>?_|refine fun (bb : Nat → Bool) K hK=>?_);simp (maxSteps:=1000000) (disch:=omega) only [go_sem,Int.reduceEq,↓reduceIte,reduceCtorEq,Nat.reduceEqDiff,Nat.reduceLT,Nat.reduceLeDiff,Nat.reduceAdd,Nat.reduceSub,Nat.reduceMul,Int.reduceToNat,Int.reduceLE,Int.reduceLT,Z4,Sp_tree_Node_depth,Sp_tree_Node_first,SpK_tree_Node_depth,Lo_succ,Lo_zero,e1,e2,dN,hj,hj8,hzit,ho,dv_s,dV,k1t,k2,ckR_s,hb,dW,all_N,all_I,eD_inj,mI_inj,nD_inj,Sg3,St.updIf,ifc_nil,gt_ifc,go_ifc,ite_self,Option.none_or,Option.some_or];(try (revert hK;intro hK;(repeat' first|(refine And.intro ?_ ?_)|(intro hc;first|cases hc|((try rw [hc]);(try simp only [stH] at hc);(try (exfalso;omega)))));all_goals first|(refine hK _ _ ?_;clear hK K;simp only [stU])|exact hK|omega)))) <;> (fail_if_success (show False;skip)))
          refine ⟨i + 1,hg',by omega,nm [],Wk.of ?_⟩
          simp (maxSteps:=1000000) (disch:=omega) only [go_sem,Int.reduceEq,↓reduceIte,reduceCtorEq,Nat.reduceEqDiff,Nat.reduceLT,Nat.reduceLeDiff,Nat.reduceAdd,Nat.reduceSub,Nat.reduceMul,Int.reduceToNat,Int.reduceLE,Int.reduceLT,Z4,Sp_tree_Node_depth,Sp_tree_Node_first,SpK_tree_Node_depth,Lo_succ,Lo_zero]
          all_goals rfl
        · have hz : v = -1:=hbad fun ⟨c,hc⟩=>by
            obtain ⟨q,hq,_⟩:=hcp c hc r0 d0 m0 rfl
            obtain ⟨r',m',h1,h2,_⟩:=hget q hq
            rw [ho] at h1;cases h1
            exact hf0 (h2.trans hb)
          have dW : decide (¬ b = f.getD i 0) = true:=decide_eq_true fun h=>hf0 h.symm
          obtain ⟨fi,hfi⟩ : ∃ x,f.getD i 0 = x:=⟨_,rfl⟩
          rw [hfi] at e2 dW
          repeat' ((first
 | refine AW.seq ?_
 | refine AW.block ?_
 | refine AW.regl Z4_ok [0,1,2,3,6,7,8,9,10,12,16,37,68,77,78,79,80,103] ?_
 | (refine AW.regc (id:=14) Z4_ok follows bb_tree_Node_depth_14 (by kernel_rfl) [0,1,2,3,6,7,8,9,10,12,16,37,68,77,78,79,80,103] ?_)
 | refine then_n ?_
 | refine then_r ?_
 | refine then_x ?_
 | refine block_x ?_
 | refine block_o (by decide) ?_
 | refine block_n ?_
 | refine block_r ?_
 | refine AW.skip ?_
 | refine AW.ret ?_
 | refine AW.exit ?_
 | refine AW.cond rfl ?_ ?_
 | refine awl_none rfl ?_
 | refine awl_nil2 ?_
 | refine awl_some rfl rfl (Nat.le_of_ble_eq_true rfl) rfl rfl ?_ ?_
 | refine awc_none rfl ?_
 | refine awc_some rfl rfl (Nat.le_of_ble_eq_true rfl) rfl rfl ?_ ?_
 | exact each_nil
 | (refine each_some rfl rfl (Nat.le_of_ble_eq_true rfl) rfl ?_ ?_;first|(rw [if_pos rfl])|(rw [if_neg (by decide)];exact ⟨rfl,rfl⟩))
 | refine each_none rfl ?_ ?_
 | refine awc_leaf2 [some 84,some 85,some 86,some 87,some 88,some 89,some 90,some 91,some 92,some 93,some 94,some 95,some 96,some 97,some 98,some 99,some 100,some 101,some 102,some 103] cc_tree_Node_depth_14 rfl (by kernel_rfl) (by kernel_rfl) ?_ ?_
 | (refine fun (hc : _ = _)=>?_;first|cases hc|((try rw [hc]);(try simp only [stH] at hc);(try (exfalso;omega)));(try ((first|show Awl _ _ _ _ _|show Awc _ _ _ _ _ _);simp only [stU])))
 | ((first|refine fun (K : V → List _ → _) hK=>?_|refine fun (_ : V → V)=>?_|refine fun (bb : Nat → Bool) K hK=>?_);simp (maxSteps:=1000000) (disch:=omega) only [go_sem,Int.reduceEq,↓reduceIte,reduceCtorEq,Nat.reduceEqDiff,Nat.reduceLT,Nat.reduceLeDiff,Nat.reduceAdd,Nat.reduceSub,Nat.reduceMul,Int.reduceToNat,Int.reduceLE,Int.reduceLT,Z4,Sp_tree_Node_depth,Sp_tree_Node_first,SpK_tree_Node_depth,Lo_succ,Lo_zero,e1,e2,dN,hj,hj8,hzit,ho,dv_s,dV,k1t,k2,ckR_s,hb,dW,all_N,all_I,eD_inj,mI_inj,nD_inj,Sg3,St.updIf,ifc_nil,gt_ifc,go_ifc,ite_self,Option.none_or,Option.some_or];(try (revert hK;intro hK;(repeat' first|(refine And.intro ?_ ?_)|(intro hc;first|cases hc|((try rw [hc]);(try simp only [stH] at hc);(try (exfalso;omega)))));all_goals first|(refine hK _ _ ?_;clear hK K;simp only [stU])|exact hK|omega)))) <;> (fail_if_success (show False;skip)))
          all_goals (refine Ends.of (nm []) (by first|exact .inl rfl|exact .inr rfl) ?_;simp (maxSteps:=1000000) (disch:=omega) only [go_sem,Int.reduceEq,↓reduceIte,reduceCtorEq,Nat.reduceEqDiff,Nat.reduceLT,Nat.reduceLeDiff,Nat.reduceAdd,Nat.reduceSub,Nat.reduceMul,Int.reduceToNat,Int.reduceLE,Int.reduceLT,Z4,Sp_tree_Node_depth,Sp_tree_Node_first,SpK_tree_Node_depth,Lo_succ,Lo_zero,hz])
      · have hz : v = -1:=hbad fun ⟨c,hc⟩=>by
          obtain ⟨q,hq,_⟩:=hcp c hc r0 d0 m0 rfl
          obtain ⟨r',m',h1,h2,_⟩:=hget q hq
          rw [ho] at h1;rw [h1] at hdo
          exact hdo rfl
        obtain ⟨y,hy⟩ : ∃ y,dv o = y:=⟨_,rfl⟩
        rw [hy] at hdo
        have dV : decide (¬ y = (d0 : Int)) = true:=decide_eq_true hdo
        repeat' ((first
 | refine AW.seq ?_
 | refine AW.block ?_
 | refine AW.regl Z4_ok [0,1,2,3,6,7,8,9,10,12,16,37,68,77,78,79,80,103] ?_
 | (refine AW.regc (id:=14) Z4_ok follows bb_tree_Node_depth_14 (by kernel_rfl) [0,1,2,3,6,7,8,9,10,12,16,37,68,77,78,79,80,103] ?_)
 | refine then_n ?_
 | refine then_r ?_
 | refine then_x ?_
 | refine block_x ?_
 | refine block_o (by decide) ?_
 | refine block_n ?_
 | refine block_r ?_
 | refine AW.skip ?_
 | refine AW.ret ?_
 | refine AW.exit ?_
 | refine AW.cond rfl ?_ ?_
 | refine awl_none rfl ?_
 | refine awl_nil2 ?_
 | refine awl_some rfl rfl (Nat.le_of_ble_eq_true rfl) rfl rfl ?_ ?_
 | refine awc_none rfl ?_
 | refine awc_some rfl rfl (Nat.le_of_ble_eq_true rfl) rfl rfl ?_ ?_
 | exact each_nil
 | (refine each_some rfl rfl (Nat.le_of_ble_eq_true rfl) rfl ?_ ?_;first|(rw [if_pos rfl])|(rw [if_neg (by decide)];exact ⟨rfl,rfl⟩))
 | refine each_none rfl ?_ ?_
 | refine awc_leaf2 [some 84,some 85,some 86,some 87,some 88,some 89,some 90,some 91,some 92,some 93,some 94,some 95,some 96,some 97,some 98,some 99,some 100,some 101,some 102,some 103] cc_tree_Node_depth_14 rfl (by kernel_rfl) (by kernel_rfl) ?_ ?_
 | (refine fun (hc : _ = _)=>?_;first|cases hc|((try rw [hc]);(try simp only [stH] at hc);(try (exfalso;omega)));(try ((first|show Awl _ _ _ _ _|show Awc _ _ _ _ _ _);simp only [stU])))
 | ((first|refine fun (K : V → List _ → _) hK=>?_|refine fun (_ : V → V)=>?_|refine fun (bb : Nat → Bool) K hK=>?_);simp (maxSteps:=1000000) (disch:=omega) only [go_sem,Int.reduceEq,↓reduceIte,reduceCtorEq,Nat.reduceEqDiff,Nat.reduceLT,Nat.reduceLeDiff,Nat.reduceAdd,Nat.reduceSub,Nat.reduceMul,Int.reduceToNat,Int.reduceLE,Int.reduceLT,Z4,Sp_tree_Node_depth,Sp_tree_Node_first,SpK_tree_Node_depth,Lo_succ,Lo_zero,e1,dN,hj,hj8,hzit,ho,hy,dV,all_N,all_I,eD_inj,mI_inj,nD_inj,Sg3,St.updIf,ifc_nil,gt_ifc,go_ifc,ite_self,Option.none_or,Option.some_or];(try (revert hK;intro hK;(repeat' first|(refine And.intro ?_ ?_)|(intro hc;first|cases hc|((try rw [hc]);(try simp only [stH] at hc);(try (exfalso;omega)))));all_goals first|(refine hK _ _ ?_;clear hK K;simp only [stU])|exact hK|omega)))) <;> (fail_if_success (show False;skip)))
        all_goals (refine Ends.of (nm []) (by first|exact .inl rfl|exact .inr rfl) ?_;simp (maxSteps:=1000000) (disch:=omega) only [go_sem,Int.reduceEq,↓reduceIte,reduceCtorEq,Nat.reduceEqDiff,Nat.reduceLT,Nat.reduceLeDiff,Nat.reduceAdd,Nat.reduceSub,Nat.reduceMul,Int.reduceToNat,Int.reduceLE,Int.reduceLT,Z4,Sp_tree_Node_depth,Sp_tree_Node_first,SpK_tree_Node_depth,Lo_succ,Lo_zero,hz])
    · obtain rfl : i = p.length:=by omega
      obtain ⟨_,q,hq⟩:=hg
      rw [List.take_length,List.take_of_length_le (by omega)] at hq
      have hz : v = (d0 : Int) + 1:=hend r0 d0 m0 rfl ⟨q,hq⟩
      repeat' ((first
 | refine AW.seq ?_
 | refine AW.block ?_
 | refine AW.regl Z4_ok [0,1,2,3,6,7,8,9,10,12,16,37,68,77,78,79,80,103] ?_
 | (refine AW.regc (id:=14) Z4_ok follows bb_tree_Node_depth_14 (by kernel_rfl) [0,1,2,3,6,7,8,9,10,12,16,37,68,77,78,79,80,103] ?_)
 | refine then_n ?_
 | refine then_r ?_
 | refine then_x ?_
 | refine block_x ?_
 | refine block_o (by decide) ?_
 | refine block_n ?_
 | refine block_r ?_
 | refine AW.skip ?_
 | refine AW.ret ?_
 | refine AW.exit ?_
 | refine AW.cond rfl ?_ ?_
 | refine awl_none rfl ?_
 | refine awl_nil2 ?_
 | refine awl_some rfl rfl (Nat.le_of_ble_eq_true rfl) rfl rfl ?_ ?_
 | refine awc_none rfl ?_
 | refine awc_some rfl rfl (Nat.le_of_ble_eq_true rfl) rfl rfl ?_ ?_
 | exact each_nil
 | (refine each_some rfl rfl (Nat.le_of_ble_eq_true rfl) rfl ?_ ?_;first|(rw [if_pos rfl])|(rw [if_neg (by decide)];exact ⟨rfl,rfl⟩))
 | refine each_none rfl ?_ ?_
 | refine awc_leaf2 [some 84,some 85,some 86,some 87,some 88,some 89,some 90,some 91,some 92,some 93,some 94,some 95,some 96,some 97,some 98,some 99,some 100,some 101,some 102,some 103] cc_tree_Node_depth_14 rfl (by kernel_rfl) (by kernel_rfl) ?_ ?_
 | (refine fun (hc : _ = _)=>?_;first|cases hc|((try rw [hc]);(try simp only [stH] at hc);(try (exfalso;omega)));(try ((first|show Awl _ _ _ _ _|show Awc _ _ _ _ _ _);simp only [stU])))
 | ((first|refine fun (K : V → List _ → _) hK=>?_|refine fun (_ : V → V)=>?_|refine fun (bb : Nat → Bool) K hK=>?_);simp (maxSteps:=1000000) (disch:=omega) only [go_sem,Int.reduceEq,↓reduceIte,reduceCtorEq,Nat.reduceEqDiff,Nat.reduceLT,Nat.reduceLeDiff,Nat.reduceAdd,Nat.reduceSub,Nat.reduceMul,Int.reduceToNat,Int.reduceLE,Int.reduceLT,Z4,Sp_tree_Node_depth,Sp_tree_Node_first,SpK_tree_Node_depth,Lo_succ,Lo_zero,dN,Sg3,St.updIf,ifc_nil,gt_ifc,go_ifc,ite_self,Option.none_or,Option.some_or];(try (revert hK;intro hK;(repeat' first|(refine And.intro ?_ ?_)|(intro hc;first|cases hc|((try rw [hc]);(try simp only [stH] at hc);(try (exfalso;omega)))));all_goals first|(refine hK _ _ ?_;clear hK K;simp only [stU])|exact hK|omega)))) <;> (fail_if_success (show False;skip)))
      all_goals (refine Ends.of (nm []) (by first|exact .inl rfl|exact .inr rfl) ?_;simp (maxSteps:=1000000) (disch:=omega) only [go_sem,Int.reduceEq,↓reduceIte,reduceCtorEq,Nat.reduceEqDiff,Nat.reduceLT,Nat.reduceLeDiff,Nat.reduceAdd,Nat.reduceSub,Nat.reduceMul,Int.reduceToNat,Int.reduceLE,Int.reduceLT,Z4,Sp_tree_Node_depth,Sp_tree_Node_first,SpK_tree_Node_depth,Lo_succ,Lo_zero,hz])
theorem good_tree_Node_depth : Good Try.prog 44 Sp_tree_Node_depth:=fun ds out h=>goodK_tree_Node_depth 8 ds out h
end Go.Proofs.Ytleahjfgedfgmaa.Am
