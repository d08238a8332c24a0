import Derived.Test.YtleahjfgedfgmaaZT8
import Derived.Test.YtleahjfgedfgmaaZGA
import Derived.Test.YtleahjfgedfgmaaZHA
set_option linter.unusedVariables false
set_option linter.unusedSimpArgs false
set_option maxRecDepth 10000
set_option maxHeartbeats 0
namespace Go.Proofs.Ytleahjfgedfgmaa.Am
open Go Go.RowKit Go.Proofs
theorem chk_cap : ∀ {k : Nat} {top : Bool} {n : Nd} {r : List Xt} {d m : Nat},chk k top n = some (r,d,m) → r.length ≤ 8 ^ d
  | 0,_,_,_,_,_,h=>by cases h
  | k + 1,top,.mk l f p,r,d,m,h=>by
    rcases chk_open h with ⟨rfl,rfl,h1,h2,h3⟩|⟨hp,rfl,h1,h2,h3,d',q,hq,h4⟩
    · cases h3;simpa using h2
    · cases h4
      have key : ∀ (f : List Int) (p : List Nd) (q : List Xt × Nat),chkP (chk k false) d' f p = some q → q.1.length ≤ p.length * 8 ^ d':=by
        intro f p
        induction p generalizing f with
        | nil=>intro q h;cases f with
          | nil=>simp only [chkP,Option.some.injEq] at h;subst h;simp
          | cons _ _=>simp [chkP] at h
        | cons n ns ih =>
          intro q h
          cases f with
          | nil=>simp [chkP] at h
          | cons x fs =>
            simp only [chkP] at h
            split at h
            · rename_i r1 d1 m1 hc1
              split at h
              · rename_i hd
                cases hq1 : chkP (chk k false) d' fs ns with
                | none=>rw [hq1] at h;cases h
                | some q1 =>
                  rw [hq1] at h;cases h
                  have h5:=ih fs q1 hq1
                  have h6:=chk_cap hc1
                  rw [hd.1] at h6
                  simp only [List.length_append,List.length_cons,Nat.add_mul,Nat.one_mul];omega
              · cases h
            · cases h
      have:=key f p q hq
      have h8 : p.length * 8 ^ d' ≤ 8 * 8 ^ d':=Nat.mul_le_mul_right _ h2
      rw [Nat.pow_succ];omega
theorem made_dp {l : List Xt} (h : vRow 0 l = true) (h0 : 0 < l.length) : ∃ d : Nat,dpT (madeN l) = d ∧ 1 ≤ d ∧ 4 ^ (d - 1) ≤ l.length ∧ l.length ≤ 8 ^ d:=by
  rcases made_ok (v_len h) with ⟨h1,_⟩|⟨d,m,hc⟩
  · rw [h1] at h0;simp at h0
  · obtain ⟨l1,f1,p1,e⟩ : ∃ l1 f1 p1,madeN l = .mk l1 f1 p1:=by cases madeN l;exact ⟨_,_,_,rfl⟩
    have hs:=chk_size hc
    refine ⟨d,?_,hs.1,(hs.2.2.2.1 rfl).1,chk_cap hc⟩
    unfold dpT
    rw [e] at hc ⊢
    rw [if_neg (okT_ne hc),hc];rfl
def w9 (k : Nat) : List Xt:=(List.range k).map fun (i : Nat)=>⟨(i : Int),3,1,0,1⟩
theorem w9_succ (k : Nat) : w9 (k + 1) = w9 k ++ [⟨(k : Int),3,1,0,1⟩]:=by simp [w9,List.range_succ]
theorem w9_len (k : Nat) : (w9 k).length = k:=by simp [w9]
theorem nil_X (l : List Xt) : ([] = l.map eD) = (l = []):=by cases l <;> simp
noncomputable def W1 : Env:=⟨Try.prog,fun f ds out=>(f = 16 ∧ Sp_tree_From ds out) ∨ (f = 31 ∧ Sp_tree_Tree_Depth ds out) ∨ (f = 33 ∧ Sp_tree_Tree_Right ds out) ∨ (f = 34 ∧ Sp_tree_Tree_Len ds out) ∨ (f = 14 ∧ Sp_overdubkeep_Within ds out) ∨ (f = 13 ∧ Sp_overdublaw16_Row ds out),Es,fun f=>decide (f = 16),fun f vs lent out=>False,fun f=>none,fun f=>false,false,fun f=>none⟩
theorem W1_sp : ∀ f ds out,W1.Sp f ds out → Ent W1.P f ∧ Good W1.P f (fun a b=>a = ds ∧ b = out):=by
  rintro f ds out (⟨rfl,h⟩|⟨rfl,h⟩|⟨rfl,h⟩|⟨rfl,h⟩|⟨rfl,h⟩|⟨rfl,h⟩)
  · exact ⟨ent_tree_From,good_tree_From.one h⟩
  · exact ⟨ent_tree_Tree_Depth,good_tree_Tree_Depth.one h⟩
  · exact ⟨ent_tree_Tree_Right,good_tree_Tree_Right.one h⟩
  · exact ⟨ent_tree_Tree_Len,good_tree_Tree_Len.one h⟩
  · exact ⟨ent_overdubkeep_Within,good_overdubkeep_Within.one h⟩
  · exact ⟨ent_overdublaw16_Row,good_overdublaw16_Row.one h⟩
theorem W1_sm : ∀ f vs lent out,W1.Sm f vs lent out → Ent W1.P f ∧ GoodM W1.P f (fun a l b=>a = vs ∧ l = lent ∧ b = out):=fun _ _ _ _ h=>h.elim
theorem W1_at : ∀ f k,W1.At f = some k → AtomOk W1.P f k:=fun _ _ h=>nomatch h
theorem W1_ok : W1.Ok:=⟨W1_sp,Es_ok,W1_sm,W1_at⟩
def Sp_overdublaw19_wakes (ds : List D) (out : Out) : Prop:=ds = [] ∧ out = ⟨.d (.v (.bool true)),[]⟩
theorem good_overdublaw19_wakes : Good Try.prog 18 Sp_overdublaw19_wakes:=by
  refine good_body (E:=W1) (nt:=39) (rs:=#[.tmp 0]) Try.func18 rfl rfl rfl ?_
  rintro ds out ⟨rfl,rfl⟩
  refine ⟨by simp,?_⟩
  have hv : vRow 0 (w9 9) = true:=by decide
  have hok:=okT_made hv
  obtain ⟨d,hd,h1,h2,h3⟩:=made_dp hv (by decide)
  have hd2 : d = 2:=by
    rcases Nat.lt_or_ge d 2 with h|h
    · have : d = 1:=by omega
      subst this;simp [w9_len] at h3
    · rcases Nat.lt_or_ge 2 d with h'|h'
      · have : 4 ^ 2 ≤ 4 ^ (d - 1):=Nat.pow_le_pow_right (by decide) (by omega)
        rw [w9_len] at h2
        have h16 : 4 ^ 2 = 16:=rfl
        omega
      · omega
  subst hd2
  have hnu : (∀ e ∈ w9 9,numE e) = True:=eq_true (v_num hv)
  obtain ⟨⟨l1,f1,p1⟩,hm⟩ : ∃ n,madeN (w9 9) = n:=⟨_,rfl⟩
  have hf : fromOut (w9 9) = ⟨.tup [.d (.ref (.agg [.list ((w9 9).map eD),.list (l1.map eD),.list (f1.map mI),.list (p1.map nD)])),.d (.v (.int .i64 0))],[]⟩:=by unfold fromOut;rw [if_pos hv,hm];rfl
  rw [hm] at hok hd
  have hokt : okT (w9 9) (.mk l1 f1 p1) = True:=eq_true hok
  have hd : dpT (.mk l1 f1 p1) = 2:=hd
  have hl:=w9_len 9
  have hvt:=hv
  clear h1 h2 h3 hok
  repeat' ((first
 | refine AW.seq ?_
 | refine AW.block ?_
 | refine AW.regl W1_ok [0,1,2,3,4,6] ?_
 | refine then_n ?_
 | refine then_r ?_
 | refine then_x ?_
 | refine block_x ?_
 | refine block_o (by decide) ?_
 | refine block_n ?_
 | refine block_r ?_
 | refine AW.skip ?_
 | refine AW.ret ?_
 | refine AW.exit ?_
 | refine AW.cond rfl ?_ ?_
 | refine awl_none rfl ?_
 | refine awl_nil2 ?_
 | refine awl_some rfl rfl (Nat.le_of_ble_eq_true rfl) rfl rfl ?_ ?_
 | (refine fun (hc : _ = _)=>?_;first|cases hc|((try rw [hc]);(try simp only [stH] at hc);(try (exfalso;omega)));(try (show Awl _ _ _ _ _;simp only [stU])))
 | ((first|refine fun (K : V → List _ → _) hK=>?_|refine fun (_ : V → V)=>?_);simp (maxSteps:=1000000) (disch:=omega) only [go_sem,Int.reduceEq,↓reduceIte,reduceCtorEq,Nat.reduceEqDiff,Nat.reduceLT,Nat.reduceLeDiff,Nat.reduceAdd,Nat.reduceSub,Nat.reduceMul,Int.reduceToNat,Int.reduceLE,Int.reduceLT,W1,Sp_tree_From,Sp_tree_Tree_Depth,Sp_tree_Tree_Right,Sp_tree_Tree_Len];(try (revert hK;intro hK;(repeat' first|(refine And.intro ?_ ?_)|(intro hc;first|cases hc|((try rw [hc]);(try simp only [stH] at hc);(try (exfalso;omega)))));all_goals first|(refine hK _ _ ?_;clear hK K;simp only [stU])|exact hK|omega)))) <;> (fail_if_success (show False;skip)))
  refine AW.loop_wk (fun k : Nat=>⟨[(1,.sl 100 5 0 k true),(2,.d (.v (.int .i64 k)))],[(100,.row 25 5 ((w9 k).map eD))],39⟩)
    (fun k=>k ≤ 9) (fun k=>9 - k) 0 (Nat.zero_le _) (fun w0 oa aa w hs=>Wk.sr (ρ:=nm []) (Wk.of ?_) (nil_sr 1 100 25 5 rfl (by simp) rfl (by decide) hs)) ?_
  · have h0 : w9 0 = []:=rfl
    simp (maxSteps:=1000000) (disch:=omega) only [go_sem,Int.reduceEq,↓reduceIte,reduceCtorEq,Nat.reduceEqDiff,Nat.reduceLT,Nat.reduceLeDiff,Nat.reduceAdd,Nat.reduceSub,Nat.reduceMul,Int.reduceToNat,Int.reduceLE,Int.reduceLT,W1,Sp_tree_From,Sp_tree_Tree_Depth,Sp_tree_Tree_Right,Sp_tree_Tree_Len,h0]
  intro k hk
  have hkl:=w9_len k
  by_cases hk1 : k < 9
  · have e7:=w9_succ k
    obtain ⟨R,hR⟩ : ∃ R,w9 k = R:=⟨_,rfl⟩
    rw [hR] at e7 hkl
    have c1 : R.map eD ++ [D.agg [.v (.int .i64 (k : Int)),.v (.int .i64 3),.v (.int .i64 1),.v (.int .i64 0),.v (.int .i64 1)]] = (R ++ [Xt.mk (k : Int) 3 1 0 1]).map eD:=by simp [eD,mI]
    repeat' ((first
 | refine AW.seq ?_
 | refine AW.block ?_
 | refine AW.regl W1_ok [0,1,2,3,4,6] ?_
 | refine then_n ?_
 | refine then_r ?_
 | refine then_x ?_
 | refine block_x ?_
 | refine block_o (by decide) ?_
 | refine block_n ?_
 | refine block_r ?_
 | refine AW.skip ?_
 | refine AW.ret ?_
 | refine AW.exit ?_
 | refine AW.cond rfl ?_ ?_
 | refine awl_none rfl ?_
 | refine awl_nil2 ?_
 | refine awl_some rfl rfl (Nat.le_of_ble_eq_true rfl) rfl rfl ?_ ?_
 | (refine fun (hc : _ = _)=>?_;first|cases hc|((try rw [hc]);(try simp only [stH] at hc);(try (exfalso;omega)));(try (show Awl _ _ _ _ _;simp only [stU])))
 | ((first|refine fun (K : V → List _ → _) hK=>?_|refine fun (_ : V → V)=>?_);simp (maxSteps:=1000000) (disch:=omega) only [go_sem,Int.reduceEq,↓reduceIte,reduceCtorEq,Nat.reduceEqDiff,Nat.reduceLT,Nat.reduceLeDiff,Nat.reduceAdd,Nat.reduceSub,Nat.reduceMul,Int.reduceToNat,Int.reduceLE,Int.reduceLT,W1,Sp_tree_From,Sp_tree_Tree_Depth,Sp_tree_Tree_Right,Sp_tree_Tree_Len,hR,hkl,c1,all_E];(try (revert hK;intro hK;(repeat' first|(refine And.intro ?_ ?_)|(intro hc;first|cases hc|((try rw [hc]);(try simp only [stH] at hc);(try (exfalso;omega)))));all_goals first|(refine hK _ _ ?_;clear hK K;simp only [stU])|exact hK|omega)))) <;> (fail_if_success (show False;skip)))
    refine ⟨k + 1,by omega,by omega,nm [(100,13)],Wk.of ?_⟩
    simp (maxSteps:=1000000) (disch:=omega) only [go_sem,Int.reduceEq,↓reduceIte,reduceCtorEq,Nat.reduceEqDiff,Nat.reduceLT,Nat.reduceLeDiff,Nat.reduceAdd,Nat.reduceSub,Nat.reduceMul,Int.reduceToNat,Int.reduceLE,Int.reduceLT,W1,Sp_tree_From,Sp_tree_Tree_Depth,Sp_tree_Tree_Right,Sp_tree_Tree_Len,e7]
    all_goals rfl
  · obtain rfl : k = 9:=by omega
    obtain ⟨W,hW⟩ : ∃ W,w9 9 = W:=⟨_,rfl⟩
    rw [hW] at hnu hf hokt hl hkl
    have t1 : (W.map eD).take 9 = W.map eD:=List.take_of_length_le (by simp [hl])
    have hl9 : W.length ≤ 1000000:=by omega
    repeat' ((first
 | refine AW.seq ?_
 | refine AW.block ?_
 | refine AW.regl W1_ok [0,1,2,3,4,6] ?_
 | refine then_n ?_
 | refine then_r ?_
 | refine then_x ?_
 | refine block_x ?_
 | refine block_o (by decide) ?_
 | refine block_n ?_
 | refine block_r ?_
 | refine AW.skip ?_
 | refine AW.ret ?_
 | refine AW.exit ?_
 | refine AW.cond rfl ?_ ?_
 | refine awl_none rfl ?_
 | refine awl_nil2 ?_
 | refine awl_some rfl rfl (Nat.le_of_ble_eq_true rfl) rfl rfl ?_ ?_
 | (refine fun (hc : _ = _)=>?_;first|cases hc|((try rw [hc]);(try simp only [stH] at hc);(try (exfalso;omega)));(try (show Awl _ _ _ _ _;simp only [stU])))
 | ((first|refine fun (K : V → List _ → _) hK=>?_|refine fun (_ : V → V)=>?_);simp (maxSteps:=1000000) (disch:=omega) only [go_sem,Int.reduceEq,↓reduceIte,reduceCtorEq,Nat.reduceEqDiff,Nat.reduceLT,Nat.reduceLeDiff,Nat.reduceAdd,Nat.reduceSub,Nat.reduceMul,Int.reduceToNat,Int.reduceLE,Int.reduceLT,W1,Sp_tree_From,Sp_tree_Tree_Depth,Sp_tree_Tree_Right,Sp_tree_Tree_Len,hW,hnu,hf,hokt,hl,hd,t1,D.ref.injEq,exists_eq',eD_inj,mI_inj,nD_inj];(try (revert hK;intro hK;(repeat' first|(refine And.intro ?_ ?_)|(intro hc;first|cases hc|((try rw [hc]);(try simp only [stH] at hc);(try (exfalso;omega)))));all_goals first|(refine hK _ _ ?_;clear hK K;simp only [stU])|exact hK|omega)))) <;> (fail_if_success (show False;skip)))
    all_goals (refine Ends.of (nm []) (by first|exact .inl rfl|exact .inr rfl) ?_;simp (maxSteps:=1000000) (disch:=omega) only [go_sem,Int.reduceEq,↓reduceIte,reduceCtorEq,Nat.reduceEqDiff,Nat.reduceLT,Nat.reduceLeDiff,Nat.reduceAdd,Nat.reduceSub,Nat.reduceMul,Int.reduceToNat,Int.reduceLE,Int.reduceLT,W1,Sp_tree_From,Sp_tree_Tree_Depth,Sp_tree_Tree_Right,Sp_tree_Tree_Len])
theorem ent_overdublaw19_wakes : Ent Try.prog 18:=⟨_,Try.func18,rfl,by decide⟩
def manyX (n : Nat) : List Xt:=(List.range n).map fun (i : Nat)=>⟨(i : Int),1 + (i : Int),3,((i % 3 : Nat) : Int),1⟩
theorem manyX_succ (k : Nat) : manyX (k + 1) = manyX k ++ [⟨(k : Int),1 + (k : Int),3,((k % 3 : Nat) : Int),1⟩]:=by simp [manyX,List.range_succ]
theorem manyX_len (k : Nat) : (manyX k).length = k:=by simp [manyX]
theorem manyX_cg : ∀ n : Nat,n ≤ 1000 → cg 0 (manyX n) n
  | 0,_=>rfl
  | n + 1,h=>by
    rw [manyX_succ]
    refine cg_app (manyX_cg n (by omega)) ⟨rfl,?_,?_⟩
    · rw [oneE_iff];simp only;omega
    · show (n : Int) + 1 = _;omega
theorem cg_v {l : List Xt} {e : Int} (h : cg 0 l e) (he : e ≤ 1000) : vRow 0 l = true ∧ endX l = e:=by
  have h1:=cg_end h
  have h2 : endX l = e:=by omega
  exact ⟨vRow_0.2 ⟨by rw [h2];exact h,by omega⟩,h2⟩
theorem manyX_v {n : Nat} (h : n ≤ 1000) : vRow 0 (manyX n) = true ∧ endX (manyX n) = n:=cg_v (manyX_cg n h) (by omega)
def actR (m : Int) (l : List Xt) : List Xt:=if 40 < within m 90 then manyX (within m 90).toNat else rowG 8 0 l
def Sp_overdublaw19_Act_row (ds : List D) (out : Out) : Prop:=∃ (a b m : Int) (l : List Xt),ds = [.agg [.v (.int .i64 a),.v (.int .i64 b),.v (.int .i64 m),.list (l.map eD)]] ∧ l.length ≤ 9223372036854775807 ∧ (∀ e ∈ l,numE e) ∧ out = ⟨.d (.list ((actR m l).map eD)),[]⟩
theorem good_overdublaw19_Act_row : Good Try.prog 15 Sp_overdublaw19_Act_row:=by
  refine good_body (E:=W1) (nt:=29) (rs:=#[.tmp 2]) Try.func15 rfl rfl rfl ?_
  rintro ds out ⟨a,b,m,l,rfl,hl,hn,rfl⟩
  refine ⟨by simp,?_⟩
  have hnt : (∀ e ∈ l,numE e) = True:=eq_true hn
  have hw:=within_rng (v:=m) (n:=90) (by omega)
  by_cases hc : 40 < within m 90
  · obtain ⟨n,hN⟩ : ∃ n : Nat,within m 90 = n:=⟨(within m 90).toNat,by omega⟩
    have hz : actR m l = manyX n:=by unfold actR;rw [if_pos hc,hN];rfl
    rw [hN] at hc hw
    have d0 : decide ((40 : Int) < (n : Int)) = true:=decide_eq_true hc
    repeat' ((first
 | refine AW.seq ?_
 | refine AW.block ?_
 | refine AW.regl W1_ok [0,1,2,3,4,5,10,13] ?_
 | refine then_n ?_
 | refine then_r ?_
 | refine then_x ?_
 | refine block_x ?_
 | refine block_o (by decide) ?_
 | refine block_n ?_
 | refine block_r ?_
 | refine AW.skip ?_
 | refine AW.ret ?_
 | refine AW.exit ?_
 | refine AW.cond rfl ?_ ?_
 | refine awl_none rfl ?_
 | refine awl_nil2 ?_
 | (refine fun (hc : _ = _)=>?_;first|cases hc|((try rw [hc]);(try simp only [stH] at hc);(try (exfalso;omega)));(try (show Awl _ _ _ _ _;simp only [stU])))
 | ((first|refine fun (K : V → List _ → _) hK=>?_|refine fun (_ : V → V)=>?_);simp (maxSteps:=1000000) (disch:=omega) only [go_sem,Int.reduceEq,↓reduceIte,reduceCtorEq,Nat.reduceEqDiff,Nat.reduceLT,Nat.reduceLeDiff,Nat.reduceAdd,Nat.reduceSub,Nat.reduceMul,Int.reduceToNat,Int.reduceLE,Int.reduceLT,W1,Sp_overdubkeep_Within,Sp_overdublaw16_Row,hN,d0];(try (revert hK;intro hK;(repeat' first|(refine And.intro ?_ ?_)|(intro hc;first|cases hc|((try rw [hc]);(try simp only [stH] at hc);(try (exfalso;omega)))));all_goals first|(refine hK _ _ ?_;clear hK K;simp only [stU])|exact hK|omega)))) <;> (fail_if_success (show False;skip)))
    refine AW.loop_wk (fun k : Nat=>⟨[(3,.d (.v (.int .i64 n))),(4,.sl 100 5 0 k true),(5,.d (.v (.int .i64 k)))],[(100,.row 25 5 ((manyX k).map eD))],29⟩)
      (fun k=>k ≤ n) (fun k=>n - k) 0 (Nat.zero_le _) (fun w0 oa aa w hs=>Wk.sr (ρ:=nm []) (Wk.of ?_) (nil_sr 4 100 25 5 rfl (by simp) rfl (by decide) hs)) ?_
    · have h0 : manyX 0 = []:=rfl
      simp (maxSteps:=1000000) (disch:=omega) only [go_sem,Int.reduceEq,↓reduceIte,reduceCtorEq,Nat.reduceEqDiff,Nat.reduceLT,Nat.reduceLeDiff,Nat.reduceAdd,Nat.reduceSub,Nat.reduceMul,Int.reduceToNat,Int.reduceLE,Int.reduceLT,W1,Sp_overdubkeep_Within,Sp_overdublaw16_Row,h0]
    intro k hk
    have hkl:=manyX_len k
    by_cases hk1 : k < n
    · have e7:=manyX_succ k
      have hrem : (k : Int).tmod 3 = ((k % 3 : Nat) : Int):=rfl
      obtain ⟨z,hz3⟩ : ∃ z : Int,((k % 3 : Nat) : Int) = z:=⟨_,rfl⟩
      rw [hz3] at hrem e7
      obtain ⟨R,hR⟩ : ∃ R,manyX k = R:=⟨_,rfl⟩
      rw [hR] at e7 hkl
      have c1 : R.map eD ++ [D.agg [.v (.int .i64 (k : Int)),.v (.int .i64 (1 + (k : Int))),.v (.int .i64 3),.v (.int .i64 z),.v (.int .i64 1)]] = (R ++ [Xt.mk (k : Int) (1 + (k : Int)) 3 z 1]).map eD:=by simp [eD,mI]
      repeat' ((first
 | refine AW.seq ?_
 | refine AW.block ?_
 | refine AW.regl W1_ok [0,1,2,3,4,5,10,13] ?_
 | refine then_n ?_
 | refine then_r ?_
 | refine then_x ?_
 | refine block_x ?_
 | refine block_o (by decide) ?_
 | refine block_n ?_
 | refine block_r ?_
 | refine AW.skip ?_
 | refine AW.ret ?_
 | refine AW.exit ?_
 | refine AW.cond rfl ?_ ?_
 | refine awl_none rfl ?_
 | refine awl_nil2 ?_
 | (refine fun (hc : _ = _)=>?_;first|cases hc|((try rw [hc]);(try simp only [stH] at hc);(try (exfalso;omega)));(try (show Awl _ _ _ _ _;simp only [stU])))
 | ((first|refine fun (K : V → List _ → _) hK=>?_|refine fun (_ : V → V)=>?_);simp (maxSteps:=1000000) (disch:=omega) only [go_sem,Int.reduceEq,↓reduceIte,reduceCtorEq,Nat.reduceEqDiff,Nat.reduceLT,Nat.reduceLeDiff,Nat.reduceAdd,Nat.reduceSub,Nat.reduceMul,Int.reduceToNat,Int.reduceLE,Int.reduceLT,W1,Sp_overdubkeep_Within,Sp_overdublaw16_Row,hrem,hR,hkl,c1,all_E];(try (revert hK;intro hK;(repeat' first|(refine And.intro ?_ ?_)|(intro hc;first|cases hc|((try rw [hc]);(try simp only [stH] at hc);(try (exfalso;omega)))));all_goals first|(refine hK _ _ ?_;clear hK K;simp only [stU])|exact hK|omega)))) <;> (fail_if_success (show False;skip)))
      refine ⟨k + 1,by omega,by omega,nm [(100,24)],Wk.of ?_⟩
      simp (maxSteps:=1000000) (disch:=omega) only [go_sem,Int.reduceEq,↓reduceIte,reduceCtorEq,Nat.reduceEqDiff,Nat.reduceLT,Nat.reduceLeDiff,Nat.reduceAdd,Nat.reduceSub,Nat.reduceMul,Int.reduceToNat,Int.reduceLE,Int.reduceLT,W1,Sp_overdubkeep_Within,Sp_overdublaw16_Row,e7]
      all_goals rfl
    · obtain rfl : k = n:=by omega
      have ht : ((manyX k).map eD).take k = (manyX k).map eD:=List.take_of_length_le (by simp [hkl])
      repeat' ((first
 | refine AW.seq ?_
 | refine AW.block ?_
 | refine AW.regl W1_ok [0,1,2,3,4,5,10,13] ?_
 | refine then_n ?_
 | refine then_r ?_
 | refine then_x ?_
 | refine block_x ?_
 | refine block_o (by decide) ?_
 | refine block_n ?_
 | refine block_r ?_
 | refine AW.skip ?_
 | refine AW.ret ?_
 | refine AW.exit ?_
 | refine AW.cond rfl ?_ ?_
 | refine awl_none rfl ?_
 | refine awl_nil2 ?_
 | (refine fun (hc : _ = _)=>?_;first|cases hc|((try rw [hc]);(try simp only [stH] at hc);(try (exfalso;omega)));(try (show Awl _ _ _ _ _;simp only [stU])))
 | ((first|refine fun (K : V → List _ → _) hK=>?_|refine fun (_ : V → V)=>?_);simp (maxSteps:=1000000) (disch:=omega) only [go_sem,Int.reduceEq,↓reduceIte,reduceCtorEq,Nat.reduceEqDiff,Nat.reduceLT,Nat.reduceLeDiff,Nat.reduceAdd,Nat.reduceSub,Nat.reduceMul,Int.reduceToNat,Int.reduceLE,Int.reduceLT,W1,Sp_overdubkeep_Within,Sp_overdublaw16_Row];(try (revert hK;intro hK;(repeat' first|(refine And.intro ?_ ?_)|(intro hc;first|cases hc|((try rw [hc]);(try simp only [stH] at hc);(try (exfalso;omega)))));all_goals first|(refine hK _ _ ?_;clear hK K;simp only [stU])|exact hK|omega)))) <;> (fail_if_success (show False;skip)))
      refine Ends.weak (fun w0 oa aa w hs=>frz_sr 2 (d:=.list ((manyX k).map eD)) (by simp [toD,toD1,gt,go,ht,hkl]) (by simp) hs) ?_
      (refine Ends.of (nm []) (by first|exact .inl rfl|exact .inr rfl) ?_;simp (maxSteps:=1000000) (disch:=omega) only [go_sem,Int.reduceEq,↓reduceIte,reduceCtorEq,Nat.reduceEqDiff,Nat.reduceLT,Nat.reduceLeDiff,Nat.reduceAdd,Nat.reduceSub,Nat.reduceMul,Int.reduceToNat,Int.reduceLE,Int.reduceLT,W1,Sp_overdubkeep_Within,Sp_overdublaw16_Row,hz])
  · have hz : actR m l = rowG 8 0 l:=by unfold actR;rw [if_neg hc]
    have d0 : decide (40 < within m 90) = false:=decide_eq_false hc
    have ht : ((rowG 8 0 l).map eD).take (rowG 8 0 l).length = (rowG 8 0 l).map eD:=List.take_of_length_le (by simp)
    repeat' ((first
 | refine AW.seq ?_
 | refine AW.block ?_
 | refine AW.regl W1_ok [0,1,2,3,4,5,10,13] ?_
 | refine then_n ?_
 | refine then_r ?_
 | refine then_x ?_
 | refine block_x ?_
 | refine block_o (by decide) ?_
 | refine block_n ?_
 | refine block_r ?_
 | refine AW.skip ?_
 | refine AW.ret ?_
 | refine AW.exit ?_
 | refine AW.cond rfl ?_ ?_
 | refine awl_none rfl ?_
 | refine awl_nil2 ?_
 | (refine fun (hc : _ = _)=>?_;first|cases hc|((try rw [hc]);(try simp only [stH] at hc);(try (exfalso;omega)));(try (show Awl _ _ _ _ _;simp only [stU])))
 | ((first|refine fun (K : V → List _ → _) hK=>?_|refine fun (_ : V → V)=>?_);simp (maxSteps:=1000000) (disch:=omega) only [go_sem,Int.reduceEq,↓reduceIte,reduceCtorEq,Nat.reduceEqDiff,Nat.reduceLT,Nat.reduceLeDiff,Nat.reduceAdd,Nat.reduceSub,Nat.reduceMul,Int.reduceToNat,Int.reduceLE,Int.reduceLT,W1,Sp_overdubkeep_Within,Sp_overdublaw16_Row,d0,hnt,eD_inj];(try (revert hK;intro hK;(repeat' first|(refine And.intro ?_ ?_)|(intro hc;first|cases hc|((try rw [hc]);(try simp only [stH] at hc);(try (exfalso;omega)))));all_goals first|(refine hK _ _ ?_;clear hK K;simp only [stU])|exact hK|omega)))) <;> (fail_if_success (show False;skip)))
    refine Ends.weak (fun w0 oa aa w hs=>frz_sr 2 (d:=.list ((rowG 8 0 l).map eD)) (by simp [toD,toD1,gt,go,ht]) (by simp) hs) ?_
    (refine Ends.of (nm []) (by first|exact .inl rfl|exact .inr rfl) ?_;simp (maxSteps:=1000000) (disch:=omega) only [go_sem,Int.reduceEq,↓reduceIte,reduceCtorEq,Nat.reduceEqDiff,Nat.reduceLT,Nat.reduceLeDiff,Nat.reduceAdd,Nat.reduceSub,Nat.reduceMul,Int.reduceToNat,Int.reduceLE,Int.reduceLT,W1,Sp_overdubkeep_Within,Sp_overdublaw16_Row,hz])
theorem ent_overdublaw19_Act_row : Ent Try.prog 15:=⟨_,Try.func15,rfl,by decide⟩
theorem actR_v (m : Int) (l : List Xt) : vRow 0 (actR m l) = true:=by
  unfold actR
  split
  · have hw:=within_rng (v:=m) (n:=90) (by omega)
    exact (manyX_v (by omega)).1
  · exact (rowG_ok 8 0 l (by omega) (by omega)).1
end Go.Proofs.Ytleahjfgedfgmaa.Am
