import Derived.Test.YtleahjfgedfgmaaZT1
import Derived.Test.YtleahjfgedfgmaaZRV
set_option linter.unusedVariables false
set_option linter.unusedSimpArgs false
set_option maxRecDepth 10000
set_option maxHeartbeats 0
namespace Go.Proofs.Ytleahjfgedfgmaa.Am
open Go Go.RowKit Go.Proofs
def spliceOut (l : List Xt) (a b : Int) (new : List Xt) : Out:=if spF l a b new = 0 then ⟨.tup [.sl 0 5 0 (spX l a b new).length true,.d (.v (.int .i64 0))],[(0,.row 25 5 ((spX l a b new).map eD))]⟩ else ⟨.tup [.nil,.d (.v (.int .i64 (spF l a b new)))],[]⟩
theorem spF_1 {l new : List Xt} {a b : Int} (h : vRow 0 new = false ∨ a < 0 ∨ b < a ∨ endX l < a) : spF l a b new = 1:=by unfold spF;rw [if_pos h]
theorem splice_1 {l new : List Xt} {a b : Int} (h : vRow 0 new = false ∨ a < 0 ∨ b < a ∨ endX l < a) : spliceOut l a b new = ⟨.tup [.nil,.d (.v (.int .i64 1))],[]⟩:=by
  unfold spliceOut;rw [spF_1 h,if_neg (by decide)]
theorem splice_4 {l new : List Xt} {a b : Int} (h : ¬ (vRow 0 new = false ∨ a < 0 ∨ b < a ∨ endX l < a)) (h4 : 1000 < a + endX new + endX l - min b (endX l)) : spliceOut l a b new = ⟨.tup [.nil,.d (.v (.int .i64 4))],[]⟩:=by
  have e : spF l a b new = 4:=by unfold spF;rw [if_neg h,if_pos h4]
  unfold spliceOut;rw [e,if_neg (by decide)]
theorem splice_0 {l new : List Xt} {a b : Int} (h : ¬ (vRow 0 new = false ∨ a < 0 ∨ b < a ∨ endX l < a)) (h4 : ¬ 1000 < a + endX new + endX l - min b (endX l)) : spliceOut l a b new = ⟨.tup [.sl 0 5 0 (spX l a b new).length true,.d (.v (.int .i64 0))],[(0,.row 25 5 ((spX l a b new).map eD))]⟩:=by
  have e : spF l a b new = 0:=by unfold spF;rw [if_neg h,if_neg h4]
  unfold spliceOut;rw [if_pos e]
theorem v_len {l : List Xt} (h : vRow 0 l = true) : l.length ≤ 1000:=by
  obtain ⟨h1,h2⟩:=vRow_0.1 h
  have:=cg_len h1
  omega
theorem v_bd {l : List Xt} (h : vRow 0 l = true) : ∀ x ∈ l,bdX x:=by
  obtain ⟨h1,h2⟩:=vRow_0.1 h
  exact cg_bd h1 (by omega) (by omega)
theorem v_num {l : List Xt} (h : vRow 0 l = true) : ∀ x ∈ l,numE x:=by
  obtain ⟨h1,h2⟩:=vRow_0.1 h
  exact cg_num h1 (by omega) (by omega)
theorem v_end {l : List Xt} (h : vRow 0 l = true) : 0 ≤ endX l ∧ endX l ≤ 1000:=by
  obtain ⟨h1,h2⟩:=vRow_0.1 h
  exact ⟨by have:=(cg_le h1).1;omega,h2⟩
theorem cut_bd {l : List Xt} (h : vRow 0 l = true) (a b : Int) : (∀ x ∈ cutX a b l,bdX x) ∧ (cutX a b l).length ≤ 1000:=by
  refine ⟨?_,Nat.le_trans (cutX_len a b l) (v_len h)⟩
  obtain ⟨h1,h2⟩:=vRow_0.1 h
  have hc:=cg_cut (a:=a) (b:=b) h1
  rcases Int.le_total (max 0 a) (min (endX l) b) with h3|h3
  · exact cg_bd (hc.1 h3) (by omega) (by omega)
  · rw [hc.2 h3];intro x hx;cases hx
theorem cut_sc (l : List Xt) : (∀ d ∈ l.map eD,Scal' d) = True:=sc_E l
noncomputable def S0x : Env:=⟨Try.prog,fun f ds out=>(f = 47 ∧ Sp_extent_End ds out) ∨ (f = 39 ∧ Sp_extent_Valid ds out) ∨ (f = 48 ∧ Sp_extent_Cut ds out) ∨ (f = 56 ∧ Sp_extent_Shift ds out),Es,fun _=>false,fun f vs lent out=>False,fun f=>none,fun f=>false,false,fun f=>none⟩
theorem S0x_sp : ∀ f ds out,S0x.Sp f ds out → Ent S0x.P f ∧ Good S0x.P f (fun a b=>a = ds ∧ b = out):=by
  rintro f ds out (⟨rfl,h⟩|⟨rfl,h⟩|⟨rfl,h⟩|⟨rfl,h⟩)
  · exact ⟨ent_extent_End,good_extent_End.one h⟩
  · exact ⟨ent_extent_Valid,good_extent_Valid.one h⟩
  · exact ⟨ent_extent_Cut,good_extent_Cut.one h⟩
  · exact ⟨ent_extent_Shift,good_extent_Shift.one h⟩
theorem S0x_sm : ∀ f vs lent out,S0x.Sm f vs lent out → Ent S0x.P f ∧ GoodM S0x.P f (fun a l b=>a = vs ∧ l = lent ∧ b = out):=fun _ _ _ _ h=>h.elim
theorem S0x_at : ∀ f k,S0x.At f = some k → AtomOk S0x.P f k:=fun _ _ h=>nomatch h
theorem S0x_ok : S0x.Ok:=⟨S0x_sp,Es_ok,S0x_sm,S0x_at⟩
def Sp_extent_Splice (ds : List D) (out : Out) : Prop:=∃ (l : List Xt) (a b : Int) (new : List Xt),ds = [.list (l.map eD),.v (.int .i64 a),.v (.int .i64 b),.list (new.map eD)] ∧ vRow 0 l = true ∧ new.length ≤ 1000000 ∧ (∀ e ∈ new,numE e) ∧ out = spliceOut l a b new
theorem good_extent_Splice : Good Try.prog 50 Sp_extent_Splice:=by
  refine good_body (E:=S0x) (nt:=63) (rs:=#[.tmp 8,.tmp 9]) Try.func50 rfl rfl rfl ?_
  rintro ds out ⟨l,a,b,new,rfl,hl,hnl,hnn,rfl⟩
  refine ⟨by simp,?_⟩
  have l1:=v_len hl
  have l2:=v_end hl
  have l3 : (∀ x ∈ l,bdX x) = True:=eq_true (v_bd hl)
  have n3 : (∀ x ∈ new,numE x) = True:=eq_true hnn
  by_cases hc : vRow 0 new = false ∨ a < 0 ∨ b < a ∨ endX l < a
  · have hz:=splice_1 hc
    obtain ⟨E,hE⟩ : ∃ E,endX l = E:=⟨_,rfl⟩
    rw [hE] at hc l2
    by_cases hv : vRow 0 new = false
    · repeat' ((first
 | refine AW.seq ?_
 | refine AW.block ?_
 | refine AW.regl S0x_ok [0,1,2,3,8,9,10,11,12,31,61] ?_
 | refine then_n ?_
 | refine then_r ?_
 | refine then_x ?_
 | refine block_x ?_
 | refine block_o (by decide) ?_
 | refine block_n ?_
 | refine block_r ?_
 | refine AW.skip ?_
 | refine AW.ret ?_
 | refine AW.exit ?_
 | refine AW.cond rfl ?_ ?_
 | refine awl_none rfl ?_
 | refine awl_nil2 ?_
 | refine awl_some rfl rfl (Nat.le_of_ble_eq_true rfl) rfl rfl ?_ ?_
 | (refine fun (hc : _ = _)=>?_;first|cases hc|((try rw [hc]);(try simp only [stH] at hc);(try (exfalso;omega)));(try (show Awl _ _ _ _ _;simp only [stU])))
 | ((first|refine fun (K : V → List _ → _) hK=>?_|refine fun (_ : V → V)=>?_);simp (maxSteps:=1000000) (disch:=omega) only [go_sem,Int.reduceEq,↓reduceIte,reduceCtorEq,Nat.reduceEqDiff,Nat.reduceLT,Nat.reduceLeDiff,Nat.reduceAdd,Nat.reduceSub,Nat.reduceMul,Int.reduceToNat,Int.reduceLE,Int.reduceLT,S0x,Sp_extent_End,Sp_extent_Valid,Sp_extent_Cut,Sp_extent_Shift,hE,l3,n3,hv,eD_inj];(try (revert hK;intro hK;(repeat' first|(refine And.intro ?_ ?_)|(intro hc;first|cases hc|((try rw [hc]);(try simp only [stH] at hc);(try (exfalso;omega)))));all_goals first|(refine hK _ _ ?_;clear hK K;simp only [stU])|exact hK|omega)))) <;> (fail_if_success (show False;skip)))
      all_goals (refine Ends.of (nm []) (by first|exact .inl rfl|exact .inr rfl) ?_;simp (maxSteps:=1000000) (disch:=omega) only [go_sem,Int.reduceEq,↓reduceIte,reduceCtorEq,Nat.reduceEqDiff,Nat.reduceLT,Nat.reduceLeDiff,Nat.reduceAdd,Nat.reduceSub,Nat.reduceMul,Int.reduceToNat,Int.reduceLE,Int.reduceLT,S0x,Sp_extent_End,Sp_extent_Valid,Sp_extent_Cut,Sp_extent_Shift,hz])
    · have hv : vRow 0 new = true:=by simpa using hv
      have hc' : a < 0 ∨ b < a ∨ E < a:=by simpa [hv] using hc
      clear hnn hc
      by_cases ha : a < 0
      · have d1 : decide (a < 0) = true:=decide_eq_true ha
        repeat' ((first
 | refine AW.seq ?_
 | refine AW.block ?_
 | refine AW.regl S0x_ok [0,1,2,3,8,9,10,11,12,31,61] ?_
 | refine then_n ?_
 | refine then_r ?_
 | refine then_x ?_
 | refine block_x ?_
 | refine block_o (by decide) ?_
 | refine block_n ?_
 | refine block_r ?_
 | refine AW.skip ?_
 | refine AW.ret ?_
 | refine AW.exit ?_
 | refine AW.cond rfl ?_ ?_
 | refine awl_none rfl ?_
 | refine awl_nil2 ?_
 | refine awl_some rfl rfl (Nat.le_of_ble_eq_true rfl) rfl rfl ?_ ?_
 | (refine fun (hc : _ = _)=>?_;first|cases hc|((try rw [hc]);(try simp only [stH] at hc);(try (exfalso;omega)));(try (show Awl _ _ _ _ _;simp only [stU])))
 | ((first|refine fun (K : V → List _ → _) hK=>?_|refine fun (_ : V → V)=>?_);simp (maxSteps:=1000000) (disch:=omega) only [go_sem,Int.reduceEq,↓reduceIte,reduceCtorEq,Nat.reduceEqDiff,Nat.reduceLT,Nat.reduceLeDiff,Nat.reduceAdd,Nat.reduceSub,Nat.reduceMul,Int.reduceToNat,Int.reduceLE,Int.reduceLT,S0x,Sp_extent_End,Sp_extent_Valid,Sp_extent_Cut,Sp_extent_Shift,hE,l3,n3,hv,d1,eD_inj];(try (revert hK;intro hK;(repeat' first|(refine And.intro ?_ ?_)|(intro hc;first|cases hc|((try rw [hc]);(try simp only [stH] at hc);(try (exfalso;omega)))));all_goals first|(refine hK _ _ ?_;clear hK K;simp only [stU])|exact hK|omega)))) <;> (fail_if_success (show False;skip)))
        all_goals (refine Ends.of (nm []) (by first|exact .inl rfl|exact .inr rfl) ?_;simp (maxSteps:=1000000) (disch:=omega) only [go_sem,Int.reduceEq,↓reduceIte,reduceCtorEq,Nat.reduceEqDiff,Nat.reduceLT,Nat.reduceLeDiff,Nat.reduceAdd,Nat.reduceSub,Nat.reduceMul,Int.reduceToNat,Int.reduceLE,Int.reduceLT,S0x,Sp_extent_End,Sp_extent_Valid,Sp_extent_Cut,Sp_extent_Shift,hz])
      · have d1 : decide (a < 0) = false:=decide_eq_false ha
        by_cases hb : b < a
        · have d2 : decide (b < a) = true:=decide_eq_true hb
          repeat' ((first
 | refine AW.seq ?_
 | refine AW.block ?_
 | refine AW.regl S0x_ok [0,1,2,3,8,9,10,11,12,31,61] ?_
 | refine then_n ?_
 | refine then_r ?_
 | refine then_x ?_
 | refine block_x ?_
 | refine block_o (by decide) ?_
 | refine block_n ?_
 | refine block_r ?_
 | refine AW.skip ?_
 | refine AW.ret ?_
 | refine AW.exit ?_
 | refine AW.cond rfl ?_ ?_
 | refine awl_none rfl ?_
 | refine awl_nil2 ?_
 | refine awl_some rfl rfl (Nat.le_of_ble_eq_true rfl) rfl rfl ?_ ?_
 | (refine fun (hc : _ = _)=>?_;first|cases hc|((try rw [hc]);(try simp only [stH] at hc);(try (exfalso;omega)));(try (show Awl _ _ _ _ _;simp only [stU])))
 | ((first|refine fun (K : V → List _ → _) hK=>?_|refine fun (_ : V → V)=>?_);simp (maxSteps:=1000000) (disch:=omega) only [go_sem,Int.reduceEq,↓reduceIte,reduceCtorEq,Nat.reduceEqDiff,Nat.reduceLT,Nat.reduceLeDiff,Nat.reduceAdd,Nat.reduceSub,Nat.reduceMul,Int.reduceToNat,Int.reduceLE,Int.reduceLT,S0x,Sp_extent_End,Sp_extent_Valid,Sp_extent_Cut,Sp_extent_Shift,hE,l3,n3,hv,d1,d2,eD_inj];(try (revert hK;intro hK;(repeat' first|(refine And.intro ?_ ?_)|(intro hc;first|cases hc|((try rw [hc]);(try simp only [stH] at hc);(try (exfalso;omega)))));all_goals first|(refine hK _ _ ?_;clear hK K;simp only [stU])|exact hK|omega)))) <;> (fail_if_success (show False;skip)))
          all_goals (refine Ends.of (nm []) (by first|exact .inl rfl|exact .inr rfl) ?_;simp (maxSteps:=1000000) (disch:=omega) only [go_sem,Int.reduceEq,↓reduceIte,reduceCtorEq,Nat.reduceEqDiff,Nat.reduceLT,Nat.reduceLeDiff,Nat.reduceAdd,Nat.reduceSub,Nat.reduceMul,Int.reduceToNat,Int.reduceLE,Int.reduceLT,S0x,Sp_extent_End,Sp_extent_Valid,Sp_extent_Cut,Sp_extent_Shift,hz])
        · have d2 : decide (b < a) = false:=decide_eq_false hb
          have d3 : decide (E < a) = true:=decide_eq_true (by omega)
          repeat' ((first
 | refine AW.seq ?_
 | refine AW.block ?_
 | refine AW.regl S0x_ok [0,1,2,3,8,9,10,11,12,31,61] ?_
 | refine then_n ?_
 | refine then_r ?_
 | refine then_x ?_
 | refine block_x ?_
 | refine block_o (by decide) ?_
 | refine block_n ?_
 | refine block_r ?_
 | refine AW.skip ?_
 | refine AW.ret ?_
 | refine AW.exit ?_
 | refine AW.cond rfl ?_ ?_
 | refine awl_none rfl ?_
 | refine awl_nil2 ?_
 | refine awl_some rfl rfl (Nat.le_of_ble_eq_true rfl) rfl rfl ?_ ?_
 | (refine fun (hc : _ = _)=>?_;first|cases hc|((try rw [hc]);(try simp only [stH] at hc);(try (exfalso;omega)));(try (show Awl _ _ _ _ _;simp only [stU])))
 | ((first|refine fun (K : V → List _ → _) hK=>?_|refine fun (_ : V → V)=>?_);simp (maxSteps:=1000000) (disch:=omega) only [go_sem,Int.reduceEq,↓reduceIte,reduceCtorEq,Nat.reduceEqDiff,Nat.reduceLT,Nat.reduceLeDiff,Nat.reduceAdd,Nat.reduceSub,Nat.reduceMul,Int.reduceToNat,Int.reduceLE,Int.reduceLT,S0x,Sp_extent_End,Sp_extent_Valid,Sp_extent_Cut,Sp_extent_Shift,hE,l3,n3,hv,d1,d2,d3,eD_inj];(try (revert hK;intro hK;(repeat' first|(refine And.intro ?_ ?_)|(intro hc;first|cases hc|((try rw [hc]);(try simp only [stH] at hc);(try (exfalso;omega)))));all_goals first|(refine hK _ _ ?_;clear hK K;simp only [stU])|exact hK|omega)))) <;> (fail_if_success (show False;skip)))
          all_goals (refine Ends.of (nm []) (by first|exact .inl rfl|exact .inr rfl) ?_;simp (maxSteps:=1000000) (disch:=omega) only [go_sem,Int.reduceEq,↓reduceIte,reduceCtorEq,Nat.reduceEqDiff,Nat.reduceLT,Nat.reduceLeDiff,Nat.reduceAdd,Nat.reduceSub,Nat.reduceMul,Int.reduceToNat,Int.reduceLE,Int.reduceLT,S0x,Sp_extent_End,Sp_extent_Valid,Sp_extent_Cut,Sp_extent_Shift,hz])
  have hv : vRow 0 new = true:=by
    cases hb : vRow 0 new with
    | true=>rfl
    | false=>exact absurd (.inl hb) hc
  have m1:=v_len hv
  have m2:=v_end hv
  have m3 : (∀ x ∈ new,bdX x) = True:=eq_true (v_bd hv)
  have hc2 : ¬ a < 0 ∧ ¬ b < a ∧ ¬ endX l < a:=⟨fun h=>hc (.inr (.inl h)),fun h=>hc (.inr (.inr (.inl h))),fun h=>hc (.inr (.inr (.inr h)))⟩
  obtain ⟨c1,c2,c3⟩:=hc2
  obtain ⟨u1,u2⟩:=cut_bd hl 0 a
  obtain ⟨w1,w2⟩:=cut_bd hl (min b (endX l)) (endX l)
  have w1 : (∀ x ∈ cutX (min b (endX l)) (endX l) l,bdX x) = True:=eq_true w1
  have k4:=splice_4 (l:=l) (new:=new) (a:=a) (b:=b) hc
  have k0:=splice_0 (l:=l) (new:=new) (a:=a) (b:=b) hc
  have hx : spX l a b new = cutX 0 a l ++ shX a new ++ shX (a + endX new - min b (endX l)) (cutX (min b (endX l)) (endX l) l):=rfl
  obtain ⟨R,hR⟩ : ∃ R,spX l a b new = R:=⟨_,rfl⟩
  rw [hR] at hx k0
  obtain ⟨O,hO⟩ : ∃ O,spliceOut l a b new = O:=⟨_,rfl⟩
  rw [hO] at k0 k4 ⊢
  have s1:=shX_len a new
  have s2:=shX_len (a + endX new - min b (endX l)) (cutX (min b (endX l)) (endX l) l)
  obtain ⟨E,hE⟩ : ∃ E,endX l = E:=⟨_,rfl⟩
  rw [hE] at l2 c3 w1 w2 k4 k0 hx s2
  obtain ⟨F,hF⟩ : ∃ F,endX new = F:=⟨_,rfl⟩
  rw [hF] at m2 k4 k0 hx s2
  obtain ⟨t,ht⟩ : ∃ t,min b E = t:=⟨_,rfl⟩
  rw [ht] at w1 w2 k4 k0 hx s2
  have ht2 : a ≤ t ∧ t ≤ E:=by omega
  obtain ⟨A,hA⟩ : ∃ A,cutX 0 a l = A:=⟨_,rfl⟩
  obtain ⟨B,hB⟩ : ∃ B,shX a new = B:=⟨_,rfl⟩
  obtain ⟨C,hC⟩ : ∃ C,cutX t E l = C:=⟨_,rfl⟩
  rw [hA] at u2 hx
  rw [hB] at s1 hx
  rw [hC] at w1 w2 hx s2
  obtain ⟨G,hG⟩ : ∃ G,shX (a + F - t) C = G:=⟨_,rfl⟩
  rw [hG] at hx s2
  clear hc hnn u1
  have d1 : decide (a < 0) = false:=decide_eq_false c1
  have d2 : decide (b < a) = false:=decide_eq_false c2
  have d3 : decide (E < a) = false:=decide_eq_false c3
  have hEE : min E E = E:=by omega
  have z8 : ((A ++ B).map eD).take (A.length + B.length) = (A ++ B).map eD:=List.take_of_length_le (by simp)
  have z9 : (C.map eD).take C.length = C.map eD:=List.take_of_length_le (by simp)
  have z1 : (B.map eD).take B.length = B.map eD:=List.take_of_length_le (by simp)
  have z2 : (G.map eD).take G.length = G.map eD:=List.take_of_length_le (by simp)
  have z3 : A.map eD ++ B.map eD = (A ++ B).map eD:=by simp
  have z4 : (A ++ B).map eD ++ G.map eD = R.map eD:=by rw [hx];simp
  have z5 : (A ++ B).length = A.length + B.length:=by simp
  have z6 : R.length = A.length + B.length + G.length:=by rw [hx];simp;omega
  by_cases h4 : 1000 < a + F + E - t
  · have hz:=k4 h4
    repeat' ((first
 | refine AW.seq ?_
 | refine AW.block ?_
 | refine AW.regl S0x_ok [0,1,2,3,8,9,10,11,12,31,61] ?_
 | refine then_n ?_
 | refine then_r ?_
 | refine then_x ?_
 | refine block_x ?_
 | refine block_o (by decide) ?_
 | refine block_n ?_
 | refine block_r ?_
 | refine AW.skip ?_
 | refine AW.ret ?_
 | refine AW.exit ?_
 | refine AW.cond rfl ?_ ?_
 | refine awl_none rfl ?_
 | refine awl_nil2 ?_
 | refine awl_some rfl rfl (Nat.le_of_ble_eq_true rfl) rfl rfl ?_ ?_
 | (refine fun (hc : _ = _)=>?_;first|cases hc|((try rw [hc]);(try simp only [stH] at hc);(try (exfalso;omega)));(try (show Awl _ _ _ _ _;simp only [stU])))
 | ((first|refine fun (K : V → List _ → _) hK=>?_|refine fun (_ : V → V)=>?_);simp (maxSteps:=1000000) (disch:=omega) only [go_sem,Int.reduceEq,↓reduceIte,reduceCtorEq,Nat.reduceEqDiff,Nat.reduceLT,Nat.reduceLeDiff,Nat.reduceAdd,Nat.reduceSub,Nat.reduceMul,Int.reduceToNat,Int.reduceLE,Int.reduceLT,S0x,Sp_extent_End,Sp_extent_Valid,Sp_extent_Cut,Sp_extent_Shift,d1,d2,d3,z9,sc_E,all_E,hE,hF,l3,n3,m3,hv,w1,ht,hA,hB,hC,hG,z1,z2,z3,z4,z5,eD_inj];(try (revert hK;intro hK;(repeat' first|(refine And.intro ?_ ?_)|(intro hc;first|cases hc|((try rw [hc]);(try simp only [stH] at hc);(try (exfalso;omega)))));all_goals first|(refine hK _ _ ?_;clear hK K;simp only [stU])|exact hK|omega)))) <;> (fail_if_success (show False;skip)))
    all_goals (refine Ends.of (nm []) (by first|exact .inl rfl|exact .inr rfl) ?_;simp (maxSteps:=1000000) (disch:=omega) only [go_sem,Int.reduceEq,↓reduceIte,reduceCtorEq,Nat.reduceEqDiff,Nat.reduceLT,Nat.reduceLeDiff,Nat.reduceAdd,Nat.reduceSub,Nat.reduceMul,Int.reduceToNat,Int.reduceLE,Int.reduceLT,S0x,Sp_extent_End,Sp_extent_Valid,Sp_extent_Cut,Sp_extent_Shift,hz])
  · have hz:=k0 h4
    repeat' ((first
 | refine AW.seq ?_
 | refine AW.block ?_
 | refine AW.regl S0x_ok [0,1,2,3,8,9,10,11,12,31,61] ?_
 | refine then_n ?_
 | refine then_r ?_
 | refine then_x ?_
 | refine block_x ?_
 | refine block_o (by decide) ?_
 | refine block_n ?_
 | refine block_r ?_
 | refine AW.skip ?_
 | refine AW.ret ?_
 | refine AW.exit ?_
 | refine AW.cond rfl ?_ ?_
 | refine awl_none rfl ?_
 | refine awl_nil2 ?_
 | refine awl_some rfl rfl (Nat.le_of_ble_eq_true rfl) rfl rfl ?_ ?_
 | (refine fun (hc : _ = _)=>?_;first|cases hc|((try rw [hc]);(try simp only [stH] at hc);(try (exfalso;omega)));(try (show Awl _ _ _ _ _;simp only [stU])))
 | ((first|refine fun (K : V → List _ → _) hK=>?_|refine fun (_ : V → V)=>?_);simp (maxSteps:=1000000) (disch:=omega) only [go_sem,Int.reduceEq,↓reduceIte,reduceCtorEq,Nat.reduceEqDiff,Nat.reduceLT,Nat.reduceLeDiff,Nat.reduceAdd,Nat.reduceSub,Nat.reduceMul,Int.reduceToNat,Int.reduceLE,Int.reduceLT,S0x,Sp_extent_End,Sp_extent_Valid,Sp_extent_Cut,Sp_extent_Shift,d1,d2,d3,z9,sc_E,all_E,hE,hF,l3,n3,m3,hv,w1,ht,hA,hB,hC,hG,z1,z2,z3,z4,z5,eD_inj];(try (revert hK;intro hK;(repeat' first|(refine And.intro ?_ ?_)|(intro hc;first|cases hc|((try rw [hc]);(try simp only [stH] at hc);(try (exfalso;omega)))));all_goals first|(refine hK _ _ ?_;clear hK K;simp only [stU])|exact hK|omega)))) <;> (fail_if_success (show False;skip)))
    all_goals (refine Ends.of (nm [(0,55)]) (by first|exact .inl rfl|exact .inr rfl) ?_;simp (maxSteps:=1000000) (disch:=omega) only [go_sem,Int.reduceEq,↓reduceIte,reduceCtorEq,Nat.reduceEqDiff,Nat.reduceLT,Nat.reduceLeDiff,Nat.reduceAdd,Nat.reduceSub,Nat.reduceMul,Int.reduceToNat,Int.reduceLE,Int.reduceLT,S0x,Sp_extent_End,Sp_extent_Valid,Sp_extent_Cut,Sp_extent_Shift,hz,z6])
theorem ent_extent_Splice : Ent Try.prog 50:=⟨_,Try.func50,rfl,by decide⟩
end Go.Proofs.Ytleahjfgedfgmaa.Am
