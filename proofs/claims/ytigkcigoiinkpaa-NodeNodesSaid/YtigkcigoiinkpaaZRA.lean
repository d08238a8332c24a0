import Derived.Test.YtigkcigoiinkpaaZGA
section
set_option linter.unusedVariables false
set_option linter.unusedSimpArgs false
set_option maxRecDepth 10000
set_option maxHeartbeats 0
namespace Go.Proofs.Ytigkcigoiinkpaa.Am
open Go Go.RowKit Go.Proofs
theorem tmod_nn {a b : Int} (h : 0 ≤ a) : a.tmod b = a % b:=Int.tmod_eq_emod_of_nonneg h
theorem tdiv_nn {a b : Int} (h : 0 ≤ a) : a.tdiv b = a / b:=Int.tdiv_eq_ediv_of_nonneg h
theorem mod2 (x : Int) : x % 256 % 256 = x % 256:=Int.emod_emod_of_dvd x (Int.dvd_refl 256)
theorem div256 (n : Int) (k : Nat) : n / 256 ^ k / 256 = n / 256 ^ (k + 1):=shr8 n k
theorem quo_rng {n : Int} (h0 : 0 ≤ n) (k : Nat) : 0 ≤ n / 256 ^ k ∧ n / 256 ^ k ≤ n:=by
  have hp:=p256_pos k
  exact ⟨Int.ediv_nonneg h0 (by omega),Int.ediv_le_self _ h0⟩
def Sp_overdubref01_Put (ds : List D) (out : Out) : Prop:=∃ n w : Int,ds = [.v (.int .i64 n),.v (.int .i64 w)] ∧ n < 9223372036854775808 ∧ out = ⟨.sl 0 1 0 (wd w) true,[(0,.row 5 1 ((putB (max 0 n) (wd w)).map mB))]⟩
theorem good_overdubref01_Put : Good Try.prog 62 Sp_overdubref01_Put:=by
  refine good_body (E:=E0) (nt:=29) (rs:=#[.tmp 4]) Try.func62 rfl rfl rfl ?_
  rintro ds out ⟨n,w,rfl,hn,rfl⟩
  refine ⟨by simp,?_⟩
  have hwd : ((wd w : Nat) : Int) = min (max w 0) 8:=by unfold wd;omega
  have hw0 : (min (max w 0) 8).toNat = wd w:=by unfold wd;omega
  have hmx : max n 0 = max 0 n:=by omega
  repeat' first
 | refine AW.seq ?_
 | refine AW.block ?_
 | refine AW.regl E0_ok [0,1,4,5,6,15,16,17] ?_
 | refine then_n ?_
 | refine then_r ?_
 | refine then_x ?_
 | refine block_x ?_
 | refine block_o (by decide) ?_
 | refine block_n ?_
 | refine block_r ?_
 | refine AW.skip ?_
 | refine AW.ret ?_
 | refine AW.exit ?_
 | refine AW.cond rfl ?_ ?_
 | refine awl_none rfl ?_
 | refine awl_nil2 ?_
 | (refine fun (hc : _ = _)=>?_;first|cases hc|((try rw [hc]);(try simp only [stH] at hc);(try (exfalso;omega)));(try (show Awl _ _ _ _ _;simp only [stU])))
 | ((first|refine fun (K : V → List _ → _) hK=>?_|refine fun (_ : V → V)=>?_);simp (disch:=omega) only [go_sem,Int.reduceEq,↓reduceIte,reduceCtorEq,Nat.reduceEqDiff,Nat.reduceLT,Nat.reduceLeDiff,Nat.reduceAdd,Nat.reduceSub,Nat.reduceMul,Int.reduceToNat,Int.reduceLE,Int.reduceLT,E0,hw0,hmx];(try (revert hK;intro hK;(repeat' first|(refine And.intro ?_ ?_)|(intro hc;first|cases hc|((try rw [hc]);(try simp only [stH] at hc);(try (exfalso;omega)))));all_goals first|(refine hK _ _ ?_;clear hK K;simp only [stU])|exact hK|omega)))
  refine AW.loop_wk (fun k : Nat=>⟨[(0,.d (.v (.int .i64 (max 0 n / 256 ^ k)))),(5,.sl 13 1 0 (wd w) true),(15,.d (.v (.int .i64 (wd w)))),(16,.d (.v (.int .i64 k)))],[(13,.row 5 1 ((putK (max 0 n) (wd w) k).map mB))],29⟩)
    (fun k=>k ≤ wd w) (fun k=>wd w - k) 0 (by omega) (fun w0 oa a w hs=>Wk.sr (ρ:=nm []) (Wk.of ?_) hs) ?_
  · simp (disch:=omega) only [go_sem,Int.reduceEq,↓reduceIte,reduceCtorEq,Nat.reduceEqDiff,Nat.reduceLT,Nat.reduceLeDiff,Nat.reduceAdd,Nat.reduceSub,Nat.reduceMul,Int.reduceToNat,Int.reduceLE,Int.reduceLT,E0,repl_B,putK_zero,Int.pow_zero,Int.ediv_one]
    first|exact ⟨rfl,by rw [putK_zero]⟩|rw [putK_zero]
  · intro k hk
    have hl:=putK_len (max 0 n) (wd w) k
    have hr:=quo_rng (show 0 ≤ max 0 n by omega) k
    have hst:=putK_set (max 0 n) (wd w) k
    have hdv:=div256 (max 0 n) k
    generalize max 0 n / 256 ^ k = x at *
    repeat' first
 | refine AW.seq ?_
 | refine AW.block ?_
 | refine AW.regl E0_ok [0,1,4,5,6,15,16,17] ?_
 | refine then_n ?_
 | refine then_r ?_
 | refine then_x ?_
 | refine block_x ?_
 | refine block_o (by decide) ?_
 | refine block_n ?_
 | refine block_r ?_
 | refine AW.skip ?_
 | refine AW.ret ?_
 | refine AW.exit ?_
 | refine AW.cond rfl ?_ ?_
 | refine awl_none rfl ?_
 | refine awl_nil2 ?_
 | (refine fun (hc : _ = _)=>?_;first|cases hc|((try rw [hc]);(try simp only [stH] at hc);(try (exfalso;omega)));(try (show Awl _ _ _ _ _;simp only [stU])))
 | ((first|refine fun (K : V → List _ → _) hK=>?_|refine fun (_ : V → V)=>?_);simp (disch:=omega) only [go_sem,Int.reduceEq,↓reduceIte,reduceCtorEq,Nat.reduceEqDiff,Nat.reduceLT,Nat.reduceLeDiff,Nat.reduceAdd,Nat.reduceSub,Nat.reduceMul,Int.reduceToNat,Int.reduceLE,Int.reduceLT,E0,wrap_u8,putK_len,hst,tmod_nn,tdiv_nn,mod2];(try (revert hK;intro hK;(repeat' first|(refine And.intro ?_ ?_)|(intro hc;first|cases hc|((try rw [hc]);(try simp only [stH] at hc);(try (exfalso;omega)))));all_goals first|(refine hK _ _ ?_;clear hK K;simp only [stU])|exact hK|omega)))
    · refine ⟨k + 1,by omega,by omega,nm [],Wk.of ?_⟩
      simp (disch:=omega) only [go_sem,Int.reduceEq,↓reduceIte,reduceCtorEq,Nat.reduceEqDiff,Nat.reduceLT,Nat.reduceLeDiff,Nat.reduceAdd,Nat.reduceSub,Nat.reduceMul,Int.reduceToNat,Int.reduceLE,Int.reduceLT,E0]
      first|exact ⟨by rw [hdv],rfl⟩|rfl
    · obtain rfl : k = wd w:=by omega
      (refine Ends.of (nm [(0,13)]) (by first|exact .inl rfl|exact .inr rfl) ?_;simp (disch:=omega) only [go_sem,Int.reduceEq,↓reduceIte,reduceCtorEq,Nat.reduceEqDiff,Nat.reduceLT,Nat.reduceLeDiff,Nat.reduceAdd,Nat.reduceSub,Nat.reduceMul,Int.reduceToNat,Int.reduceLE,Int.reduceLT,E0,putK_all])
theorem ent_overdubref01_Put : Ent Try.prog 62:=⟨_,Try.func62,rfl,by decide⟩
def Sp_overdubref01_Get (ds : List D) (out : Out) : Prop:=∃ l : List Int,ds = [.list (l.map mB)] ∧ Byt l ∧ l.length ≤ 9223372036854775807 ∧ out = getOut l
theorem good_overdubref01_Get : Good Try.prog 79 Sp_overdubref01_Get:=by
  refine good_body (E:=E0) (nt:=25) (rs:=#[.tmp 2,.tmp 3]) Try.func79 rfl rfl rfl ?_
  rintro ds out ⟨l,rfl,hb,hl,rfl⟩
  refine ⟨by simp,?_⟩
  by_cases h7 : 7 < l.length
  · rw [getOut,if_pos h7]
    repeat' first
 | refine AW.seq ?_
 | refine AW.block ?_
 | refine AW.regl E0_ok [0,2,3,4,5,8,13] ?_
 | refine then_n ?_
 | refine then_r ?_
 | refine then_x ?_
 | refine block_x ?_
 | refine block_o (by decide) ?_
 | refine block_n ?_
 | refine block_r ?_
 | refine AW.skip ?_
 | refine AW.ret ?_
 | refine AW.exit ?_
 | refine AW.cond rfl ?_ ?_
 | refine awl_none rfl ?_
 | refine awl_nil2 ?_
 | (refine fun (hc : _ = _)=>?_;first|cases hc|((try rw [hc]);(try simp only [stH] at hc);(try (exfalso;omega)));(try (show Awl _ _ _ _ _;simp only [stU])))
 | ((first|refine fun (K : V → List _ → _) hK=>?_|refine fun (_ : V → V)=>?_);simp (disch:=omega) only [go_sem,Int.reduceEq,↓reduceIte,reduceCtorEq,Nat.reduceEqDiff,Nat.reduceLT,Nat.reduceLeDiff,Nat.reduceAdd,Nat.reduceSub,Nat.reduceMul,Int.reduceToNat,Int.reduceLE,Int.reduceLT,E0];(try (revert hK;intro hK;(repeat' first|(refine And.intro ?_ ?_)|(intro hc;first|cases hc|((try rw [hc]);(try simp only [stH] at hc);(try (exfalso;omega)))));all_goals first|(refine hK _ _ ?_;clear hK K;simp only [stU])|exact hK|omega)))
    (refine Ends.of (nm []) (by first|exact .inl rfl|exact .inr rfl) ?_;simp (disch:=omega) only [go_sem,Int.reduceEq,↓reduceIte,reduceCtorEq,Nat.reduceEqDiff,Nat.reduceLT,Nat.reduceLeDiff,Nat.reduceAdd,Nat.reduceSub,Nat.reduceMul,Int.reduceToNat,Int.reduceLE,Int.reduceLT,E0])
  · rw [getOut,if_neg h7]
    repeat' first
 | refine AW.seq ?_
 | refine AW.block ?_
 | refine AW.regl E0_ok [0,2,3,4,5,8,13] ?_
 | refine then_n ?_
 | refine then_r ?_
 | refine then_x ?_
 | refine block_x ?_
 | refine block_o (by decide) ?_
 | refine block_n ?_
 | refine block_r ?_
 | refine AW.skip ?_
 | refine AW.ret ?_
 | refine AW.exit ?_
 | refine AW.cond rfl ?_ ?_
 | refine awl_none rfl ?_
 | refine awl_nil2 ?_
 | (refine fun (hc : _ = _)=>?_;first|cases hc|((try rw [hc]);(try simp only [stH] at hc);(try (exfalso;omega)));(try (show Awl _ _ _ _ _;simp only [stU])))
 | ((first|refine fun (K : V → List _ → _) hK=>?_|refine fun (_ : V → V)=>?_);simp (disch:=omega) only [go_sem,Int.reduceEq,↓reduceIte,reduceCtorEq,Nat.reduceEqDiff,Nat.reduceLT,Nat.reduceLeDiff,Nat.reduceAdd,Nat.reduceSub,Nat.reduceMul,Int.reduceToNat,Int.reduceLE,Int.reduceLT,E0];(try (revert hK;intro hK;(repeat' first|(refine And.intro ?_ ?_)|(intro hc;first|cases hc|((try rw [hc]);(try simp only [stH] at hc);(try (exfalso;omega)))));all_goals first|(refine hK _ _ ?_;clear hK K;simp only [stU])|exact hK|omega)))
    refine AW.loop_wk (fun k : Nat=>⟨[(0,.d (.list (l.map mB))),(4,.d (.v (.int .i64 (leV (l.drop k))))),(5,.d (.v (.int .i64 ((k : Int) - 1))))],[],25⟩)
      (fun k=>k ≤ l.length) (fun k=>k) l.length (by omega) (fun w0 oa a w hs=>Wk.sr (ρ:=nm []) (Wk.of ?_) hs) ?_
    · simp (disch:=omega) only [go_sem,Int.reduceEq,↓reduceIte,reduceCtorEq,Nat.reduceEqDiff,Nat.reduceLT,Nat.reduceLeDiff,Nat.reduceAdd,Nat.reduceSub,Nat.reduceMul,Int.reduceToNat,Int.reduceLE,Int.reduceLT,E0,List.drop_length,leV]
    · intro k hk
      by_cases hk0 : 0 < k
      · obtain ⟨q,rfl⟩ : ∃ q,k = q + 1:=⟨k - 1,by omega⟩
        have e1:=leV_drop_succ (l:=l) (i:=q) (by omega)
        have e2:=getD_byt hb q
        have e3:=leV_bound (byt_drop hb (q + 1))
        have e4 : (256 : Int) ^ (l.drop (q + 1)).length ≤ 256 ^ 6:=p256_mono (by rw [List.length_drop];omega)
        have e5 : (256 : Int) ^ 6 = 281474976710656:=by decide
        have e6 : nth (l.map mB) q = .v (.int .u8 (l.getD q 0)):=nth_B l q (by omega)
        have e7 : (((q + 1 : Nat) : Int) - 1).toNat = q:=by omega
        have e8 : ((q + 1 : Nat) : Int) - 1 = q:=by omega
        generalize l.getD q 0 = x at *
        generalize leV (l.drop (q + 1)) = v at *
        rw [e8]
        repeat' first
 | refine AW.seq ?_
 | refine AW.block ?_
 | refine AW.regl E0_ok [0,2,3,4,5,8,13] ?_
 | refine then_n ?_
 | refine then_r ?_
 | refine then_x ?_
 | refine block_x ?_
 | refine block_o (by decide) ?_
 | refine block_n ?_
 | refine block_r ?_
 | refine AW.skip ?_
 | refine AW.ret ?_
 | refine AW.exit ?_
 | refine AW.cond rfl ?_ ?_
 | refine awl_none rfl ?_
 | refine awl_nil2 ?_
 | (refine fun (hc : _ = _)=>?_;first|cases hc|((try rw [hc]);(try simp only [stH] at hc);(try (exfalso;omega)));(try (show Awl _ _ _ _ _;simp only [stU])))
 | ((first|refine fun (K : V → List _ → _) hK=>?_|refine fun (_ : V → V)=>?_);simp (disch:=omega) only [go_sem,Int.reduceEq,↓reduceIte,reduceCtorEq,Nat.reduceEqDiff,Nat.reduceLT,Nat.reduceLeDiff,Nat.reduceAdd,Nat.reduceSub,Nat.reduceMul,Int.reduceToNat,Int.reduceLE,Int.reduceLT,E0,e6,all_B,Int.reducePow];(try (revert hK;intro hK;(repeat' first|(refine And.intro ?_ ?_)|(intro hc;first|cases hc|((try rw [hc]);(try simp only [stH] at hc);(try (exfalso;omega)))));all_goals first|(refine hK _ _ ?_;clear hK K;simp only [stU])|exact hK|omega)))
        have e10 : 256 * v + x = leV (l.drop q):=by rw [e1];omega
        refine ⟨q,by omega,by omega,nm [],Wk.of ?_⟩
        simp (disch:=omega) only [go_sem,Int.reduceEq,↓reduceIte,reduceCtorEq,Nat.reduceEqDiff,Nat.reduceLT,Nat.reduceLeDiff,Nat.reduceAdd,Nat.reduceSub,Nat.reduceMul,Int.reduceToNat,Int.reduceLE,Int.reduceLT,E0,e10]
      · obtain rfl : k = 0:=by omega
        repeat' first
 | refine AW.seq ?_
 | refine AW.block ?_
 | refine AW.regl E0_ok [0,2,3,4,5,8,13] ?_
 | refine then_n ?_
 | refine then_r ?_
 | refine then_x ?_
 | refine block_x ?_
 | refine block_o (by decide) ?_
 | refine block_n ?_
 | refine block_r ?_
 | refine AW.skip ?_
 | refine AW.ret ?_
 | refine AW.exit ?_
 | refine AW.cond rfl ?_ ?_
 | refine awl_none rfl ?_
 | refine awl_nil2 ?_
 | (refine fun (hc : _ = _)=>?_;first|cases hc|((try rw [hc]);(try simp only [stH] at hc);(try (exfalso;omega)));(try (show Awl _ _ _ _ _;simp only [stU])))
 | ((first|refine fun (K : V → List _ → _) hK=>?_|refine fun (_ : V → V)=>?_);simp (disch:=omega) only [go_sem,Int.reduceEq,↓reduceIte,reduceCtorEq,Nat.reduceEqDiff,Nat.reduceLT,Nat.reduceLeDiff,Nat.reduceAdd,Nat.reduceSub,Nat.reduceMul,Int.reduceToNat,Int.reduceLE,Int.reduceLT,E0];(try (revert hK;intro hK;(repeat' first|(refine And.intro ?_ ?_)|(intro hc;first|cases hc|((try rw [hc]);(try simp only [stH] at hc);(try (exfalso;omega)))));all_goals first|(refine hK _ _ ?_;clear hK K;simp only [stU])|exact hK|omega)))
        (refine Ends.of (nm []) (by first|exact .inl rfl|exact .inr rfl) ?_;simp (disch:=omega) only [go_sem,Int.reduceEq,↓reduceIte,reduceCtorEq,Nat.reduceEqDiff,Nat.reduceLT,Nat.reduceLeDiff,Nat.reduceAdd,Nat.reduceSub,Nat.reduceMul,Int.reduceToNat,Int.reduceLE,Int.reduceLT,E0,List.drop_zero])
theorem ent_overdubref01_Get : Ent Try.prog 79:=⟨_,Try.func79,rfl,by decide⟩
noncomputable def R1 : Env:=⟨Try.prog,fun f ds out=>(f = 79 ∧ Sp_overdubref01_Get ds out),Es,fun _=>false⟩
theorem R1_sp : ∀ f ds out,R1.Sp f ds out → Ent R1.P f ∧ Good R1.P f (fun a b=>a = ds ∧ b = out):=by
  rintro f ds out ⟨rfl,h⟩
  exact ⟨ent_overdubref01_Get,good_overdubref01_Get.one h⟩
theorem R1_ok : R1.Ok:=⟨R1_sp,Es_ok⟩
def Sp_overdubref01_Take (ds : List D) (out : Out) : Prop:=∃ l ws : List Int,ds = [.list (l.map mB),.list (ws.map mI)] ∧ Byt l ∧ l.length ≤ 9223372036854775807 ∧ ws.length ≤ 1000000000000 ∧ out = takeOut l ws
theorem good_overdubref01_Take : Good Try.prog 78 Sp_overdubref01_Take:=by
  refine good_body (E:=R1) (nt:=48) (rs:=#[.tmp 4,.tmp 5]) Try.func78 rfl rfl rfl ?_
  rintro ds out ⟨l,ws,rfl,hb,hl,hw,rfl⟩
  refine ⟨by simp,?_⟩
  repeat' first
 | refine AW.seq ?_
 | refine AW.block ?_
 | refine AW.regl R1_ok [0,1,4,5,6,7,8,9,12,13,14,31] ?_
 | refine then_n ?_
 | refine then_r ?_
 | refine then_x ?_
 | refine block_x ?_
 | refine block_o (by decide) ?_
 | refine block_n ?_
 | refine block_r ?_
 | refine AW.skip ?_
 | refine AW.ret ?_
 | refine AW.exit ?_
 | refine AW.cond rfl ?_ ?_
 | refine awl_none rfl ?_
 | refine awl_nil2 ?_
 | refine awl_some rfl rfl (Nat.le_of_ble_eq_true rfl) rfl rfl ?_ ?_
 | (refine fun (hc : _ = _)=>?_;first|cases hc|((try rw [hc]);(try simp only [stH] at hc);(try (exfalso;omega)));(try (show Awl _ _ _ _ _;simp only [stU])))
 | ((first|refine fun (K : V → List _ → _) hK=>?_|refine fun (_ : V → V)=>?_);simp (disch:=omega) only [go_sem,Int.reduceEq,↓reduceIte,reduceCtorEq,Nat.reduceEqDiff,Nat.reduceLT,Nat.reduceLeDiff,Nat.reduceAdd,Nat.reduceSub,Nat.reduceMul,Int.reduceToNat,Int.reduceLE,Int.reduceLT,R1,Sp_overdubref01_Get];(try (revert hK;intro hK;(repeat' first|(refine And.intro ?_ ?_)|(intro hc;first|cases hc|((try rw [hc]);(try simp only [stH] at hc);(try (exfalso;omega)))));all_goals first|(refine hK _ _ ?_;clear hK K;simp only [stU])|exact hK|omega)))
  refine AW.loop_wk (fun p : Nat × List Int × List Int=>⟨[(0,.d (.list (p.2.1.map mB))),(1,.d (.list (ws.map mI))),(6,.sl 100 1 0 p.2.2.length true),(12,.d (.v (.int .i64 ws.length))),(13,.d (.v (.int .i64 p.1)))],[(100,.row 3 1 (p.2.2.map mI))],48⟩)
    (fun p=>p.1 ≤ ws.length ∧ Byt p.2.1 ∧ p.2.1.length ≤ l.length ∧ p.2.2.length = p.1 ∧ takeL l ws = (takeL p.2.1 (ws.drop p.1)).map (p.2.2 ++ ·)) (fun p=>ws.length - p.1) (0,l,[]) ⟨by omega,hb,Nat.le_refl _,rfl,by simp⟩ (fun w0 oa a w hs=>Wk.sr (ρ:=nm []) (Wk.of ?_) (nil_sr 6 100 3 1 rfl (by simp) rfl (by decide) hs)) ?_
  · simp (disch:=omega) only [go_sem,Int.reduceEq,↓reduceIte,reduceCtorEq,Nat.reduceEqDiff,Nat.reduceLT,Nat.reduceLeDiff,Nat.reduceAdd,Nat.reduceSub,Nat.reduceMul,Int.reduceToNat,Int.reduceLE,Int.reduceLT,R1,Sp_overdubref01_Get]
  · rintro ⟨k,m,r⟩ ⟨hk,hm,hml,hr,hv⟩
    simp only at hk hm hml hr hv
    by_cases hk1 : k < ws.length
    · have e1 : ws.drop k = ws.getD k 0 :: ws.drop (k + 1):=by rw [List.drop_eq_getElem_cons hk1];simp [List.getD_eq_getElem?_getD,hk1]
      have e2 : nth (ws.map mI) k = .v (.int .i64 (ws.getD k 0)):=nth_I ws k hk1
      rw [e1] at hv
      generalize ws.getD k 0 = w at *
      have hbt : Byt (m.take w.toNat) = True:=by simp only [eq_iff_iff,iff_true];exact byt_take hm _
      by_cases hc : w < 0 ∨ 7 < w ∨ (m.length : Int) < w
      · rw [takeL,if_pos hc,Option.map_none] at hv
        rw [takeOut,hv]
        repeat' first
 | refine AW.seq ?_
 | refine AW.block ?_
 | refine AW.regl R1_ok [0,1,4,5,6,7,8,9,12,13,14,31] ?_
 | refine then_n ?_
 | refine then_r ?_
 | refine then_x ?_
 | refine block_x ?_
 | refine block_o (by decide) ?_
 | refine block_n ?_
 | refine block_r ?_
 | refine AW.skip ?_
 | refine AW.ret ?_
 | refine AW.exit ?_
 | refine AW.cond rfl ?_ ?_
 | refine awl_none rfl ?_
 | refine awl_nil2 ?_
 | refine awl_some rfl rfl (Nat.le_of_ble_eq_true rfl) rfl rfl ?_ ?_
 | (refine fun (hc : _ = _)=>?_;first|cases hc|((try rw [hc]);(try simp only [stH] at hc);(try (exfalso;omega)));(try (show Awl _ _ _ _ _;simp only [stU])))
 | ((first|refine fun (K : V → List _ → _) hK=>?_|refine fun (_ : V → V)=>?_);simp (disch:=omega) only [go_sem,Int.reduceEq,↓reduceIte,reduceCtorEq,Nat.reduceEqDiff,Nat.reduceLT,Nat.reduceLeDiff,Nat.reduceAdd,Nat.reduceSub,Nat.reduceMul,Int.reduceToNat,Int.reduceLE,Int.reduceLT,R1,Sp_overdubref01_Get,e2,all_I];(try (revert hK;intro hK;(repeat' first|(refine And.intro ?_ ?_)|(intro hc;first|cases hc|((try rw [hc]);(try simp only [stH] at hc);(try (exfalso;omega)))));all_goals first|(refine hK _ _ ?_;clear hK K;simp only [stU])|exact hK|omega)))
        all_goals (refine Ends.of (nm []) (by first|exact .inl rfl|exact .inr rfl) ?_;simp (disch:=omega) only [go_sem,Int.reduceEq,↓reduceIte,reduceCtorEq,Nat.reduceEqDiff,Nat.reduceLT,Nat.reduceLeDiff,Nat.reduceAdd,Nat.reduceSub,Nat.reduceMul,Int.reduceToNat,Int.reduceLE,Int.reduceLT,R1,Sp_overdubref01_Get])
      · have hg : getOut (m.take w.toNat) = ⟨.tup [.d (.v (.int .i64 (leV (m.take w.toNat)))),.d (.v (.bool true))],[]⟩:=by rw [getOut,if_neg (by rw [List.length_take];omega)]
        have hlt : (m.take w.toNat).length ≤ 7:=by rw [List.length_take];omega
        rw [takeL,if_neg hc] at hv
        repeat' first
 | refine AW.seq ?_
 | refine AW.block ?_
 | refine AW.regl R1_ok [0,1,4,5,6,7,8,9,12,13,14,31] ?_
 | refine then_n ?_
 | refine then_r ?_
 | refine then_x ?_
 | refine block_x ?_
 | refine block_o (by decide) ?_
 | refine block_n ?_
 | refine block_r ?_
 | refine AW.skip ?_
 | refine AW.ret ?_
 | refine AW.exit ?_
 | refine AW.cond rfl ?_ ?_
 | refine awl_none rfl ?_
 | refine awl_nil2 ?_
 | refine awl_some rfl rfl (Nat.le_of_ble_eq_true rfl) rfl rfl ?_ ?_
 | (refine fun (hc : _ = _)=>?_;first|cases hc|((try rw [hc]);(try simp only [stH] at hc);(try (exfalso;omega)));(try (show Awl _ _ _ _ _;simp only [stU])))
 | ((first|refine fun (K : V → List _ → _) hK=>?_|refine fun (_ : V → V)=>?_);simp (disch:=omega) only [go_sem,Int.reduceEq,↓reduceIte,reduceCtorEq,Nat.reduceEqDiff,Nat.reduceLT,Nat.reduceLeDiff,Nat.reduceAdd,Nat.reduceSub,Nat.reduceMul,Int.reduceToNat,Int.reduceLE,Int.reduceLT,R1,Sp_overdubref01_Get,e2,all_I,all_B,hbt,hg,take_mB,drop_mB,mB_inj,snoc_I,List.take_length];(try (revert hK;intro hK;(repeat' first|(refine And.intro ?_ ?_)|(intro hc;first|cases hc|((try rw [hc]);(try simp only [stH] at hc);(try (exfalso;omega)))));all_goals first|(refine hK _ _ ?_;clear hK K;simp only [stU])|exact hK|omega)))
        have hd : (m.drop w.toNat).length ≤ l.length:=by rw [List.length_drop];omega
        have hrl : (r ++ [leV (m.take w.toNat)]).length = k + 1:=by simp [hr]
        refine ⟨(k + 1,m.drop w.toNat,r ++ [leV (m.take w.toNat)]),by dsimp only;omega,byt_drop hm _,hd,hrl,?_,by dsimp only;omega,nm [(100,42)],Wk.of ?_⟩
        · dsimp only
          rw [hv,Option.map_map]
          congr 1
          funext x
          simp
        · simp (disch:=omega) only [go_sem,Int.reduceEq,↓reduceIte,reduceCtorEq,Nat.reduceEqDiff,Nat.reduceLT,Nat.reduceLeDiff,Nat.reduceAdd,Nat.reduceSub,Nat.reduceMul,Int.reduceToNat,Int.reduceLE,Int.reduceLT,R1,Sp_overdubref01_Get]
          first|rfl|exact ⟨rfl,rfl⟩
    · obtain rfl : k = ws.length:=by omega
      have hz : takeL l ws = some r:=by rw [hv,List.drop_length,takeL];simp
      rw [takeOut,hz]
      repeat' first
 | refine AW.seq ?_
 | refine AW.block ?_
 | refine AW.regl R1_ok [0,1,4,5,6,7,8,9,12,13,14,31] ?_
 | refine then_n ?_
 | refine then_r ?_
 | refine then_x ?_
 | refine block_x ?_
 | refine block_o (by decide) ?_
 | refine block_n ?_
 | refine block_r ?_
 | refine AW.skip ?_
 | refine AW.ret ?_
 | refine AW.exit ?_
 | refine AW.cond rfl ?_ ?_
 | refine awl_none rfl ?_
 | refine awl_nil2 ?_
 | refine awl_some rfl rfl (Nat.le_of_ble_eq_true rfl) rfl rfl ?_ ?_
 | (refine fun (hc : _ = _)=>?_;first|cases hc|((try rw [hc]);(try simp only [stH] at hc);(try (exfalso;omega)));(try (show Awl _ _ _ _ _;simp only [stU])))
 | ((first|refine fun (K : V → List _ → _) hK=>?_|refine fun (_ : V → V)=>?_);simp (disch:=omega) only [go_sem,Int.reduceEq,↓reduceIte,reduceCtorEq,Nat.reduceEqDiff,Nat.reduceLT,Nat.reduceLeDiff,Nat.reduceAdd,Nat.reduceSub,Nat.reduceMul,Int.reduceToNat,Int.reduceLE,Int.reduceLT,R1,Sp_overdubref01_Get];(try (revert hK;intro hK;(repeat' first|(refine And.intro ?_ ?_)|(intro hc;first|cases hc|((try rw [hc]);(try simp only [stH] at hc);(try (exfalso;omega)))));all_goals first|(refine hK _ _ ?_;clear hK K;simp only [stU])|exact hK|omega)))
      all_goals (refine Ends.of (nm [(0,100)]) (by first|exact .inl rfl|exact .inr rfl) ?_;simp (disch:=omega) only [go_sem,Int.reduceEq,↓reduceIte,reduceCtorEq,Nat.reduceEqDiff,Nat.reduceLT,Nat.reduceLeDiff,Nat.reduceAdd,Nat.reduceSub,Nat.reduceMul,Int.reduceToNat,Int.reduceLE,Int.reduceLT,R1,Sp_overdubref01_Get])
theorem ent_overdubref01_Take : Ent Try.prog 78:=⟨_,Try.func78,rfl,by decide⟩
end Go.Proofs.Ytigkcigoiinkpaa.Am
end
section
set_option linter.unusedVariables false
set_option linter.unusedSimpArgs false
set_option maxRecDepth 10000
set_option maxHeartbeats 0
namespace Go.Proofs.Ytigkcigoiinkpaa.Am
open Go Go.RowKit Go.Proofs
def Sp_overdubref14_join (ds : List D) (out : Out) : Prop:=∃ l : List (List Int),ds = [.list (l.map bys)] ∧ l.length < 1000000000 ∧ l.flatten.length < 100000000000000 ∧ out = ⟨.sl 0 1 0 l.flatten.length true,[(0,.row 5 1 (l.flatten.map mB))]⟩
theorem good_overdubref14_join : Good Try.prog 75 Sp_overdubref14_join:=by
  refine good_body (E:=E0) (nt:=18) (rs:=#[.tmp 2]) Try.func75 rfl rfl rfl ?_
  rintro ds out ⟨l,rfl,hl,hf,rfl⟩
  refine ⟨by simp,?_⟩
  repeat' first
 | refine AW.seq ?_
 | refine AW.block ?_
 | refine AW.regl E0_ok [0,2,3,4,6,7,8] ?_
 | refine then_n ?_
 | refine then_r ?_
 | refine then_x ?_
 | refine block_x ?_
 | refine block_o (by decide) ?_
 | refine block_n ?_
 | refine block_r ?_
 | refine AW.skip ?_
 | refine AW.ret ?_
 | refine AW.exit ?_
 | refine AW.cond rfl ?_ ?_
 | refine awl_none rfl ?_
 | refine awl_nil2 ?_
 | (refine fun (hc : _ = _)=>?_;first|cases hc|((try rw [hc]);(try simp only [stH] at hc);(try (exfalso;omega)));(try (show Awl _ _ _ _ _;simp only [stU])))
 | ((first|refine fun (K : V → List _ → _) hK=>?_|refine fun (_ : V → V)=>?_);simp (disch:=omega) only [go_sem,Int.reduceEq,↓reduceIte,reduceCtorEq,Nat.reduceEqDiff,Nat.reduceLT,Nat.reduceLeDiff,Nat.reduceAdd,Nat.reduceSub,Nat.reduceMul,Int.reduceToNat,Int.reduceLE,Int.reduceLT,E0];(try (revert hK;intro hK;(repeat' first|(refine And.intro ?_ ?_)|(intro hc;first|cases hc|((try rw [hc]);(try simp only [stH] at hc);(try (exfalso;omega)))));all_goals first|(refine hK _ _ ?_;clear hK K;simp only [stU])|exact hK|omega)))
  refine AW.loop_wk (fun k : Nat=>⟨[(0,.d (.list (l.map bys))),(3,.sl 100 1 0 (flatK l k).length true),(6,.d (.v (.int .i64 l.length))),(7,.d (.v (.int .i64 k)))],[(100,.row 5 1 ((flatK l k).map mB))],18⟩)
    (fun k=>k ≤ l.length) (fun k=>l.length - k) 0 (by omega) (fun w0 oa a w hs=>Wk.sr (ρ:=nm []) (Wk.of ?_) (nil_sr 3 100 5 1 rfl (by simp) rfl (by decide) hs)) ?_
  · simp (disch:=omega) only [go_sem,Int.reduceEq,↓reduceIte,reduceCtorEq,Nat.reduceEqDiff,Nat.reduceLT,Nat.reduceLeDiff,Nat.reduceAdd,Nat.reduceSub,Nat.reduceMul,Int.reduceToNat,Int.reduceLE,Int.reduceLT,E0]
    first|done|simp [flatK]
  · intro k hk
    have hl1:=flatK_len l k
    have hl2:=flatK_len l (k + 1)
    by_cases hk1 : k < l.length
    · have e:=flatK_succ l k hk1
      have e2 : (flatK l k).length + (l.getD k []).length = (flatK l (k + 1)).length:=by rw [← e,List.length_append]
      repeat' first
 | refine AW.seq ?_
 | refine AW.block ?_
 | refine AW.regl E0_ok [0,2,3,4,6,7,8] ?_
 | refine then_n ?_
 | refine then_r ?_
 | refine then_x ?_
 | refine block_x ?_
 | refine block_o (by decide) ?_
 | refine block_n ?_
 | refine block_r ?_
 | refine AW.skip ?_
 | refine AW.ret ?_
 | refine AW.exit ?_
 | refine AW.cond rfl ?_ ?_
 | refine awl_none rfl ?_
 | refine awl_nil2 ?_
 | (refine fun (hc : _ = _)=>?_;first|cases hc|((try rw [hc]);(try simp only [stH] at hc);(try (exfalso;omega)));(try (show Awl _ _ _ _ _;simp only [stU])))
 | ((first|refine fun (K : V → List _ → _) hK=>?_|refine fun (_ : V → V)=>?_);simp (disch:=omega) only [go_sem,Int.reduceEq,↓reduceIte,reduceCtorEq,Nat.reduceEqDiff,Nat.reduceLT,Nat.reduceLeDiff,Nat.reduceAdd,Nat.reduceSub,Nat.reduceMul,Int.reduceToNat,Int.reduceLE,Int.reduceLT,E0,nth_Y,all_Y,bys_eq,hk1];(try (revert hK;intro hK;(repeat' first|(refine And.intro ?_ ?_)|(intro hc;first|cases hc|((try rw [hc]);(try simp only [stH] at hc);(try (exfalso;omega)))));all_goals first|(refine hK _ _ ?_;clear hK K;simp only [stU])|exact hK|omega)))
      · refine ⟨k + 1,by omega,by omega,nm [(100,15)],Wk.of ?_⟩
        simp (disch:=omega) only [go_sem,Int.reduceEq,↓reduceIte,reduceCtorEq,Nat.reduceEqDiff,Nat.reduceLT,Nat.reduceLeDiff,Nat.reduceAdd,Nat.reduceSub,Nat.reduceMul,Int.reduceToNat,Int.reduceLE,Int.reduceLT,E0,e,e2]
        exact ⟨rfl,by rw [← List.map_append,e]⟩
    · obtain rfl : k = l.length:=by omega
      repeat' first
 | refine AW.seq ?_
 | refine AW.block ?_
 | refine AW.regl E0_ok [0,2,3,4,6,7,8] ?_
 | refine then_n ?_
 | refine then_r ?_
 | refine then_x ?_
 | refine block_x ?_
 | refine block_o (by decide) ?_
 | refine block_n ?_
 | refine block_r ?_
 | refine AW.skip ?_
 | refine AW.ret ?_
 | refine AW.exit ?_
 | refine AW.cond rfl ?_ ?_
 | refine awl_none rfl ?_
 | refine awl_nil2 ?_
 | (refine fun (hc : _ = _)=>?_;first|cases hc|((try rw [hc]);(try simp only [stH] at hc);(try (exfalso;omega)));(try (show Awl _ _ _ _ _;simp only [stU])))
 | ((first|refine fun (K : V → List _ → _) hK=>?_|refine fun (_ : V → V)=>?_);simp (disch:=omega) only [go_sem,Int.reduceEq,↓reduceIte,reduceCtorEq,Nat.reduceEqDiff,Nat.reduceLT,Nat.reduceLeDiff,Nat.reduceAdd,Nat.reduceSub,Nat.reduceMul,Int.reduceToNat,Int.reduceLE,Int.reduceLT,E0,nth_Y,all_Y,bys_eq];(try (revert hK;intro hK;(repeat' first|(refine And.intro ?_ ?_)|(intro hc;first|cases hc|((try rw [hc]);(try simp only [stH] at hc);(try (exfalso;omega)))));all_goals first|(refine hK _ _ ?_;clear hK K;simp only [stU])|exact hK|omega)))
      (refine Ends.of (nm [(0,100)]) (by first|exact .inl rfl|exact .inr rfl) ?_;simp (disch:=omega) only [go_sem,Int.reduceEq,↓reduceIte,reduceCtorEq,Nat.reduceEqDiff,Nat.reduceLT,Nat.reduceLeDiff,Nat.reduceAdd,Nat.reduceSub,Nat.reduceMul,Int.reduceToNat,Int.reduceLE,Int.reduceLT,E0,flatK_all,Nat.le_refl])
theorem ent_overdubref14_join : Ent Try.prog 75:=⟨_,Try.func75,rfl,by decide⟩
end Go.Proofs.Ytigkcigoiinkpaa.Am
end
section
set_option linter.unusedVariables false
set_option linter.unusedSimpArgs false
set_option maxRecDepth 10000
set_option maxHeartbeats 0
namespace Go.Proofs.Ytigkcigoiinkpaa.Am
open Go Go.RowKit Go.Proofs
noncomputable def R2 : Env:=⟨Try.prog,fun f ds out=>(f = 62 ∧ Sp_overdubref01_Put ds out) ∨ (f = 75 ∧ Sp_overdubref14_join ds out),Es,fun _=>false⟩
theorem R2_sp : ∀ f ds out,R2.Sp f ds out → Ent R2.P f ∧ Good R2.P f (fun a b=>a = ds ∧ b = out):=by
  rintro f ds out (⟨rfl,h⟩|⟨rfl,h⟩)
  · exact ⟨ent_overdubref01_Put,good_overdubref01_Put.one h⟩
  · exact ⟨ent_overdubref14_join,good_overdubref14_join.one h⟩
theorem R2_ok : R2.Ok:=⟨R2_sp,Es_ok⟩
def Sp_overdubref14_Extents (ds : List D) (out : Out) : Prop:=∃ l : List Xt,ds = [.list (l.map eD)] ∧ l.length < 1000000 ∧ (∀ e ∈ l,numE e) ∧ out = ⟨.sl 0 1 0 (exsB l).length true,[(0,.row 5 1 ((exsB l).map mB))]⟩
def bb_overdubref14_Extents_6 : List Nat:=[0,0,2,6,0,16,62,0,128,510,0,1024,4094,0,8192,32766,65534,131070,262143,524287]
def cc_overdubref14_Extents_6 : List (List (Option Bool)):=[[some false,none,none,none,none,none,none,none,none,none,none,none,none,none,none,none,none,none,some false,some false],[none,some false,some false,some false,none,none,some false,none,none,some false,none,none,some false,none,none,some false,some false,some false,some false,some false],[none,some true,some false,some false,none,none,some false,none,none,some false,none,none,some false,none,none,some false,some false,some false,some false,some false],[none,some true,some true,some false,none,none,some false,none,none,some false,none,none,some false,none,none,some false,some false,some false,some false,some false],[none,none,none,none,some false,some false,some false,none,none,some false,none,none,some false,none,none,some false,some false,some false,some false,some false],[none,none,none,none,some true,some false,some false,none,none,some false,none,none,some false,none,none,some false,some false,some false,some false,some false],[none,some true,some true,some true,some true,some true,some false,none,none,some false,none,none,some false,none,none,some false,some false,some false,some false,some false],[none,none,none,none,none,none,none,some false,some false,some false,none,none,some false,none,none,some false,some false,some false,some false,some false],[none,none,none,none,none,none,none,some true,some false,some false,none,none,some false,none,none,some false,some false,some false,some false,some false],[none,some true,some true,some true,some true,some true,some true,some true,some true,some false,none,none,some false,none,none,some false,some false,some false,some false,some false],[none,none,none,none,none,none,none,none,none,none,some false,some false,some false,none,none,some false,some false,some false,some false,some false],[none,none,none,none,none,none,none,none,none,none,some true,some false,some false,none,none,some false,some false,some false,some false,some false],[none,some true,some true,some true,some true,some true,some true,some true,some true,some true,some true,some true,some false,none,none,some false,some false,some false,some false,some false],[none,none,none,none,none,none,none,none,none,none,none,none,none,some false,some false,some false,some false,some false,some false,some false],[none,none,none,none,none,none,none,none,none,none,none,none,none,some true,some false,some false,some false,some false,some false,some false],[none,some true,some true,some true,some true,some true,some true,some true,some true,some true,some true,some true,some true,some true,some true,some false,some false,some false,some false,some false],[none,some true,some true,some true,some true,some true,some true,some true,some true,some true,some true,some true,some true,some true,some true,some true,some false,some false,some false,some false],[none,some true,some true,some true,some true,some true,some true,some true,some true,some true,some true,some true,some true,some true,some true,some true,some true,some false,some false,some false],[some true,some true,some true,some true,some true,some true,some true,some true,some true,some true,some true,some true,some true,some true,some true,some true,some true,some true,some false,some false],[some true,some true,some true,some true,some true,some true,some true,some true,some true,some true,some true,some true,some true,some true,some true,some true,some true,some true,some true,some false]]
theorem good_overdubref14_Extents : Good Try.prog 55 Sp_overdubref14_Extents:=by
  refine good_body (E:=R2) (nt:=36) (rs:=#[.tmp 2]) Try.func55 rfl rfl rfl ?_
  rintro ds out ⟨l,rfl,hl,hn,rfl⟩
  refine ⟨by simp,?_⟩
  repeat' first
 | refine AW.seq ?_
 | refine AW.block ?_
 | refine AW.regl R2_ok [0,2,3,4,5,7,8,9] ?_
 | (refine AW.regc (id:=6) R2_ok follows bb_overdubref14_Extents_6 (by kernel_rfl) [0,2,3,4,5,7,8,9] ?_)
 | refine then_n ?_
 | refine then_r ?_
 | refine then_x ?_
 | refine block_x ?_
 | refine block_o (by decide) ?_
 | refine block_n ?_
 | refine block_r ?_
 | refine AW.skip ?_
 | refine AW.ret ?_
 | refine AW.exit ?_
 | refine AW.cond rfl ?_ ?_
 | refine awl_none rfl ?_
 | refine awl_nil2 ?_
 | refine awc_none rfl ?_
 | exact each_nil
 | refine each_none rfl ?_ ?_
 | refine awc_leaf2 [some 15,some 16,some 17,some 18,some 19,some 20,some 21,some 22,some 23,some 24,some 25,some 26,some 27,some 28,some 29,some 30,some 31,some 32,some 33,some 3] cc_overdubref14_Extents_6 rfl (by kernel_rfl) (by kernel_rfl) ?_ ?_
 | (refine fun (hc : _ = _)=>?_;first|cases hc|((try rw [hc]);(try simp only [stH] at hc);(try (exfalso;omega)));(try ((first|show Awl _ _ _ _ _|show Awc _ _ _ _ _ _);simp only [stU])))
 | ((first|refine fun (K : V → List _ → _) hK=>?_|refine fun (_ : V → V)=>?_|refine fun (bb : Nat → Bool) K hK=>?_);simp (disch:=omega) only [go_sem,Int.reduceEq,↓reduceIte,reduceCtorEq,Nat.reduceEqDiff,Nat.reduceLT,Nat.reduceLeDiff,Nat.reduceAdd,Nat.reduceSub,Nat.reduceMul,Int.reduceToNat,Int.reduceLE,Int.reduceLT,R2,Sp_overdubref01_Put,Sp_overdubref14_join,Sg3,St.updIf,ifc_nil,gt_ifc,go_ifc,ite_self,Option.none_or,Option.some_or];(try (revert hK;intro hK;(repeat' first|(refine And.intro ?_ ?_)|(intro hc;first|cases hc|((try rw [hc]);(try simp only [stH] at hc);(try (exfalso;omega)))));all_goals first|(refine hK _ _ ?_;clear hK K;simp only [stU])|exact hK|omega)))
  refine AW.loop_wk (fun k : Nat=>⟨[(0,.d (.list (l.map eD))),(3,.sl 100 1 0 (exsB (l.take k)).length true),(7,.d (.v (.int .i64 l.length))),(8,.d (.v (.int .i64 k)))],[(100,.row 5 1 ((exsB (l.take k)).map mB))],36⟩)
    (fun k=>k ≤ l.length) (fun k=>l.length - k) 0 (by omega) (fun w0 oa a w hs=>Wk.sr (ρ:=nm []) (Wk.of ?_) (nil_sr 3 100 5 1 rfl (by simp) rfl (by decide) hs)) ?_
  · simp (disch:=omega) only [go_sem,Int.reduceEq,↓reduceIte,reduceCtorEq,Nat.reduceEqDiff,Nat.reduceLT,Nat.reduceLeDiff,Nat.reduceAdd,Nat.reduceSub,Nat.reduceMul,Int.reduceToNat,Int.reduceLE,Int.reduceLT,R2,Sp_overdubref01_Put,Sp_overdubref14_join]
    first|done|exact ⟨rfl,rfl⟩|exact ⟨rfl,rfl,rfl⟩|rfl
  · intro k hk
    by_cases hk1 : k < l.length
    · have e1:=hn (l.getD k x0) (by rw [List.getD_eq_getElem?_getD,List.getElem?_eq_getElem hk1];exact List.getElem_mem hk1)
      have e2:=nth_E l k hk1
      have e4 : exsB (l.take (k + 1)) = exsB (l.take k) ++ exB (l.getD k x0):=by rw [take_snoc l k hk1,exsB_snoc]
      have e5:=exsB_length (l.take k)
      have e6 : (l.take k).length = k:=by rw [List.length_take];omega
      have e7:=exP_eq (l.getD k x0)
      generalize l.getD k x0 = e at *
      obtain ⟨f0,f1,f2,f3,f4⟩:=e
      unfold numE at e1
      simp only at e1 e7
      repeat' first
 | refine AW.seq ?_
 | refine AW.block ?_
 | refine AW.regl R2_ok [0,2,3,4,5,7,8,9] ?_
 | (refine AW.regc (id:=6) R2_ok follows bb_overdubref14_Extents_6 (by kernel_rfl) [0,2,3,4,5,7,8,9] ?_)
 | refine then_n ?_
 | refine then_r ?_
 | refine then_x ?_
 | refine block_x ?_
 | refine block_o (by decide) ?_
 | refine block_n ?_
 | refine block_r ?_
 | refine AW.skip ?_
 | refine AW.ret ?_
 | refine AW.exit ?_
 | refine AW.cond rfl ?_ ?_
 | refine awl_none rfl ?_
 | refine awl_nil2 ?_
 | refine awc_none rfl ?_
 | exact each_nil
 | refine each_none rfl ?_ ?_
 | refine awc_leaf2 [some 15,some 16,some 17,some 18,some 19,some 20,some 21,some 22,some 23,some 24,some 25,some 26,some 27,some 28,some 29,some 30,some 31,some 32,some 33,some 3] cc_overdubref14_Extents_6 rfl (by kernel_rfl) (by kernel_rfl) ?_ ?_
 | (refine fun (hc : _ = _)=>?_;first|cases hc|((try rw [hc]);(try simp only [stH] at hc);(try (exfalso;omega)));(try ((first|show Awl _ _ _ _ _|show Awc _ _ _ _ _ _);simp only [stU])))
 | ((first|refine fun (K : V → List _ → _) hK=>?_|refine fun (_ : V → V)=>?_|refine fun (bb : Nat → Bool) K hK=>?_);simp (disch:=omega) only [go_sem,Int.reduceEq,↓reduceIte,reduceCtorEq,Nat.reduceEqDiff,Nat.reduceLT,Nat.reduceLeDiff,Nat.reduceAdd,Nat.reduceSub,Nat.reduceMul,Int.reduceToNat,Int.reduceLE,Int.reduceLT,R2,Sp_overdubref01_Put,Sp_overdubref14_join,e2,eD,mI_eq,all_E,wd_1,wd_2,putB_take,Y5,putB_len,exP_fold,exP_len,exP_take,List.flatten_cons,List.flatten_nil,Sg3,St.updIf,ifc_nil,gt_ifc,go_ifc,ite_self,Option.none_or,Option.some_or];(try (revert hK;intro hK;(repeat' first|(refine And.intro ?_ ?_)|(intro hc;first|cases hc|((try rw [hc]);(try simp only [stH] at hc);(try (exfalso;omega)))));all_goals first|(refine hK _ _ ?_;clear hK K;simp only [stU])|exact hK|omega)))
      refine ⟨k + 1,by omega,by omega,nm [(100,33)],Wk.of ?_⟩
      have e8 : (exsB (l.take k)).length + 7 = (exsB (l.take (k + 1))).length:=by rw [e4,List.length_append,exB_length]
      simp (disch:=omega) only [go_sem,Int.reduceEq,↓reduceIte,reduceCtorEq,Nat.reduceEqDiff,Nat.reduceLT,Nat.reduceLeDiff,Nat.reduceAdd,Nat.reduceSub,Nat.reduceMul,Int.reduceToNat,Int.reduceLE,Int.reduceLT,R2,Sp_overdubref01_Put,Sp_overdubref14_join,e8]
      exact ⟨rfl,by rw [e4,List.map_append,e7]⟩
    · obtain rfl : k = l.length:=by omega
      repeat' first
 | refine AW.seq ?_
 | refine AW.block ?_
 | refine AW.regl R2_ok [0,2,3,4,5,7,8,9] ?_
 | (refine AW.regc (id:=6) R2_ok follows bb_overdubref14_Extents_6 (by kernel_rfl) [0,2,3,4,5,7,8,9] ?_)
 | refine then_n ?_
 | refine then_r ?_
 | refine then_x ?_
 | refine block_x ?_
 | refine block_o (by decide) ?_
 | refine block_n ?_
 | refine block_r ?_
 | refine AW.skip ?_
 | refine AW.ret ?_
 | refine AW.exit ?_
 | refine AW.cond rfl ?_ ?_
 | refine awl_none rfl ?_
 | refine awl_nil2 ?_
 | refine awc_none rfl ?_
 | exact each_nil
 | refine each_none rfl ?_ ?_
 | refine awc_leaf2 [some 15,some 16,some 17,some 18,some 19,some 20,some 21,some 22,some 23,some 24,some 25,some 26,some 27,some 28,some 29,some 30,some 31,some 32,some 33,some 3] cc_overdubref14_Extents_6 rfl (by kernel_rfl) (by kernel_rfl) ?_ ?_
 | (refine fun (hc : _ = _)=>?_;first|cases hc|((try rw [hc]);(try simp only [stH] at hc);(try (exfalso;omega)));(try ((first|show Awl _ _ _ _ _|show Awc _ _ _ _ _ _);simp only [stU])))
 | ((first|refine fun (K : V → List _ → _) hK=>?_|refine fun (_ : V → V)=>?_|refine fun (bb : Nat → Bool) K hK=>?_);simp (disch:=omega) only [go_sem,Int.reduceEq,↓reduceIte,reduceCtorEq,Nat.reduceEqDiff,Nat.reduceLT,Nat.reduceLeDiff,Nat.reduceAdd,Nat.reduceSub,Nat.reduceMul,Int.reduceToNat,Int.reduceLE,Int.reduceLT,R2,Sp_overdubref01_Put,Sp_overdubref14_join,Sg3,St.updIf,ifc_nil,gt_ifc,go_ifc,ite_self,Option.none_or,Option.some_or];(try (revert hK;intro hK;(repeat' first|(refine And.intro ?_ ?_)|(intro hc;first|cases hc|((try rw [hc]);(try simp only [stH] at hc);(try (exfalso;omega)))));all_goals first|(refine hK _ _ ?_;clear hK K;simp only [stU])|exact hK|omega)))
      (refine Ends.of (nm [(0,100)]) (by first|exact .inl rfl|exact .inr rfl) ?_;simp (disch:=omega) only [go_sem,Int.reduceEq,↓reduceIte,reduceCtorEq,Nat.reduceEqDiff,Nat.reduceLT,Nat.reduceLeDiff,Nat.reduceAdd,Nat.reduceSub,Nat.reduceMul,Int.reduceToNat,Int.reduceLE,Int.reduceLT,R2,Sp_overdubref01_Put,Sp_overdubref14_join,List.take_length])
theorem ent_overdubref14_Extents : Ent Try.prog 55:=⟨_,Try.func55,rfl,by decide⟩
noncomputable def R3 : Env:=⟨Try.prog,fun f ds out=>(f = 78 ∧ Sp_overdubref01_Take ds out),Es,fun _=>false⟩
theorem R3_sp : ∀ f ds out,R3.Sp f ds out → Ent R3.P f ∧ Good R3.P f (fun a b=>a = ds ∧ b = out):=by
  rintro f ds out ⟨rfl,h⟩
  exact ⟨ent_overdubref01_Take,good_overdubref01_Take.one h⟩
theorem R3_ok : R3.Ok:=⟨R3_sp,Es_ok⟩
theorem takeE_snoc : ∀ (k : Nat) (l : List Int),takeE l (k + 1) = takeE l k ++ [⟨leV ((l.drop (7 * k)).take 2),leV (((l.drop (7 * k)).drop 2).take 2),leV (((l.drop (7 * k)).drop 4).take 1),leV (((l.drop (7 * k)).drop 5).take 1),leV (((l.drop (7 * k)).drop 6).take 1)⟩]
  | 0,l=>by simp [takeE]
  | k + 1,l=>by
    rw [takeE,takeE_snoc k (l.drop 7),takeE]
    simp only [List.drop_drop,List.cons_append]
    rw [show 7 + 7 * k = 7 * (k + 1) by omega]
def Sp_overdubref14_TakeExtents (ds : List D) (out : Out) : Prop:=∃ (l : List Int) (n : Int),ds = [.list (l.map mB),.v (.int .i64 n)] ∧ Byt l ∧ l.length ≤ 1000000 ∧ out = texOut l n
def bb_overdubref14_TakeExtents_8 : List Nat:=[0,0,2,6,0,16,48,0,128,384,0,1024,3072,0,8192,24576,65534,131070,262143,524287]
def cc_overdubref14_TakeExtents_8 : List (List (Option Bool)):=[[some false,none,none,none,none,none,none,none,none,none,none,none,none,none,none,none,none,none,some false,some false],[none,some false,some false,some false,none,none,none,none,none,none,none,none,none,none,none,none,some false,some false,some false,some false],[none,some true,some false,some false,none,none,none,none,none,none,none,none,none,none,none,none,some false,some false,some false,some false],[none,some true,some true,some false,none,none,none,none,none,none,none,none,none,none,none,none,some false,some false,some false,some false],[none,none,none,none,some false,some false,some false,none,none,none,none,none,none,none,none,none,some false,some false,some false,some false],[none,none,none,none,some true,some false,some false,none,none,none,none,none,none,none,none,none,some false,some false,some false,some false],[none,none,none,none,some true,some true,some false,none,none,none,none,none,none,none,none,none,some false,some false,some false,some false],[none,none,none,none,none,none,none,some false,some false,some false,none,none,none,none,none,none,some false,some false,some false,some false],[none,none,none,none,none,none,none,some true,some false,some false,none,none,none,none,none,none,some false,some false,some false,some false],[none,none,none,none,none,none,none,some true,some true,some false,none,none,none,none,none,none,some false,some false,some false,some false],[none,none,none,none,none,none,none,none,none,none,some false,some false,some false,none,none,none,some false,some false,some false,some false],[none,none,none,none,none,none,none,none,none,none,some true,some false,some false,none,none,none,some false,some false,some false,some false],[none,none,none,none,none,none,none,none,none,none,some true,some true,some false,none,none,none,some false,some false,some false,some false],[none,none,none,none,none,none,none,none,none,none,none,none,none,some false,some false,some false,some false,some false,some false,some false],[none,none,none,none,none,none,none,none,none,none,none,none,none,some true,some false,some false,some false,some false,some false,some false],[none,none,none,none,none,none,none,none,none,none,none,none,none,some true,some true,some false,some false,some false,some false,some false],[none,some true,some true,some true,some true,some true,some true,some true,some true,some true,some true,some true,some true,some true,some true,some true,some false,some false,some false,some false],[none,some true,some true,some true,some true,some true,some true,some true,some true,some true,some true,some true,some true,some true,some true,some true,some true,some false,some false,some false],[some true,some true,some true,some true,some true,some true,some true,some true,some true,some true,some true,some true,some true,some true,some true,some true,some true,some true,some false,some false],[some true,some true,some true,some true,some true,some true,some true,some true,some true,some true,some true,some true,some true,some true,some true,some true,some true,some true,some true,some false]]
theorem good_overdubref14_TakeExtents : Good Try.prog 77 Sp_overdubref14_TakeExtents:=by
  refine good_body (E:=R3) (nt:=57) (rs:=#[.tmp 4,.tmp 5]) Try.func77 rfl rfl rfl ?_
  rintro ds out ⟨l,n,rfl,hb,hl,rfl⟩
  refine ⟨by simp,?_⟩
  by_cases hc : n < 0 ∨ (l.length : Int) % 7 ≠ 0 ∨ (l.length : Int) / 7 ≠ n
  · rw [texOut,if_pos hc]
    repeat' first
 | refine AW.seq ?_
 | refine AW.block ?_
 | refine AW.regl R3_ok [0,1,4,5,6,7,8,22,25] ?_
 | (refine AW.regc (id:=8) R3_ok follows bb_overdubref14_TakeExtents_8 (by kernel_rfl) [0,1,4,5,6,7,8,22,25] ?_)
 | refine then_n ?_
 | refine then_r ?_
 | refine then_x ?_
 | refine block_x ?_
 | refine block_o (by decide) ?_
 | refine block_n ?_
 | refine block_r ?_
 | refine AW.skip ?_
 | refine AW.ret ?_
 | refine AW.exit ?_
 | refine AW.cond rfl ?_ ?_
 | refine awl_none rfl ?_
 | refine awl_nil2 ?_
 | refine awl_some rfl rfl (Nat.le_of_ble_eq_true rfl) rfl rfl ?_ ?_
 | refine awc_none rfl ?_
 | exact each_nil
 | refine each_none rfl ?_ ?_
 | refine awc_leaf2 [some 37,some 38,some 39,some 40,some 41,some 42,some 43,some 44,some 45,some 46,some 47,some 48,some 49,some 50,some 51,some 52,some 53,some 54,some 55,some 6] cc_overdubref14_TakeExtents_8 rfl (by kernel_rfl) (by kernel_rfl) ?_ ?_
 | (refine fun (hc : _ = _)=>?_;first|cases hc|((try rw [hc]);(try simp only [stH] at hc);(try (exfalso;omega)));(try ((first|show Awl _ _ _ _ _|show Awc _ _ _ _ _ _);simp only [stU])))
 | ((first|refine fun (K : V → List _ → _) hK=>?_|refine fun (_ : V → V)=>?_|refine fun (bb : Nat → Bool) K hK=>?_);simp (disch:=omega) only [go_sem,Int.reduceEq,↓reduceIte,reduceCtorEq,Nat.reduceEqDiff,Nat.reduceLT,Nat.reduceLeDiff,Nat.reduceAdd,Nat.reduceSub,Nat.reduceMul,Int.reduceToNat,Int.reduceLE,Int.reduceLT,R3,Sp_overdubref01_Take,Sg3,St.updIf,ifc_nil,gt_ifc,go_ifc,ite_self,Option.none_or,Option.some_or];(try (revert hK;intro hK;(repeat' first|(refine And.intro ?_ ?_)|(intro hc;first|cases hc|((try rw [hc]);(try simp only [stH] at hc);(try (exfalso;omega)))));all_goals first|(refine hK _ _ ?_;clear hK K;simp only [stU])|exact hK|omega)))
    all_goals (refine Ends.of (nm []) (by first|exact .inl rfl|exact .inr rfl) ?_;simp (disch:=omega) only [go_sem,Int.reduceEq,↓reduceIte,reduceCtorEq,Nat.reduceEqDiff,Nat.reduceLT,Nat.reduceLeDiff,Nat.reduceAdd,Nat.reduceSub,Nat.reduceMul,Int.reduceToNat,Int.reduceLE,Int.reduceLT,R3,Sp_overdubref01_Take])
  · rw [texOut,if_neg hc]
    obtain ⟨q,rfl⟩ : ∃ q : Nat,n = q:=⟨n.toNat,by omega⟩
    rw [Int.toNat_natCast]
    repeat' first
 | refine AW.seq ?_
 | refine AW.block ?_
 | refine AW.regl R3_ok [0,1,4,5,6,7,8,22,25] ?_
 | (refine AW.regc (id:=8) R3_ok follows bb_overdubref14_TakeExtents_8 (by kernel_rfl) [0,1,4,5,6,7,8,22,25] ?_)
 | refine then_n ?_
 | refine then_r ?_
 | refine then_x ?_
 | refine block_x ?_
 | refine block_o (by decide) ?_
 | refine block_n ?_
 | refine block_r ?_
 | refine AW.skip ?_
 | refine AW.ret ?_
 | refine AW.exit ?_
 | refine AW.cond rfl ?_ ?_
 | refine awl_none rfl ?_
 | refine awl_nil2 ?_
 | refine awl_some rfl rfl (Nat.le_of_ble_eq_true rfl) rfl rfl ?_ ?_
 | refine awc_none rfl ?_
 | exact each_nil
 | refine each_none rfl ?_ ?_
 | refine awc_leaf2 [some 37,some 38,some 39,some 40,some 41,some 42,some 43,some 44,some 45,some 46,some 47,some 48,some 49,some 50,some 51,some 52,some 53,some 54,some 55,some 6] cc_overdubref14_TakeExtents_8 rfl (by kernel_rfl) (by kernel_rfl) ?_ ?_
 | (refine fun (hc : _ = _)=>?_;first|cases hc|((try rw [hc]);(try simp only [stH] at hc);(try (exfalso;omega)));(try ((first|show Awl _ _ _ _ _|show Awc _ _ _ _ _ _);simp only [stU])))
 | ((first|refine fun (K : V → List _ → _) hK=>?_|refine fun (_ : V → V)=>?_|refine fun (bb : Nat → Bool) K hK=>?_);simp (disch:=omega) only [go_sem,Int.reduceEq,↓reduceIte,reduceCtorEq,Nat.reduceEqDiff,Nat.reduceLT,Nat.reduceLeDiff,Nat.reduceAdd,Nat.reduceSub,Nat.reduceMul,Int.reduceToNat,Int.reduceLE,Int.reduceLT,R3,Sp_overdubref01_Take,Sg3,St.updIf,ifc_nil,gt_ifc,go_ifc,ite_self,Option.none_or,Option.some_or];(try (revert hK;intro hK;(repeat' first|(refine And.intro ?_ ?_)|(intro hc;first|cases hc|((try rw [hc]);(try simp only [stH] at hc);(try (exfalso;omega)))));all_goals first|(refine hK _ _ ?_;clear hK K;simp only [stU])|exact hK|omega)))
    refine AW.loop_wk (fun k : Nat=>⟨[(0,.d (.list (l.map mB))),(1,.d (.v (.int .i64 q))),(6,.sl 100 5 0 (takeE l k).length true),(7,.d (.v (.int .i64 k)))],[(100,.row 42 5 ((takeE l k).map eD))],57⟩)
      (fun k=>k ≤ q) (fun k=>q - k) 0 (by omega) (fun w0 oa a w hs=>Wk.sr (ρ:=nm []) (Wk.of ?_) (nil_sr 6 100 42 5 rfl (by simp) rfl (by decide) hs)) ?_
    · simp (disch:=omega) only [go_sem,Int.reduceEq,↓reduceIte,reduceCtorEq,Nat.reduceEqDiff,Nat.reduceLT,Nat.reduceLeDiff,Nat.reduceAdd,Nat.reduceSub,Nat.reduceMul,Int.reduceToNat,Int.reduceLE,Int.reduceLT,R3,Sp_overdubref01_Take]
      first|done|exact ⟨rfl,rfl⟩|rfl
    · intro k hk
      have hlk:=takeE_length k l
      by_cases hk1 : k < q
      · have hml : 7 ≤ (l.drop (7 * k)).length:=by rw [List.length_drop];omega
        have hmb:=byt_drop hb (7 * k)
        have hts:=takeE_snoc k l
        have h7 : (7 * (k : Int)).toNat = 7 * k:=by omega
        have hld : l.length - 7 * k = (l.drop (7 * k)).length:=(List.length_drop ..).symm
        generalize hm : l.drop (7 * k) = m at *
        have hmd : (l.map mB).drop (7 * k) = m.map mB:=by rw [← hm,List.map_drop]
        have hlb : (l.map mB).take l.length = l.map mB:=List.take_of_length_le (by simp)
        have hg : takeOut m [2,2,1,1,1] = ⟨.tup [.sl 0 1 0 5 true,.d (.v (.bool true))],[(0,.row 3 1 [.v (.int .i64 (leV (m.take 2))),.v (.int .i64 (leV ((m.drop 2).take 2))),.v (.int .i64 (leV ((m.drop 4).take 1))),.v (.int .i64 (leV ((m.drop 5).take 1))),.v (.int .i64 (leV ((m.drop 6).take 1)))])]⟩:=by
          rw [takeOut,takeL_five (by omega)];rfl
        have hmt : Byt m = True:=by simp only [eq_iff_iff,iff_true];exact hmb
        have hml2 : m.length ≤ l.length:=by rw [← hm,List.length_drop];omega
        repeat' first
 | refine AW.seq ?_
 | refine AW.block ?_
 | refine AW.regl R3_ok [0,1,4,5,6,7,8,22,25] ?_
 | (refine AW.regc (id:=8) R3_ok follows bb_overdubref14_TakeExtents_8 (by kernel_rfl) [0,1,4,5,6,7,8,22,25] ?_)
 | refine then_n ?_
 | refine then_r ?_
 | refine then_x ?_
 | refine block_x ?_
 | refine block_o (by decide) ?_
 | refine block_n ?_
 | refine block_r ?_
 | refine AW.skip ?_
 | refine AW.ret ?_
 | refine AW.exit ?_
 | refine AW.cond rfl ?_ ?_
 | refine awl_none rfl ?_
 | refine awl_nil2 ?_
 | refine awl_some rfl rfl (Nat.le_of_ble_eq_true rfl) rfl rfl ?_ ?_
 | refine awc_none rfl ?_
 | exact each_nil
 | refine each_none rfl ?_ ?_
 | refine awc_leaf2 [some 37,some 38,some 39,some 40,some 41,some 42,some 43,some 44,some 45,some 46,some 47,some 48,some 49,some 50,some 51,some 52,some 53,some 54,some 55,some 6] cc_overdubref14_TakeExtents_8 rfl (by kernel_rfl) (by kernel_rfl) ?_ ?_
 | (refine fun (hc : _ = _)=>?_;first|cases hc|((try rw [hc]);(try simp only [stH] at hc);(try (exfalso;omega)));(try ((first|show Awl _ _ _ _ _|show Awc _ _ _ _ _ _);simp only [stU])))
 | ((first|refine fun (K : V → List _ → _) hK=>?_|refine fun (_ : V → V)=>?_|refine fun (bb : Nat → Bool) K hK=>?_);simp (disch:=omega) only [go_sem,Int.reduceEq,↓reduceIte,reduceCtorEq,Nat.reduceEqDiff,Nat.reduceLT,Nat.reduceLeDiff,Nat.reduceAdd,Nat.reduceSub,Nat.reduceMul,Int.reduceToNat,Int.reduceLE,Int.reduceLT,R3,Sp_overdubref01_Take,h7,hmd,hlb,hg,hmt,W5,nth,List.getD_cons_zero,List.getD_cons_succ,snocE,take_mB,List.take_length,all_B,Sg3,St.updIf,ifc_nil,gt_ifc,go_ifc,ite_self,Option.none_or,Option.some_or];(try (revert hK;intro hK;(repeat' first|(refine And.intro ?_ ?_)|(intro hc;first|cases hc|((try rw [hc]);(try simp only [stH] at hc);(try (exfalso;omega)))));all_goals first|(refine hK _ _ ?_;clear hK K;simp only [stU])|exact hK|omega)))
        refine ⟨k + 1,by omega,by omega,nm [(100,55)],Wk.of ?_⟩
        simp (disch:=omega) only [go_sem,Int.reduceEq,↓reduceIte,reduceCtorEq,Nat.reduceEqDiff,Nat.reduceLT,Nat.reduceLeDiff,Nat.reduceAdd,Nat.reduceSub,Nat.reduceMul,Int.reduceToNat,Int.reduceLE,Int.reduceLT,R3,Sp_overdubref01_Take,hts]
        rfl
      · obtain rfl : k = q:=by omega
        repeat' first
 | refine AW.seq ?_
 | refine AW.block ?_
 | refine AW.regl R3_ok [0,1,4,5,6,7,8,22,25] ?_
 | (refine AW.regc (id:=8) R3_ok follows bb_overdubref14_TakeExtents_8 (by kernel_rfl) [0,1,4,5,6,7,8,22,25] ?_)
 | refine then_n ?_
 | refine then_r ?_
 | refine then_x ?_
 | refine block_x ?_
 | refine block_o (by decide) ?_
 | refine block_n ?_
 | refine block_r ?_
 | refine AW.skip ?_
 | refine AW.ret ?_
 | refine AW.exit ?_
 | refine AW.cond rfl ?_ ?_
 | refine awl_none rfl ?_
 | refine awl_nil2 ?_
 | refine awl_some rfl rfl (Nat.le_of_ble_eq_true rfl) rfl rfl ?_ ?_
 | refine awc_none rfl ?_
 | exact each_nil
 | refine each_none rfl ?_ ?_
 | refine awc_leaf2 [some 37,some 38,some 39,some 40,some 41,some 42,some 43,some 44,some 45,some 46,some 47,some 48,some 49,some 50,some 51,some 52,some 53,some 54,some 55,some 6] cc_overdubref14_TakeExtents_8 rfl (by kernel_rfl) (by kernel_rfl) ?_ ?_
 | (refine fun (hc : _ = _)=>?_;first|cases hc|((try rw [hc]);(try simp only [stH] at hc);(try (exfalso;omega)));(try ((first|show Awl _ _ _ _ _|show Awc _ _ _ _ _ _);simp only [stU])))
 | ((first|refine fun (K : V → List _ → _) hK=>?_|refine fun (_ : V → V)=>?_|refine fun (bb : Nat → Bool) K hK=>?_);simp (disch:=omega) only [go_sem,Int.reduceEq,↓reduceIte,reduceCtorEq,Nat.reduceEqDiff,Nat.reduceLT,Nat.reduceLeDiff,Nat.reduceAdd,Nat.reduceSub,Nat.reduceMul,Int.reduceToNat,Int.reduceLE,Int.reduceLT,R3,Sp_overdubref01_Take,Sg3,St.updIf,ifc_nil,gt_ifc,go_ifc,ite_self,Option.none_or,Option.some_or];(try (revert hK;intro hK;(repeat' first|(refine And.intro ?_ ?_)|(intro hc;first|cases hc|((try rw [hc]);(try simp only [stH] at hc);(try (exfalso;omega)))));all_goals first|(refine hK _ _ ?_;clear hK K;simp only [stU])|exact hK|omega)))
        all_goals (refine Ends.of (nm [(0,100)]) (by first|exact .inl rfl|exact .inr rfl) ?_;simp (disch:=omega) only [go_sem,Int.reduceEq,↓reduceIte,reduceCtorEq,Nat.reduceEqDiff,Nat.reduceLT,Nat.reduceLeDiff,Nat.reduceAdd,Nat.reduceSub,Nat.reduceMul,Int.reduceToNat,Int.reduceLE,Int.reduceLT,R3,Sp_overdubref01_Take])
theorem ent_overdubref14_TakeExtents : Ent Try.prog 77:=⟨_,Try.func77,rfl,by decide⟩
end Go.Proofs.Ytigkcigoiinkpaa.Am
end
