import Derived.Test.YtleahjfgedfgmaaZFA
section
set_option linter.unusedVariables false
set_option linter.unusedSimpArgs false
set_option maxRecDepth 10000
set_option maxHeartbeats 0
namespace Go.Proofs.Ytleahjfgedfgmaa.Am
open Go Go.RowKit Go.Proofs
noncomputable def E1 : Env:=⟨Try.prog,fun f ds out=>(f = 14 ∧ Sp_overdubkeep_Within ds out) ∨ (f = 57 ∧ Sp_piece_One ds out),Es,fun _=>false,fun f vs lent out=>False,fun f=>none,fun f=>false,false,fun f=>none⟩
theorem E1_sp : ∀ f ds out,E1.Sp f ds out → Ent E1.P f ∧ Good E1.P f (fun a b=>a = ds ∧ b = out):=by
  rintro f ds out (⟨rfl,h⟩|⟨rfl,h⟩)
  · exact ⟨ent_overdubkeep_Within,good_overdubkeep_Within.one h⟩
  · exact ⟨ent_piece_One,good_piece_One.one h⟩
theorem E1_sm : ∀ f vs lent out,E1.Sm f vs lent out → Ent E1.P f ∧ GoodM E1.P f (fun a l b=>a = vs ∧ l = lent ∧ b = out):=fun _ _ _ _ h=>h.elim
theorem E1_at : ∀ f k,E1.At f = some k → AtomOk E1.P f k:=fun _ _ h=>nomatch h
theorem E1_ok : E1.Ok:=⟨E1_sp,Es_ok,E1_sm,E1_at⟩
theorem vRow_drop (l : List Xt) (k : Nat) (n : Int) (h : k < l.length) : vRow n (l.drop k) = (oneE (l.getD k x0) && (decide ((l.getD k x0).f0 = n) && (decide ((l.getD k x0).f4 ≤ 1000 - n) && vRow (n + (l.getD k x0).f4) (l.drop (k + 1))))):=by
  rw [List.drop_eq_getElem_cons h]
  simp [vRow,List.getD_eq_getElem?_getD,h]
def Sp_piece_Valid (ds : List D) (out : Out) : Prop:=∃ l : List Xt,ds = [.list (l.map eD)] ∧ l.length < 9223372036854775807 ∧ (∀ e ∈ l,numE e) ∧ out = ⟨.d (.v (.bool (vRow 0 l))),[]⟩
theorem good_piece_Valid : Good Try.prog 53 Sp_piece_Valid:=by
  refine good_body (E:=E1) (nt:=33) (rs:=#[.tmp 2]) Try.func53 rfl rfl rfl ?_
  rintro ds out ⟨l,rfl,hl,hn,rfl⟩
  refine ⟨by simp,?_⟩
  repeat' first
 | refine AW.seq ?_
 | refine AW.block ?_
 | refine AW.regl E1_ok [0,2,3,5,6,7,8,9,27] ?_
 | refine then_n ?_
 | refine then_r ?_
 | refine then_x ?_
 | refine block_x ?_
 | refine block_o (by decide) ?_
 | refine block_n ?_
 | refine block_r ?_
 | refine AW.skip ?_
 | refine AW.ret ?_
 | refine AW.exit ?_
 | refine AW.cond rfl ?_ ?_
 | refine awl_none rfl ?_
 | refine awl_nil2 ?_
 | refine awl_some rfl rfl (Nat.le_of_ble_eq_true rfl) rfl rfl ?_ ?_
 | (refine fun (hc : _ = _)=>?_;first|cases hc|((try rw [hc]);(try simp only [stH] at hc);(try (exfalso;omega)));(try (show Awl _ _ _ _ _;simp only [stU])))
 | ((first|refine fun (K : V → List _ → _) hK=>?_|refine fun (_ : V → V)=>?_);simp (maxSteps:=1000000) (disch:=omega) only [go_sem,Int.reduceEq,↓reduceIte,reduceCtorEq,Nat.reduceEqDiff,Nat.reduceLT,Nat.reduceLeDiff,Nat.reduceAdd,Nat.reduceSub,Nat.reduceMul,Int.reduceToNat,Int.reduceLE,Int.reduceLT,E1,Sp_piece_One];(try (revert hK;intro hK;(repeat' first|(refine And.intro ?_ ?_)|(intro hc;first|cases hc|((try rw [hc]);(try simp only [stH] at hc);(try (exfalso;omega)))));all_goals first|(refine hK _ _ ?_;clear hK K;simp only [stU])|exact hK|omega)))
  refine AW.loop_wk (fun p : Nat × Int=>⟨[(3,.d (.v (.int .i64 p.2))),(6,.d (.list (l.map eD))),(7,.d (.v (.int .i64 l.length))),(8,.d (.v (.int .i64 p.1)))],[],33⟩)
    (fun p=>p.1 ≤ l.length ∧ 0 ≤ p.2 ∧ p.2 ≤ 1000 ∧ vRow 0 l = vRow p.2 (l.drop p.1)) (fun p=>l.length - p.1) (0,0) ⟨by omega,by omega,by omega,by simp⟩ (fun w0 oa a w hs=>Wk.sr (ρ:=nm []) (Wk.of ?_) hs) ?_
  · simp (maxSteps:=1000000) (disch:=omega) only [go_sem,Int.reduceEq,↓reduceIte,reduceCtorEq,Nat.reduceEqDiff,Nat.reduceLT,Nat.reduceLeDiff,Nat.reduceAdd,Nat.reduceSub,Nat.reduceMul,Int.reduceToNat,Int.reduceLE,Int.reduceLT,E1,Sp_piece_One]
  · rintro ⟨k,n⟩ ⟨hk,hn0,hn1,hv⟩
    simp only at hk hn0 hn1 hv
    by_cases hk1 : k < l.length
    · have e1:=hn (l.getD k x0) (by rw [List.getD_eq_getElem?_getD,List.getElem?_eq_getElem hk1];exact List.getElem_mem hk1)
      rw [vRow_drop l k n hk1] at hv
      have e2:=nth_E l k hk1
      generalize l.getD k x0 = e at *
      obtain ⟨f0,f1,f2,f3,f4⟩:=e
      have e3 : ∀ d ∈ l.map eD,d.cells.length = 5:=fun d hd=>by obtain ⟨x,_,rfl⟩:=List.mem_map.1 hd;rfl
      unfold numE at e1
      simp only at e1 hv
      cases hb : oneE ⟨f0,f1,f2,f3,f4⟩
      · rw [hb,Bool.false_and] at hv
        repeat' first
 | refine AW.seq ?_
 | refine AW.block ?_
 | refine AW.regl E1_ok [0,2,3,5,6,7,8,9,27] ?_
 | refine then_n ?_
 | refine then_r ?_
 | refine then_x ?_
 | refine block_x ?_
 | refine block_o (by decide) ?_
 | refine block_n ?_
 | refine block_r ?_
 | refine AW.skip ?_
 | refine AW.ret ?_
 | refine AW.exit ?_
 | refine AW.cond rfl ?_ ?_
 | refine awl_none rfl ?_
 | refine awl_nil2 ?_
 | refine awl_some rfl rfl (Nat.le_of_ble_eq_true rfl) rfl rfl ?_ ?_
 | (refine fun (hc : _ = _)=>?_;first|cases hc|((try rw [hc]);(try simp only [stH] at hc);(try (exfalso;omega)));(try (show Awl _ _ _ _ _;simp only [stU])))
 | ((first|refine fun (K : V → List _ → _) hK=>?_|refine fun (_ : V → V)=>?_);simp (maxSteps:=1000000) (disch:=omega) only [go_sem,Int.reduceEq,↓reduceIte,reduceCtorEq,Nat.reduceEqDiff,Nat.reduceLT,Nat.reduceLeDiff,Nat.reduceAdd,Nat.reduceSub,Nat.reduceMul,Int.reduceToNat,Int.reduceLE,Int.reduceLT,E1,Sp_piece_One,e2,eD,mI_eq,numE,hb];(try (revert hK;intro hK;(repeat' first|(refine And.intro ?_ ?_)|(intro hc;first|cases hc|((try rw [hc]);(try simp only [stH] at hc);(try (exfalso;omega)))));all_goals first|(refine hK _ _ ?_;clear hK K;simp only [stU])|exact hK|omega)))
        (refine Ends.of (nm []) (by first|exact .inl rfl|exact .inr rfl) ?_;simp (maxSteps:=1000000) (disch:=omega) only [go_sem,Int.reduceEq,↓reduceIte,reduceCtorEq,Nat.reduceEqDiff,Nat.reduceLT,Nat.reduceLeDiff,Nat.reduceAdd,Nat.reduceSub,Nat.reduceMul,Int.reduceToNat,Int.reduceLE,Int.reduceLT,E1,Sp_piece_One,hv])
      · rw [hb,Bool.true_and] at hv
        have h4 : 1 ≤ f4:=by have h5:=hb;simp only [oneE,decide_eq_true_eq] at h5;omega
        repeat' first
 | refine AW.seq ?_
 | refine AW.block ?_
 | refine AW.regl E1_ok [0,2,3,5,6,7,8,9,27] ?_
 | refine then_n ?_
 | refine then_r ?_
 | refine then_x ?_
 | refine block_x ?_
 | refine block_o (by decide) ?_
 | refine block_n ?_
 | refine block_r ?_
 | refine AW.skip ?_
 | refine AW.ret ?_
 | refine AW.exit ?_
 | refine AW.cond rfl ?_ ?_
 | refine awl_none rfl ?_
 | refine awl_nil2 ?_
 | refine awl_some rfl rfl (Nat.le_of_ble_eq_true rfl) rfl rfl ?_ ?_
 | (refine fun (hc : _ = _)=>?_;first|cases hc|((try rw [hc]);(try simp only [stH] at hc);(try (exfalso;omega)));(try (show Awl _ _ _ _ _;simp only [stU])))
 | ((first|refine fun (K : V → List _ → _) hK=>?_|refine fun (_ : V → V)=>?_);simp (maxSteps:=1000000) (disch:=omega) only [go_sem,Int.reduceEq,↓reduceIte,reduceCtorEq,Nat.reduceEqDiff,Nat.reduceLT,Nat.reduceLeDiff,Nat.reduceAdd,Nat.reduceSub,Nat.reduceMul,Int.reduceToNat,Int.reduceLE,Int.reduceLT,E1,Sp_piece_One,e2,eD,mI_eq,numE,hb];(try (revert hK;intro hK;(repeat' first|(refine And.intro ?_ ?_)|(intro hc;first|cases hc|((try rw [hc]);(try simp only [stH] at hc);(try (exfalso;omega)))));all_goals first|(refine hK _ _ ?_;clear hK K;simp only [stU])|exact hK|omega)))
        all_goals first
          | ((refine Ends.of (nm []) (by first|exact .inl rfl|exact .inr rfl) ?_;simp (maxSteps:=1000000) (disch:=omega) only [go_sem,Int.reduceEq,↓reduceIte,reduceCtorEq,Nat.reduceEqDiff,Nat.reduceLT,Nat.reduceLeDiff,Nat.reduceAdd,Nat.reduceSub,Nat.reduceMul,Int.reduceToNat,Int.reduceLE,Int.reduceLT,E1,Sp_piece_One,hv])
             refine vb_eq ?_
             simp only [Bool.and_eq_true,decide_eq_true_eq,Bool.false_eq_true,false_iff]
             omega)
          | (refine ⟨(k + 1,n + f4),by omega,by omega,by omega,?_,by omega,nm [],Wk.of ?_⟩
             · rw [hv,decide_eq_true (show f0 = n by omega),decide_eq_true (show f4 ≤ 1000 - n by omega),Bool.true_and,Bool.true_and]
             · simp (maxSteps:=1000000) (disch:=omega) only [go_sem,Int.reduceEq,↓reduceIte,reduceCtorEq,Nat.reduceEqDiff,Nat.reduceLT,Nat.reduceLeDiff,Nat.reduceAdd,Nat.reduceSub,Nat.reduceMul,Int.reduceToNat,Int.reduceLE,Int.reduceLT,E1,Sp_piece_One]
               try rfl)
    · obtain rfl : k = l.length:=by omega
      simp only [List.drop_length,vRow] at hv
      repeat' first
 | refine AW.seq ?_
 | refine AW.block ?_
 | refine AW.regl E1_ok [0,2,3,5,6,7,8,9,27] ?_
 | refine then_n ?_
 | refine then_r ?_
 | refine then_x ?_
 | refine block_x ?_
 | refine block_o (by decide) ?_
 | refine block_n ?_
 | refine block_r ?_
 | refine AW.skip ?_
 | refine AW.ret ?_
 | refine AW.exit ?_
 | refine AW.cond rfl ?_ ?_
 | refine awl_none rfl ?_
 | refine awl_nil2 ?_
 | refine awl_some rfl rfl (Nat.le_of_ble_eq_true rfl) rfl rfl ?_ ?_
 | (refine fun (hc : _ = _)=>?_;first|cases hc|((try rw [hc]);(try simp only [stH] at hc);(try (exfalso;omega)));(try (show Awl _ _ _ _ _;simp only [stU])))
 | ((first|refine fun (K : V → List _ → _) hK=>?_|refine fun (_ : V → V)=>?_);simp (maxSteps:=1000000) (disch:=omega) only [go_sem,Int.reduceEq,↓reduceIte,reduceCtorEq,Nat.reduceEqDiff,Nat.reduceLT,Nat.reduceLeDiff,Nat.reduceAdd,Nat.reduceSub,Nat.reduceMul,Int.reduceToNat,Int.reduceLE,Int.reduceLT,E1,Sp_piece_One];(try (revert hK;intro hK;(repeat' first|(refine And.intro ?_ ?_)|(intro hc;first|cases hc|((try rw [hc]);(try simp only [stH] at hc);(try (exfalso;omega)))));all_goals first|(refine hK _ _ ?_;clear hK K;simp only [stU])|exact hK|omega)))
      (refine Ends.of (nm []) (by first|exact .inl rfl|exact .inr rfl) ?_;simp (maxSteps:=1000000) (disch:=omega) only [go_sem,Int.reduceEq,↓reduceIte,reduceCtorEq,Nat.reduceEqDiff,Nat.reduceLT,Nat.reduceLeDiff,Nat.reduceAdd,Nat.reduceSub,Nat.reduceMul,Int.reduceToNat,Int.reduceLE,Int.reduceLT,E1,Sp_piece_One,hv])
theorem ent_piece_Valid : Ent Try.prog 53:=⟨_,Try.func53,rfl,by decide⟩
end Go.Proofs.Ytleahjfgedfgmaa.Am
end
section
set_option linter.unusedVariables false
set_option linter.unusedSimpArgs false
set_option maxRecDepth 10000
set_option maxHeartbeats 0
namespace Go.Proofs.Ytleahjfgedfgmaa.Am
open Go Go.RowKit Go.Proofs
theorem vb_c {a b : Bool} (h : a = b) : V.d (D.v (.bool a)) = V.d (D.v (.bool b)):=by rw [h]
section
variable {k t a b : Int} {l : List Xt}
theorem noneR_eq : noneR a b l = decide (a = 0 ∧ b = 0 ∧ (l.length : Int) = 0):=by
  unfold noneR
  rw [Bool.eq_iff_iff]
  simp only [Bool.and_eq_true,decide_eq_true_eq]
  omega
theorem validR12 (h : k = 1 ∨ k = 2) : validR k t a b l = (noneR a b l && decide (0 ≤ t ∧ t ≤ 99)):=by unfold validR;rw [if_pos h]
theorem validR45 (h : k = 4 ∨ k = 5) : validR k t a b l = (noneR a b l && decide (t = 0)):=by unfold validR;rw [if_neg (by omega),if_pos h]
theorem validR3 (h : k = 3) : validR k t a b l = (decide (0 ≤ t ∧ t ≤ 99) && (decide (0 ≤ a ∧ a ≤ b ∧ b ≤ 1000) && vRow 0 l)):=by unfold validR;rw [if_neg (by omega),if_neg (by omega),if_pos h]
theorem validR0 (h : ¬ (k = 1 ∨ k = 2)) (h1 : ¬ (k = 4 ∨ k = 5)) (h2 : ¬ k = 3) : validR k t a b l = false:=by unfold validR;rw [if_neg h,if_neg h1,if_neg h2]
end
noncomputable def E2 : Env:=⟨Try.prog,fun f ds out=>(f = 14 ∧ Sp_overdubkeep_Within ds out) ∨ (f = 53 ∧ Sp_piece_Valid ds out),Es,fun _=>false,fun f vs lent out=>False,fun f=>none,fun f=>false,false,fun f=>none⟩
theorem E2_sp : ∀ f ds out,E2.Sp f ds out → Ent E2.P f ∧ Good E2.P f (fun a b=>a = ds ∧ b = out):=by
  rintro f ds out (⟨rfl,h⟩|⟨rfl,h⟩)
  · exact ⟨ent_overdubkeep_Within,good_overdubkeep_Within.one h⟩
  · exact ⟨ent_piece_Valid,good_piece_Valid.one h⟩
theorem E2_sm : ∀ f vs lent out,E2.Sm f vs lent out → Ent E2.P f ∧ GoodM E2.P f (fun a l b=>a = vs ∧ l = lent ∧ b = out):=fun _ _ _ _ h=>h.elim
theorem E2_at : ∀ f k,E2.At f = some k → AtomOk E2.P f k:=fun _ _ h=>nomatch h
theorem E2_ok : E2.Ok:=⟨E2_sp,Es_ok,E2_sm,E2_at⟩
end Go.Proofs.Ytleahjfgedfgmaa.Am
end
section
set_option linter.unusedVariables false
set_option linter.unusedSimpArgs false
set_option maxRecDepth 10000
set_option maxHeartbeats 0
namespace Go.Proofs.Ytleahjfgedfgmaa.Am
open Go Go.RowKit Go.Proofs
theorem wd_1 : wd 1 = 1:=rfl
theorem wd_2 : wd 2 = 2:=rfl
theorem putB_take (n : Int) (m : Nat) : ((putB n m).map mB).take m = (putB n m).map mB:=List.take_of_length_le (by simp [putB])
theorem map_list_eq (l : List (List Int)) : (l.map fun x=>D.list (x.map mB)) = l.map bys:=rfl
theorem Y5 (a b c d e : List Int) (l : List (List Int)) : ([D.list (a.map mB),D.list (b.map mB),D.list (c.map mB),D.list (d.map mB),D.list (e.map mB)] = l.map bys) = (l = [a,b,c,d,e]):=by
  rw [show [D.list (a.map mB),D.list (b.map mB),D.list (c.map mB),D.list (d.map mB),D.list (e.map mB)] = [a,b,c,d,e].map bys from rfl,Y_inj]
  exact propext eq_comm
theorem Y6 (a b c d e f : List Int) (l : List (List Int)) : ([D.list (a.map mB),D.list (b.map mB),D.list (c.map mB),D.list (d.map mB),D.list (e.map mB),D.list (f.map mB)] = l.map bys) = (l = [a,b,c,d,e,f]):=by
  rw [show [D.list (a.map mB),D.list (b.map mB),D.list (c.map mB),D.list (d.map mB),D.list (e.map mB),D.list (f.map mB)] = [a,b,c,d,e,f].map bys from rfl,Y_inj]
  exact propext eq_comm
def exP (f0 f1 f2 f3 f4 : Int) : List Int:=putB (max 0 f0) 2 ++ (putB (max 0 f1) 2 ++ (putB (max 0 f2) 1 ++ (putB (max 0 f3) 1 ++ putB (max 0 f4) 1)))
theorem exP_eq (e : Xt) : exP e.f0 e.f1 e.f2 e.f3 e.f4 = exB e:=by simp only [exP,exB,putB_leB]
theorem exP_fold (f0 f1 f2 f3 f4 : Int) : putB (max 0 f0) 2 ++ (putB (max 0 f1) 2 ++ (putB (max 0 f2) 1 ++ (putB (max 0 f3) 1 ++ putB (max 0 f4) 1))) = exP f0 f1 f2 f3 f4:=rfl
theorem exP_len (f0 f1 f2 f3 f4 : Int) : (exP f0 f1 f2 f3 f4).length = 7:=by simp [exP,putB_len]
theorem exP_take (f0 f1 f2 f3 f4 : Int) : ((exP f0 f1 f2 f3 f4).map mB).take 7 = (exP f0 f1 f2 f3 f4).map mB:=List.take_of_length_le (by simp [exP_len])
theorem exsB_snoc (l : List Xt) (e : Xt) : exsB (l ++ [e]) = exsB l ++ exB e:=by simp [exsB]
theorem take_snoc (l : List Xt) (k : Nat) (h : k < l.length) : l.take (k + 1) = l.take k ++ [l.getD k x0]:=by
  rw [List.take_succ_eq_append_getElem h];simp [List.getD_eq_getElem?_getD,h]
noncomputable def E3 : Env:=⟨Try.prog,fun f ds out=>False,Es,fun _=>false,fun f vs lent out=>False,fun f=>none,fun f=>false,false,fun f=>none⟩
theorem E3_sp : ∀ f ds out,E3.Sp f ds out → Ent E3.P f ∧ Good E3.P f (fun a b=>a = ds ∧ b = out):=fun _ _ _ h=>h.elim
theorem E3_sm : ∀ f vs lent out,E3.Sm f vs lent out → Ent E3.P f ∧ GoodM E3.P f (fun a l b=>a = vs ∧ l = lent ∧ b = out):=fun _ _ _ _ h=>h.elim
theorem E3_at : ∀ f k,E3.At f = some k → AtomOk E3.P f k:=fun _ _ h=>nomatch h
theorem E3_ok : E3.Ok:=⟨E3_sp,Es_ok,E3_sm,E3_at⟩
end Go.Proofs.Ytleahjfgedfgmaa.Am
end
section
set_option linter.unusedVariables false
set_option linter.unusedSimpArgs false
set_option maxRecDepth 10000
set_option maxHeartbeats 0
namespace Go.Proofs.Ytleahjfgedfgmaa.Am
open Go Go.RowKit Go.Proofs
theorem wd_put (k t a b n : Int) (x : List Int) : [putB (max 0 k) 1,putB (max 0 t) 1,putB (max 0 a) 2,putB (max 0 b) 2,putB (max 0 n) 2,x].flatten = putB (max 0 k) 1 ++ (putB (max 0 t) 1 ++ (putB (max 0 a) 2 ++ (putB (max 0 b) 2 ++ (putB (max 0 n) 2 ++ x)))):=by simp
theorem take_lenB (l : List Int) (n : Nat) (h : l.length = n) : (l.map mB).take n = l.map mB:=List.take_of_length_le (by simp [h])
noncomputable def E4 : Env:=⟨Try.prog,fun f ds out=>False,Es,fun _=>false,fun f vs lent out=>False,fun f=>none,fun f=>false,false,fun f=>none⟩
theorem E4_sp : ∀ f ds out,E4.Sp f ds out → Ent E4.P f ∧ Good E4.P f (fun a b=>a = ds ∧ b = out):=fun _ _ _ h=>h.elim
theorem E4_sm : ∀ f vs lent out,E4.Sm f vs lent out → Ent E4.P f ∧ GoodM E4.P f (fun a l b=>a = vs ∧ l = lent ∧ b = out):=fun _ _ _ _ h=>h.elim
theorem E4_at : ∀ f k,E4.At f = some k → AtomOk E4.P f k:=fun _ _ h=>nomatch h
theorem E4_ok : E4.Ok:=⟨E4_sp,Es_ok,E4_sm,E4_at⟩
def packOut (k t a b : Int) (l : List Xt) : Out :=
  if validR k t a b l = true then ⟨.tup [.sl 0 1 0 (packR k t a b l).length true,.d (.v (.int .i64 0))],[(0,.row 5 1 ((packR k t a b l).map mB))]⟩ else ⟨.tup [.nil,.d (.v (.int .i64 1))],[]⟩
theorem nil_E (l : List Xt) : ([] = l.map eD) = (l = []):=by cases l <;> simp
theorem po_wk : packOut 4 0 0 0 [] = ⟨.tup [.sl 0 1 0 8 true,.d (.v (.int .i64 0))],[(0,.row 5 1 ((packR 4 0 0 0 []).map mB))]⟩:=rfl
end Go.Proofs.Ytleahjfgedfgmaa.Am
end
section
set_option linter.unusedVariables false
set_option linter.unusedSimpArgs false
set_option maxRecDepth 10000
set_option maxHeartbeats 0
namespace Go.Proofs.Ytleahjfgedfgmaa.Am
open Go Go.RowKit Go.Proofs
noncomputable def E5 : Env:=⟨Try.prog,fun f ds out=>(f = 14 ∧ Sp_overdubkeep_Within ds out),Es,fun _=>false,fun f vs lent out=>False,fun f=>none,fun f=>false,false,fun f=>none⟩
theorem E5_sp : ∀ f ds out,E5.Sp f ds out → Ent E5.P f ∧ Good E5.P f (fun a b=>a = ds ∧ b = out):=by
  rintro f ds out ⟨rfl,h⟩
  exact ⟨ent_overdubkeep_Within,good_overdubkeep_Within.one h⟩
theorem E5_sm : ∀ f vs lent out,E5.Sm f vs lent out → Ent E5.P f ∧ GoodM E5.P f (fun a l b=>a = vs ∧ l = lent ∧ b = out):=fun _ _ _ _ h=>h.elim
theorem E5_at : ∀ f k,E5.At f = some k → AtomOk E5.P f k:=fun _ _ h=>nomatch h
theorem E5_ok : E5.Ok:=⟨E5_sp,Es_ok,E5_sm,E5_at⟩
theorem nth_rE (l : List Xt) (k : Nat) (h : k < l.length) : nth (l.map eD) k = .agg [.v (.int .i64 (l.getD k x0).f0),.v (.int .i64 (l.getD k x0).f1),.v (.int .i64 (l.getD k x0).f2),.v (.int .i64 (l.getD k x0).f3),.v (.int .i64 (l.getD k x0).f4)]:=nth_E l k h
theorem within_rng {v n : Int} (hn : 1 ≤ n) : 0 ≤ within v n ∧ within v n < n:=by
  unfold within
  rw [if_neg (by omega)]
  have h1:=Int.tmod_lt_of_pos v (show 0 < n by omega)
  have h2:=Int.lt_tmod_of_pos v (show 0 < n by omega)
  split <;> omega
def rowE (s : Int) (e : Xt) : Xt:=⟨s,1 + within e.f1 4095,1 + within e.f2 64,within e.f3 (1 + within e.f2 64),1 + within e.f4 (1 + within e.f2 64 - within e.f3 (1 + within e.f2 64))⟩
def rowG : Nat → Int → List Xt → List Xt
  | 0,_,_=>[]
  | _,_,[]=>[]
  | m + 1,s,e :: l=>if (rowE s e).f4 > 1000 - s then [] else rowE s e :: rowG m (s + (rowE s e).f4) l
theorem snoc_E (l : List Xt) (a b c d e : Int) : l.map eD ++ [D.agg [.v (.int .i64 a),.v (.int .i64 b),.v (.int .i64 c),.v (.int .i64 d),.v (.int .i64 e)]] = (l ++ [Xt.mk a b c d e]).map eD:=by simp [eD,mI]
theorem rowG_cons {m s : Int} {k : Nat} {e : Xt} {l : List Xt} (h : (k : Int) < m) : rowG (m.toNat - k) s (e :: l) = if (rowE s e).f4 > 1000 - s then [] else rowE s e :: rowG (m.toNat - (k + 1)) (s + (rowE s e).f4) l:=by
  obtain ⟨q,hq⟩ : ∃ q,m.toNat - k = q + 1:=⟨m.toNat - k - 1,by omega⟩
  rw [hq,show m.toNat - (k + 1) = q by omega]
  rfl
theorem rowG_zero {m s : Int} {k : Nat} {l : List Xt} (h : m ≤ k) : rowG (m.toNat - k) s l = []:=by
  rw [show m.toNat - k = 0 by omega]
  cases l <;> rfl
theorem rowG_nil (n : Nat) (s : Int) : rowG n s [] = []:=by cases n <;> rfl
def Sp_overdublaw16_Row (ds : List D) (out : Out) : Prop:=∃ (l : List Xt) (m : Int),ds = [.list (l.map eD),.v (.int .i64 m)] ∧ l.length ≤ 9223372036854775807 ∧ (∀ e ∈ l,numE e) ∧ m ≤ 1000 ∧ out = ⟨.sl 0 5 0 (rowG m.toNat 0 l).length true,[(0,.row 25 5 ((rowG m.toNat 0 l).map eD))]⟩
theorem good_overdublaw16_Row : Good Try.prog 13 Sp_overdublaw16_Row:=by
  refine good_body (E:=E5) (nt:=69) (rs:=#[.tmp 4]) Try.func13 rfl rfl rfl ?_
  rintro ds out ⟨l,m,rfl,hl,hn,hm,rfl⟩
  refine ⟨by simp,?_⟩
  repeat' first
 | refine AW.seq ?_
 | refine AW.block ?_
 | refine AW.regl E5_ok [0,1,4,5,6,7,8,9,10,19,49] ?_
 | refine then_n ?_
 | refine then_r ?_
 | refine then_x ?_
 | refine block_x ?_
 | refine block_o (by decide) ?_
 | refine block_n ?_
 | refine block_r ?_
 | refine AW.skip ?_
 | refine AW.ret ?_
 | refine AW.exit ?_
 | refine AW.cond rfl ?_ ?_
 | refine awl_none rfl ?_
 | refine awl_nil2 ?_
 | refine awl_some rfl rfl (Nat.le_of_ble_eq_true rfl) rfl rfl ?_ ?_
 | (refine fun (hc : _ = _)=>?_;first|cases hc|((try rw [hc]);(try simp only [stH] at hc);(try (exfalso;omega)));(try (show Awl _ _ _ _ _;simp only [stU])))
 | ((first|refine fun (K : V → List _ → _) hK=>?_|refine fun (_ : V → V)=>?_);simp (maxSteps:=1000000) (disch:=omega) only [go_sem,Int.reduceEq,↓reduceIte,reduceCtorEq,Nat.reduceEqDiff,Nat.reduceLT,Nat.reduceLeDiff,Nat.reduceAdd,Nat.reduceSub,Nat.reduceMul,Int.reduceToNat,Int.reduceLE,Int.reduceLT,E5,Sp_overdubkeep_Within];(try (revert hK;intro hK;(repeat' first|(refine And.intro ?_ ?_)|(intro hc;first|cases hc|((try rw [hc]);(try simp only [stH] at hc);(try (exfalso;omega)))));all_goals first|(refine hK _ _ ?_;clear hK K;simp only [stU])|exact hK|omega)))
  refine AW.loop_wk (fun p : Nat × List Xt × Int=>⟨[(0,.d (.list (l.map eD))),(1,.d (.v (.int .i64 m))),(5,.sl 100 5 0 p.2.1.length true),(6,.d (.v (.int .i64 p.2.2))),(7,.d (.v (.int .i64 p.1)))],[(100,.row 25 5 (p.2.1.map eD))],69⟩)
    (fun p=>p.1 ≤ l.length ∧ p.2.1.length = p.1 ∧ (p.1 : Int) ≤ max 0 m ∧ 0 ≤ p.2.2 ∧ p.2.2 ≤ 1000 ∧ rowG m.toNat 0 l = p.2.1 ++ rowG (m.toNat - p.1) p.2.2 (l.drop p.1)) (fun p=>l.length - p.1) (0,[],0) ⟨by omega,rfl,by omega,Int.le_refl 0,by decide,by simp⟩ (fun w0 oa a w hs=>Wk.sr (ρ:=nm []) (Wk.of ?_) (nil_sr 5 100 25 5 rfl (by simp) rfl (by decide) hs)) ?_
  · simp (maxSteps:=1000000) (disch:=omega) only [go_sem,Int.reduceEq,↓reduceIte,reduceCtorEq,Nat.reduceEqDiff,Nat.reduceLT,Nat.reduceLeDiff,Nat.reduceAdd,Nat.reduceSub,Nat.reduceMul,Int.reduceToNat,Int.reduceLE,Int.reduceLT,E5,Sp_overdubkeep_Within]
  · rintro ⟨k,r,s⟩ ⟨hk,hr,hkm,hs0,hs1,hv⟩
    simp only at hk hr hkm hs0 hs1 hv
    by_cases hk1 : k < l.length
    · have e1:=hn (l.getD k x0) (by rw [List.getD_eq_getElem?_getD,List.getElem?_eq_getElem hk1];exact List.getElem_mem hk1)
      have e2:=nth_E l k hk1
      have e9 : l.drop k = l.getD k x0 :: l.drop (k + 1):=by rw [List.drop_eq_getElem_cons hk1];simp [List.getD_eq_getElem?_getD,hk1]
      generalize l.getD k x0 = e at *
      obtain ⟨f0,f1,f2,f3,f4⟩:=e
      unfold numE at e1
      simp only at e1
      have w1:=within_rng (v:=f1) (n:=4095) (by omega)
      have w2:=within_rng (v:=f2) (n:=64) (by omega)
      have w3:=within_rng (v:=f3) (n:=1 + within f2 64) (by omega)
      have w4:=within_rng (v:=f4) (n:=1 + within f2 64 - within f3 (1 + within f2 64)) (by omega)
      repeat' first
 | refine AW.seq ?_
 | refine AW.block ?_
 | refine AW.regl E5_ok [0,1,4,5,6,7,8,9,10,19,49] ?_
 | refine then_n ?_
 | refine then_r ?_
 | refine then_x ?_
 | refine block_x ?_
 | refine block_o (by decide) ?_
 | refine block_n ?_
 | refine block_r ?_
 | refine AW.skip ?_
 | refine AW.ret ?_
 | refine AW.exit ?_
 | refine AW.cond rfl ?_ ?_
 | refine awl_none rfl ?_
 | refine awl_nil2 ?_
 | refine awl_some rfl rfl (Nat.le_of_ble_eq_true rfl) rfl rfl ?_ ?_
 | (refine fun (hc : _ = _)=>?_;first|cases hc|((try rw [hc]);(try simp only [stH] at hc);(try (exfalso;omega)));(try (show Awl _ _ _ _ _;simp only [stU])))
 | ((first|refine fun (K : V → List _ → _) hK=>?_|refine fun (_ : V → V)=>?_);simp (maxSteps:=1000000) (disch:=omega) only [go_sem,Int.reduceEq,↓reduceIte,reduceCtorEq,Nat.reduceEqDiff,Nat.reduceLT,Nat.reduceLeDiff,Nat.reduceAdd,Nat.reduceSub,Nat.reduceMul,Int.reduceToNat,Int.reduceLE,Int.reduceLT,E5,Sp_overdubkeep_Within,e2,eD,mI_eq,all_E,snoc_E];(try (revert hK;intro hK;(repeat' first|(refine And.intro ?_ ?_)|(intro hc;first|cases hc|((try rw [hc]);(try simp only [stH] at hc);(try (exfalso;omega)))));all_goals first|(refine hK _ _ ?_;clear hK K;simp only [stU])|exact hK|omega)))
      all_goals first
        | (have hz : rowG m.toNat 0 l = r:=by rw [hv,e9,rowG_cons (by omega),if_pos (by simp only [rowE];omega),List.append_nil]
           (refine Ends.of (nm [(0,100)]) (by first|exact .inl rfl|exact .inr rfl) ?_;simp (maxSteps:=1000000) (disch:=omega) only [go_sem,Int.reduceEq,↓reduceIte,reduceCtorEq,Nat.reduceEqDiff,Nat.reduceLT,Nat.reduceLeDiff,Nat.reduceAdd,Nat.reduceSub,Nat.reduceMul,Int.reduceToNat,Int.reduceLE,Int.reduceLT,E5,Sp_overdubkeep_Within,hz]))
        | (have hz : rowG m.toNat 0 l = r:=by rw [hv,rowG_zero (by omega),List.append_nil]
           (refine Ends.of (nm [(0,100)]) (by first|exact .inl rfl|exact .inr rfl) ?_;simp (maxSteps:=1000000) (disch:=omega) only [go_sem,Int.reduceEq,↓reduceIte,reduceCtorEq,Nat.reduceEqDiff,Nat.reduceLT,Nat.reduceLeDiff,Nat.reduceAdd,Nat.reduceSub,Nat.reduceMul,Int.reduceToNat,Int.reduceLE,Int.reduceLT,E5,Sp_overdubkeep_Within,hz]))
        | (have hl : r.length + 1 = (r ++ [rowE s ⟨f0,f1,f2,f3,f4⟩]).length:=by simp
           refine ⟨(k + 1,r ++ [rowE s ⟨f0,f1,f2,f3,f4⟩],s + (rowE s ⟨f0,f1,f2,f3,f4⟩).f4),by dsimp only;omega,by dsimp only;omega,by dsimp only;omega,by dsimp only [rowE];omega,by dsimp only [rowE];omega,?_,by dsimp only;omega,nm [(100,64)],Wk.of ?_⟩
           · dsimp only
             rw [hv,e9,rowG_cons (by omega),if_neg (by simp only [rowE];omega),List.append_assoc]
             rfl
           · simp (maxSteps:=1000000) (disch:=omega) only [go_sem,Int.reduceEq,↓reduceIte,reduceCtorEq,Nat.reduceEqDiff,Nat.reduceLT,Nat.reduceLeDiff,Nat.reduceAdd,Nat.reduceSub,Nat.reduceMul,Int.reduceToNat,Int.reduceLE,Int.reduceLT,E5,Sp_overdubkeep_Within]
             exact ⟨rfl,rfl,rfl⟩)
    · obtain rfl : k = l.length:=by omega
      have hz : rowG m.toNat 0 l = r:=by rw [hv,List.drop_length,rowG_nil,List.append_nil]
      repeat' first
 | refine AW.seq ?_
 | refine AW.block ?_
 | refine AW.regl E5_ok [0,1,4,5,6,7,8,9,10,19,49] ?_
 | refine then_n ?_
 | refine then_r ?_
 | refine then_x ?_
 | refine block_x ?_
 | refine block_o (by decide) ?_
 | refine block_n ?_
 | refine block_r ?_
 | refine AW.skip ?_
 | refine AW.ret ?_
 | refine AW.exit ?_
 | refine AW.cond rfl ?_ ?_
 | refine awl_none rfl ?_
 | refine awl_nil2 ?_
 | refine awl_some rfl rfl (Nat.le_of_ble_eq_true rfl) rfl rfl ?_ ?_
 | (refine fun (hc : _ = _)=>?_;first|cases hc|((try rw [hc]);(try simp only [stH] at hc);(try (exfalso;omega)));(try (show Awl _ _ _ _ _;simp only [stU])))
 | ((first|refine fun (K : V → List _ → _) hK=>?_|refine fun (_ : V → V)=>?_);simp (maxSteps:=1000000) (disch:=omega) only [go_sem,Int.reduceEq,↓reduceIte,reduceCtorEq,Nat.reduceEqDiff,Nat.reduceLT,Nat.reduceLeDiff,Nat.reduceAdd,Nat.reduceSub,Nat.reduceMul,Int.reduceToNat,Int.reduceLE,Int.reduceLT,E5,Sp_overdubkeep_Within];(try (revert hK;intro hK;(repeat' first|(refine And.intro ?_ ?_)|(intro hc;first|cases hc|((try rw [hc]);(try simp only [stH] at hc);(try (exfalso;omega)))));all_goals first|(refine hK _ _ ?_;clear hK K;simp only [stU])|exact hK|omega)))
      all_goals
        (refine Ends.of (nm [(0,100)]) (by first|exact .inl rfl|exact .inr rfl) ?_;simp (maxSteps:=1000000) (disch:=omega) only [go_sem,Int.reduceEq,↓reduceIte,reduceCtorEq,Nat.reduceEqDiff,Nat.reduceLT,Nat.reduceLeDiff,Nat.reduceAdd,Nat.reduceSub,Nat.reduceMul,Int.reduceToNat,Int.reduceLE,Int.reduceLT,E5,Sp_overdubkeep_Within,hz])
theorem ent_overdublaw16_Row : Ent Try.prog 13:=⟨_,Try.func13,rfl,by decide⟩
theorem rowG_ok : ∀ (n : Nat) (s : Int) (l : List Xt),0 ≤ s → s ≤ 1000 → vRow s (rowG n s l) = true ∧ (rowG n s l).length ≤ n
  | 0,s,l,_,_=>by cases l <;> simp [rowG,vRow]
  | n + 1,s,[],_,_=>by simp [rowG,vRow]
  | n + 1,s,e :: l,h0,h1=>by
    have w1:=within_rng (v:=e.f1) (n:=4095) (by omega)
    have w2:=within_rng (v:=e.f2) (n:=64) (by omega)
    have w3:=within_rng (v:=e.f3) (n:=1 + within e.f2 64) (by omega)
    have w4:=within_rng (v:=e.f4) (n:=1 + within e.f2 64 - within e.f3 (1 + within e.f2 64)) (by omega)
    by_cases hc : (rowE s e).f4 > 1000 - s
    · rw [rowG,if_pos hc];simp [vRow]
    · rw [rowG,if_neg hc]
      simp only [rowE] at hc
      have ih:=rowG_ok n (s + (rowE s e).f4) l (by simp only [rowE];omega) (by simp only [rowE];omega)
      constructor
      · have o1 : oneE (rowE s e) = true:=decide_eq_true (by dsimp only [rowE];omega)
        have o2 : decide ((rowE s e).f4 ≤ 1000 - s) = true:=decide_eq_true (by dsimp only [rowE];omega)
        have o3 : decide ((rowE s e).f0 = s) = true:=decide_eq_true rfl
        rw [vRow,o1,o2,o3,ih.1]
        rfl
      · have:=ih.2
        simp only [List.length_cons]
        omega
theorem numE_row (l : List Xt) (n : Nat) : ∀ e ∈ rowG n 0 l,numE e:=fun e he=>okE_num ((vRow_facts _ 0 (by omega) (by omega) (rowG_ok n 0 l (by omega) (by omega)).1).1 e he)
end Go.Proofs.Ytleahjfgedfgmaa.Am
end
