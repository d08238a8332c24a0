import Derived.Test.YtigkcigoiinkpaaZN2
import Derived.Test.YtigkcigoiinkpaaZGA
set_option linter.unusedVariables false
set_option linter.unusedSimpArgs false
set_option maxRecDepth 10000
set_option maxHeartbeats 0
namespace Go.Proofs.Ytigkcigoiinkpaa.Am
open Go Go.RowKit Go.Proofs
def numsB (l : List Int) : List Int:=l.flatMap fun i=>putB (max 0 i) 2
theorem numsB_len (l : List Int) : (numsB l).length = 2 * l.length:=by
  induction l with
  | nil=>rfl
  | cons p r ih =>
    have e : numsB (p :: r) = putB (max 0 p) 2 ++ numsB r:=rfl
    rw [e,List.length_append,putB_len,ih,List.length_cons];omega
theorem numsB_byt (l : List Int) : Byt (numsB l):=by
  intro x hx
  obtain ⟨p,_,hp⟩:=List.mem_flatMap.1 hx
  exact putB_byt _ _ x hp
theorem numsB_snoc (l : List Int) (p : Int) : numsB (l ++ [p]) = numsB l ++ putB (max 0 p) 2:=by simp [numsB]
def rowB (l : List Int) : List Int:=putB (max 0 (l.length : Int)) 1 ++ numsB l
theorem rowB_len (l : List Int) : (rowB l).length = 1 + 2 * l.length:=by unfold rowB;rw [List.length_append,putB_len,numsB_len]
theorem rowB_byt (l : List Int) : Byt (rowB l):=byt_append (putB_byt _ _) (numsB_byt _)
def allS (l : List Int) : Prop:=∀ i,i < l.length → secN (l.getD i 0)
open Classical in
noncomputable def rowOut (l : List Int) : Out:=if allS l then ⟨.tup [.sl 0 1 0 (1 + 2 * l.length) true,.d (.v (.bool (decide (l.length ≤ 4))))],[(0,.row 5 1 ((rowB l).map mB))]⟩ else ⟨.tup [.nil,.d (.v (.bool false))],[]⟩
noncomputable def N9 : Env:=⟨Try.prog,fun f ds out=>(f = 47 ∧ Sp_node_sector ds out) ∨ (f = 49 ∧ Sp_field_Put ds out),Es,fun _=>false⟩
theorem N9_sp : ∀ f ds out,N9.Sp f ds out → Ent N9.P f ∧ Good N9.P f (fun a b=>a = ds ∧ b = out):=by
  rintro f ds out (⟨rfl,h⟩|⟨rfl,h⟩)
  · exact ⟨ent_node_sector,good_node_sector.one h⟩
  · exact ⟨ent_field_Put,good_field_Put.one h⟩
theorem N9_ok : N9.Ok:=⟨N9_sp,Es_ok⟩
def Sp_node_row (ds : List D) (out : Out) : Prop:=∃ l : List Int,ds = [.list (l.map mI)] ∧ l.length ≤ 1000000 ∧ out = rowOut l
theorem good_node_row : Good Try.prog 52 Sp_node_row:=by
  refine good_body (E:=N9) (nt:=28) (rs:=#[.tmp 2,.tmp 3]) Try.func52 rfl rfl rfl ?_
  rintro ds out ⟨l,rfl,hl,rfl⟩
  refine ⟨by simp,?_⟩
  repeat' first
 | refine AW.seq ?_
 | refine AW.block ?_
 | refine AW.regl N9_ok [0,2,3,4,6,10,11,12,13,18] ?_
 | refine then_n ?_
 | refine then_r ?_
 | refine then_x ?_
 | refine block_x ?_
 | refine block_o (by decide) ?_
 | refine block_n ?_
 | refine block_r ?_
 | refine AW.skip ?_
 | refine AW.ret ?_
 | refine AW.exit ?_
 | refine AW.cond rfl ?_ ?_
 | refine awl_none rfl ?_
 | refine awl_nil2 ?_
 | (refine fun (hc : _ = _)=>?_;first|cases hc|((try rw [hc]);(try simp only [stH] at hc);(try (exfalso;omega)));(try (show Awl _ _ _ _ _;simp only [stU])))
 | ((first|refine fun (K : V → List _ → _) hK=>?_|refine fun (_ : V → V)=>?_);simp (disch:=omega) only [go_sem,Int.reduceEq,↓reduceIte,reduceCtorEq,Nat.reduceEqDiff,Nat.reduceLT,Nat.reduceLeDiff,Nat.reduceAdd,Nat.reduceSub,Nat.reduceMul,Int.reduceToNat,Int.reduceLE,Int.reduceLT,N9,Sp_field_Put,Sp_node_sector,wd_1n,putB_taken,putB_len];(try (revert hK;intro hK;(repeat' first|(refine And.intro ?_ ?_)|(intro hc;first|cases hc|((try rw [hc]);(try simp only [stH] at hc);(try (exfalso;omega)))));all_goals first|(refine hK _ _ ?_;clear hK K;simp only [stU])|exact hK|omega)))
  refine AW.loop_wk (fun k : Nat=>⟨[(0,.d (.list (l.map mI))),(2,.nil),(3,.d (.v (.bool false))),(4,.sl 100 1 0 (1 + 2 * k) true),(10,.d (.list (l.map mI))),(11,.d (.v (.int .i64 l.length))),(12,.d (.v (.int .i64 k)))],[(100,.row 5 1 ((putB (max 0 (l.length : Int)) 1 ++ numsB (l.take k)).map mB))],28⟩)
    (fun k=>k ≤ l.length ∧ ∀ i,i < k → secN (l.getD i 0)) (fun k=>l.length - k) 0 ⟨by omega,fun i hi=>by omega⟩ (fun w0 oa a w hs=>Wk.sr (ρ:=nm [(100,9)]) (Wk.of ?_) hs) ?_
  · simp (disch:=omega) only [go_sem,Int.reduceEq,↓reduceIte,reduceCtorEq,Nat.reduceEqDiff,Nat.reduceLT,Nat.reduceLeDiff,Nat.reduceAdd,Nat.reduceSub,Nat.reduceMul,Int.reduceToNat,Int.reduceLE,Int.reduceLT,N9,Sp_field_Put,Sp_node_sector]
    all_goals first|done|rfl|(simp [numsB])
  · rintro k ⟨hk,hok⟩
    by_cases hk1 : k < l.length
    · have e2 : nth (l.map mI) k = .v (.int .i64 (l.getD k 0)):=nth_I l k hk1
      have hpl : (putB (max 0 (l.length : Int)) 1 ++ numsB (l.take k)).length = 1 + 2 * k:=by rw [List.length_append,putB_len,numsB_len,List.length_take];omega
      have e4 : putB (max 0 (l.length : Int)) 1 ++ numsB (l.take (k + 1)) = (putB (max 0 (l.length : Int)) 1 ++ numsB (l.take k)) ++ putB (max 0 (l.getD k 0)) 2:=by rw [take_snocG l k 0 hk1,numsB_snoc,List.append_assoc]
      have hzz : ¬ secN (l.getD k 0) → rowOut l = ⟨.tup [.nil,.d (.v (.bool false))],[]⟩:=fun h=>if_neg fun h2=>h (h2 k hk1)
      have hl2 : ((putB (max 0 (l.length : Int)) 1 ++ numsB (l.take k)).map mB).length = 1 + 2 * k:=by rw [List.length_map,hpl]
      obtain ⟨R,hR⟩ : ∃ R,putB (max 0 (l.length : Int)) 1 ++ numsB (l.take k) = R:=⟨_,rfl⟩
      rw [hR] at hpl e4 hl2 ⊢
      by_cases hs : secN (l.getD k 0)
      · have hd : decide (secN (l.getD k 0)) = true:=decide_eq_true hs
        have hfin : ∀ i,i < k + 1 → secN (l.getD i 0):=fun i hi=>by
          by_cases h : i = k
          · rw [h];exact hs
          · exact hok i (by omega)
        have hlt:=hs.2
        clear hzz hok hs
        generalize l.getD k 0 = v at *
        repeat' first
 | refine AW.seq ?_
 | refine AW.block ?_
 | refine AW.regl N9_ok [0,2,3,4,6,10,11,12,13,18] ?_
 | refine then_n ?_
 | refine then_r ?_
 | refine then_x ?_
 | refine block_x ?_
 | refine block_o (by decide) ?_
 | refine block_n ?_
 | refine block_r ?_
 | refine AW.skip ?_
 | refine AW.ret ?_
 | refine AW.exit ?_
 | refine AW.cond rfl ?_ ?_
 | refine awl_none rfl ?_
 | refine awl_nil2 ?_
 | (refine fun (hc : _ = _)=>?_;first|cases hc|((try rw [hc]);(try simp only [stH] at hc);(try (exfalso;omega)));(try (show Awl _ _ _ _ _;simp only [stU])))
 | ((first|refine fun (K : V → List _ → _) hK=>?_|refine fun (_ : V → V)=>?_);simp (disch:=omega) only [go_sem,Int.reduceEq,↓reduceIte,reduceCtorEq,Nat.reduceEqDiff,Nat.reduceLT,Nat.reduceLeDiff,Nat.reduceAdd,Nat.reduceSub,Nat.reduceMul,Int.reduceToNat,Int.reduceLE,Int.reduceLT,N9,Sp_field_Put,Sp_node_sector,e2,hd,hl2,wd_2n,putB_taken,putB_len];(try (revert hK;intro hK;(repeat' first|(refine And.intro ?_ ?_)|(intro hc;first|cases hc|((try rw [hc]);(try simp only [stH] at hc);(try (exfalso;omega)))));all_goals first|(refine hK _ _ ?_;clear hK K;simp only [stU])|exact hK|omega)))
        refine ⟨k + 1,by omega,hfin,by omega,nm [(100,22)],Wk.of ?_⟩
        simp (disch:=omega) only [go_sem,Int.reduceEq,↓reduceIte,reduceCtorEq,Nat.reduceEqDiff,Nat.reduceLT,Nat.reduceLeDiff,Nat.reduceAdd,Nat.reduceSub,Nat.reduceMul,Int.reduceToNat,Int.reduceLE,Int.reduceLT,N9,Sp_field_Put,Sp_node_sector,e4,List.map_append]
        all_goals first|done|rfl|exact ⟨by rw [hpl];rfl,rfl⟩|exact ⟨rfl,rfl⟩
      · have hd : decide (secN (l.getD k 0)) = false:=decide_eq_false hs
        have hz:=hzz hs
        clear hzz hok hs e4
        generalize l.getD k 0 = v at *
        repeat' first
 | refine AW.seq ?_
 | refine AW.block ?_
 | refine AW.regl N9_ok [0,2,3,4,6,10,11,12,13,18] ?_
 | refine then_n ?_
 | refine then_r ?_
 | refine then_x ?_
 | refine block_x ?_
 | refine block_o (by decide) ?_
 | refine block_n ?_
 | refine block_r ?_
 | refine AW.skip ?_
 | refine AW.ret ?_
 | refine AW.exit ?_
 | refine AW.cond rfl ?_ ?_
 | refine awl_none rfl ?_
 | refine awl_nil2 ?_
 | (refine fun (hc : _ = _)=>?_;first|cases hc|((try rw [hc]);(try simp only [stH] at hc);(try (exfalso;omega)));(try (show Awl _ _ _ _ _;simp only [stU])))
 | ((first|refine fun (K : V → List _ → _) hK=>?_|refine fun (_ : V → V)=>?_);simp (disch:=omega) only [go_sem,Int.reduceEq,↓reduceIte,reduceCtorEq,Nat.reduceEqDiff,Nat.reduceLT,Nat.reduceLeDiff,Nat.reduceAdd,Nat.reduceSub,Nat.reduceMul,Int.reduceToNat,Int.reduceLE,Int.reduceLT,N9,Sp_field_Put,Sp_node_sector,e2,hd];(try (revert hK;intro hK;(repeat' first|(refine And.intro ?_ ?_)|(intro hc;first|cases hc|((try rw [hc]);(try simp only [stH] at hc);(try (exfalso;omega)))));all_goals first|(refine hK _ _ ?_;clear hK K;simp only [stU])|exact hK|omega)))
        (refine Ends.of (nm []) (by first|exact .inl rfl|exact .inr rfl) ?_;simp (disch:=omega) only [go_sem,Int.reduceEq,↓reduceIte,reduceCtorEq,Nat.reduceEqDiff,Nat.reduceLT,Nat.reduceLeDiff,Nat.reduceAdd,Nat.reduceSub,Nat.reduceMul,Int.reduceToNat,Int.reduceLE,Int.reduceLT,N9,Sp_field_Put,Sp_node_sector,hz])
    · obtain rfl : k = l.length:=by omega
      have hz : rowOut l = ⟨.tup [.sl 0 1 0 (1 + 2 * l.length) true,.d (.v (.bool (decide (l.length ≤ 4))))],[(0,.row 5 1 ((rowB l).map mB))]⟩:=if_pos hok
      have hdz : decide ((l.length : Int) ≤ 4) = decide (l.length ≤ 4):=by rw [decide_eq_decide];omega
      rw [List.take_length]
      repeat' first
 | refine AW.seq ?_
 | refine AW.block ?_
 | refine AW.regl N9_ok [0,2,3,4,6,10,11,12,13,18] ?_
 | refine then_n ?_
 | refine then_r ?_
 | refine then_x ?_
 | refine block_x ?_
 | refine block_o (by decide) ?_
 | refine block_n ?_
 | refine block_r ?_
 | refine AW.skip ?_
 | refine AW.ret ?_
 | refine AW.exit ?_
 | refine AW.cond rfl ?_ ?_
 | refine awl_none rfl ?_
 | refine awl_nil2 ?_
 | (refine fun (hc : _ = _)=>?_;first|cases hc|((try rw [hc]);(try simp only [stH] at hc);(try (exfalso;omega)));(try (show Awl _ _ _ _ _;simp only [stU])))
 | ((first|refine fun (K : V → List _ → _) hK=>?_|refine fun (_ : V → V)=>?_);simp (disch:=omega) only [go_sem,Int.reduceEq,↓reduceIte,reduceCtorEq,Nat.reduceEqDiff,Nat.reduceLT,Nat.reduceLeDiff,Nat.reduceAdd,Nat.reduceSub,Nat.reduceMul,Int.reduceToNat,Int.reduceLE,Int.reduceLT,N9,Sp_field_Put,Sp_node_sector];(try (revert hK;intro hK;(repeat' first|(refine And.intro ?_ ?_)|(intro hc;first|cases hc|((try rw [hc]);(try simp only [stH] at hc);(try (exfalso;omega)))));all_goals first|(refine hK _ _ ?_;clear hK K;simp only [stU])|exact hK|omega)))
      (refine Ends.of (nm [(0,100)]) (by first|exact .inl rfl|exact .inr rfl) ?_;simp (disch:=omega) only [go_sem,Int.reduceEq,↓reduceIte,reduceCtorEq,Nat.reduceEqDiff,Nat.reduceLT,Nat.reduceLeDiff,Nat.reduceAdd,Nat.reduceSub,Nat.reduceMul,Int.reduceToNat,Int.reduceLE,Int.reduceLT,N9,Sp_field_Put,Sp_node_sector,hz,hdz,rowB])
theorem ent_node_row : Ent Try.prog 52:=⟨_,Try.func52,rfl,by decide⟩
noncomputable def NA : Env:=⟨Try.prog,fun f ds out=>(f = 52 ∧ Sp_node_row ds out) ∨ (f = 47 ∧ Sp_node_sector ds out) ∨ (f = 49 ∧ Sp_field_Put ds out) ∨ (f = 48 ∧ Sp_field_Join ds out) ∨ (f = 50 ∧ Sp_node_seal ds out),Es,fun _=>false⟩
theorem NA_sp : ∀ f ds out,NA.Sp f ds out → Ent NA.P f ∧ Good NA.P f (fun a b=>a = ds ∧ b = out):=by
  rintro f ds out (⟨rfl,h⟩|⟨rfl,h⟩|⟨rfl,h⟩|⟨rfl,h⟩|⟨rfl,h⟩)
  · exact ⟨ent_node_row,good_node_row.one h⟩
  · exact ⟨ent_node_sector,good_node_sector.one h⟩
  · exact ⟨ent_field_Put,good_field_Put.one h⟩
  · exact ⟨ent_field_Join,good_field_Join.one h⟩
  · exact ⟨ent_node_seal,good_node_seal.one h⟩
theorem NA_ok : NA.Ok:=⟨NA_sp,Es_ok⟩
def rowOk (l : List Int) : Prop:=allS l ∧ l.length ≤ 4
def mayR (now : Int) (u r : List Int) : Prop:=secN now ∧ rowOk u ∧ rowOk r
def rootL (now : Int) (u r : List Int) : List Int:=putB (max 0 now) 2 ++ (rowB u ++ rowB r)
def rootP (now : Int) (u r : List Int) : List Int:=nodP 4 1 (rootL now u r)
open Classical in
noncomputable def packROut (now : Int) (u r : List Int) : Out:=if mayR now u r then ⟨.tup [.sl 0 1 0 128 true,.d (.v (.bool true))],[(0,.row 5 1 ((rootP now u r).map mB))]⟩ else ⟨.tup [.nil,.d (.v (.bool false))],[]⟩
theorem Y3r (a b c : List Int) (l : List (List Int)) : ([D.list (a.map mB),D.list (b.map mB),D.list (c.map mB)] = l.map bys) = (l = [a,b,c]):=by
  rw [show [D.list (a.map mB),D.list (b.map mB),D.list (c.map mB)] = [a,b,c].map bys from rfl,Y_inj]
  exact propext eq_comm
def Sp_node_PackRoot (ds : List D) (out : Out) : Prop:=∃ (now : Int) (u r : List Int),ds = [.v (.int .i64 now),.list (u.map mI),.list (r.map mI)] ∧ u.length ≤ 1000000 ∧ r.length ≤ 1000000 ∧ out = packROut now u r
theorem good_node_PackRoot : Good Try.prog 22 Sp_node_PackRoot:=by
  refine good_body (E:=NA) (nt:=40) (rs:=#[.tmp 6,.tmp 7]) Try.func22 rfl rfl rfl ?_
  rintro ds out ⟨now,u,r,rfl,hu,hr,rfl⟩
  refine ⟨by simp,?_⟩
  have hut : (u.map mI).take u.length = u.map mI:=List.take_of_length_le (by simp)
  have hrt : (r.map mI).take r.length = r.map mI:=List.take_of_length_le (by simp)
  by_cases hm : mayR now u r
  · have hz : packROut now u r = ⟨.tup [.sl 0 1 0 128 true,.d (.v (.bool true))],[(0,.row 5 1 ((rootP now u r).map mB))]⟩:=if_pos hm
    obtain ⟨h1,⟨h2,h3⟩,⟨h4,h5⟩⟩:=hm
    have ru : rowOut u = ⟨.tup [.sl 0 1 0 (1 + 2 * u.length) true,.d (.v (.bool true))],[(0,.row 5 1 ((rowB u).map mB))]⟩:=by rw [rowOut,if_pos h2,decide_eq_true h3]
    have rr : rowOut r = ⟨.tup [.sl 0 1 0 (1 + 2 * r.length) true,.d (.v (.bool true))],[(0,.row 5 1 ((rowB r).map mB))]⟩:=by rw [rowOut,if_pos h4,decide_eq_true h5]
    have hd : decide (secN now) = true:=decide_eq_true h1
    have hn2:=h1.2
    have tu : ((rowB u).map mB).take (1 + 2 * u.length) = (rowB u).map mB:=List.take_of_length_le (by rw [List.length_map,rowB_len];omega)
    have tr : ((rowB r).map mB).take (1 + 2 * r.length) = (rowB r).map mB:=List.take_of_length_le (by rw [List.length_map,rowB_len];omega)
    have hrl : putB (max 0 now) 2 ++ (rowB u ++ rowB r) = rootL now u r:=rfl
    have hll : (rootL now u r).length = 4 + 2 * u.length + 2 * r.length:=by unfold rootL;rw [List.length_append,List.length_append,putB_len,rowB_len,rowB_len];omega
    have hlt : ((rootL now u r).map mB).take (rootL now u r).length = (rootL now u r).map mB:=List.take_of_length_le (by simp)
    have lu:=rowB_len u
    have lr:=rowB_len r
    clear h1 h2 h4
    repeat' first
 | refine AW.seq ?_
 | refine AW.block ?_
 | refine AW.regl NA_ok [0,1,2,6,7,8,9,10,11,32] ?_
 | refine then_n ?_
 | refine then_r ?_
 | refine then_x ?_
 | refine block_x ?_
 | refine block_o (by decide) ?_
 | refine block_n ?_
 | refine block_r ?_
 | refine AW.skip ?_
 | refine AW.ret ?_
 | refine AW.exit ?_
 | refine AW.cond rfl ?_ ?_
 | refine awl_none rfl ?_
 | refine awl_nil2 ?_
 | refine awl_some rfl rfl (Nat.le_of_ble_eq_true rfl) rfl rfl ?_ ?_
 | (refine fun (hc : _ = _)=>?_;first|cases hc|((try rw [hc]);(try simp only [stH] at hc);(try (exfalso;omega)));(try (show Awl _ _ _ _ _;simp only [stU])))
 | ((first|refine fun (K : V → List _ → _) hK=>?_|refine fun (_ : V → V)=>?_);simp (disch:=omega) only [go_sem,Int.reduceEq,↓reduceIte,reduceCtorEq,Nat.reduceEqDiff,Nat.reduceLT,Nat.reduceLeDiff,Nat.reduceAdd,Nat.reduceSub,Nat.reduceMul,Int.reduceToNat,Int.reduceLE,Int.reduceLT,NA,Sp_node_row,Sp_node_sector,Sp_field_Put,Sp_field_Join,Sp_node_seal,hut,hrt,ru,rr,hd,tu,tr,lu,lr,hrl,hlt,wd_2n,putB_taken,putB_len,Y3r,List.flatten_cons,List.flatten_nil,mB_inj,mI_inj];(try (revert hK;intro hK;(repeat' first|(refine And.intro ?_ ?_)|(intro hc;first|cases hc|((try rw [hc]);(try simp only [stH] at hc);(try (exfalso;omega)))));all_goals first|(refine hK _ _ ?_;clear hK K;simp only [stU])|exact hK|omega)))
    (refine Ends.of (nm [(0,39)]) (by first|exact .inl rfl|exact .inr rfl) ?_;simp (disch:=omega) only [go_sem,Int.reduceEq,↓reduceIte,reduceCtorEq,Nat.reduceEqDiff,Nat.reduceLT,Nat.reduceLeDiff,Nat.reduceAdd,Nat.reduceSub,Nat.reduceMul,Int.reduceToNat,Int.reduceLE,Int.reduceLT,NA,Sp_node_row,Sp_node_sector,Sp_field_Put,Sp_field_Join,Sp_node_seal,hz,rootP])
  · have hz : packROut now u r = ⟨.tup [.nil,.d (.v (.bool false))],[]⟩:=if_neg hm
    have fy : ∀ l : List Int,allS l → rowOut l = ⟨.tup [.sl 0 1 0 (1 + 2 * l.length) true,.d (.v (.bool (decide (l.length ≤ 4))))],[(0,.row 5 1 ((rowB l).map mB))]⟩:=fun l h=>if_pos h
    have fn : ∀ l : List Int,¬ allS l → rowOut l = ⟨.tup [.nil,.d (.v (.bool false))],[]⟩:=fun l h=>if_neg h
    by_cases hau : allS u
    · have ru:=fy u hau
      by_cases hlu : u.length ≤ 4
      · have dl : decide (u.length ≤ 4) = true:=decide_eq_true hlu
        by_cases har : allS r
        · have rr:=fy r har
          by_cases hlr : r.length ≤ 4
          · have dr : decide (r.length ≤ 4) = true:=decide_eq_true hlr
            have hs : ¬ secN now:=fun h=>hm ⟨h,⟨hau,hlu⟩,⟨har,hlr⟩⟩
            have hd : decide (secN now) = false:=decide_eq_false hs
            clear hm hau har fy fn hs
            repeat' first
 | refine AW.seq ?_
 | refine AW.block ?_
 | refine AW.regl NA_ok [0,1,2,6,7,8,9,10,11,32] ?_
 | refine then_n ?_
 | refine then_r ?_
 | refine then_x ?_
 | refine block_x ?_
 | refine block_o (by decide) ?_
 | refine block_n ?_
 | refine block_r ?_
 | refine AW.skip ?_
 | refine AW.ret ?_
 | refine AW.exit ?_
 | refine AW.cond rfl ?_ ?_
 | refine awl_none rfl ?_
 | refine awl_nil2 ?_
 | refine awl_some rfl rfl (Nat.le_of_ble_eq_true rfl) rfl rfl ?_ ?_
 | (refine fun (hc : _ = _)=>?_;first|cases hc|((try rw [hc]);(try simp only [stH] at hc);(try (exfalso;omega)));(try (show Awl _ _ _ _ _;simp only [stU])))
 | ((first|refine fun (K : V → List _ → _) hK=>?_|refine fun (_ : V → V)=>?_);simp (disch:=omega) only [go_sem,Int.reduceEq,↓reduceIte,reduceCtorEq,Nat.reduceEqDiff,Nat.reduceLT,Nat.reduceLeDiff,Nat.reduceAdd,Nat.reduceSub,Nat.reduceMul,Int.reduceToNat,Int.reduceLE,Int.reduceLT,NA,Sp_node_row,Sp_node_sector,Sp_field_Put,Sp_field_Join,Sp_node_seal,hut,hrt,ru,rr,dl,dr,hd,mI_inj];(try (revert hK;intro hK;(repeat' first|(refine And.intro ?_ ?_)|(intro hc;first|cases hc|((try rw [hc]);(try simp only [stH] at hc);(try (exfalso;omega)))));all_goals first|(refine hK _ _ ?_;clear hK K;simp only [stU])|exact hK|omega)))
            (refine Ends.of (nm []) (by first|exact .inl rfl|exact .inr rfl) ?_;simp (disch:=omega) only [go_sem,Int.reduceEq,↓reduceIte,reduceCtorEq,Nat.reduceEqDiff,Nat.reduceLT,Nat.reduceLeDiff,Nat.reduceAdd,Nat.reduceSub,Nat.reduceMul,Int.reduceToNat,Int.reduceLE,Int.reduceLT,NA,Sp_node_row,Sp_node_sector,Sp_field_Put,Sp_field_Join,Sp_node_seal,hz])
          · have dr : decide (r.length ≤ 4) = false:=decide_eq_false hlr
            clear hm hau har fy fn
            repeat' first
 | refine AW.seq ?_
 | refine AW.block ?_
 | refine AW.regl NA_ok [0,1,2,6,7,8,9,10,11,32] ?_
 | refine then_n ?_
 | refine then_r ?_
 | refine then_x ?_
 | refine block_x ?_
 | refine block_o (by decide) ?_
 | refine block_n ?_
 | refine block_r ?_
 | refine AW.skip ?_
 | refine AW.ret ?_
 | refine AW.exit ?_
 | refine AW.cond rfl ?_ ?_
 | refine awl_none rfl ?_
 | refine awl_nil2 ?_
 | refine awl_some rfl rfl (Nat.le_of_ble_eq_true rfl) rfl rfl ?_ ?_
 | (refine fun (hc : _ = _)=>?_;first|cases hc|((try rw [hc]);(try simp only [stH] at hc);(try (exfalso;omega)));(try (show Awl _ _ _ _ _;simp only [stU])))
 | ((first|refine fun (K : V → List _ → _) hK=>?_|refine fun (_ : V → V)=>?_);simp (disch:=omega) only [go_sem,Int.reduceEq,↓reduceIte,reduceCtorEq,Nat.reduceEqDiff,Nat.reduceLT,Nat.reduceLeDiff,Nat.reduceAdd,Nat.reduceSub,Nat.reduceMul,Int.reduceToNat,Int.reduceLE,Int.reduceLT,NA,Sp_node_row,Sp_node_sector,Sp_field_Put,Sp_field_Join,Sp_node_seal,hut,hrt,ru,rr,dl,dr,mI_inj];(try (revert hK;intro hK;(repeat' first|(refine And.intro ?_ ?_)|(intro hc;first|cases hc|((try rw [hc]);(try simp only [stH] at hc);(try (exfalso;omega)))));all_goals first|(refine hK _ _ ?_;clear hK K;simp only [stU])|exact hK|omega)))
            (refine Ends.of (nm []) (by first|exact .inl rfl|exact .inr rfl) ?_;simp (disch:=omega) only [go_sem,Int.reduceEq,↓reduceIte,reduceCtorEq,Nat.reduceEqDiff,Nat.reduceLT,Nat.reduceLeDiff,Nat.reduceAdd,Nat.reduceSub,Nat.reduceMul,Int.reduceToNat,Int.reduceLE,Int.reduceLT,NA,Sp_node_row,Sp_node_sector,Sp_field_Put,Sp_field_Join,Sp_node_seal,hz])
        · have rr:=fn r har
          clear hm hau har fy fn
          repeat' first
 | refine AW.seq ?_
 | refine AW.block ?_
 | refine AW.regl NA_ok [0,1,2,6,7,8,9,10,11,32] ?_
 | refine then_n ?_
 | refine then_r ?_
 | refine then_x ?_
 | refine block_x ?_
 | refine block_o (by decide) ?_
 | refine block_n ?_
 | refine block_r ?_
 | refine AW.skip ?_
 | refine AW.ret ?_
 | refine AW.exit ?_
 | refine AW.cond rfl ?_ ?_
 | refine awl_none rfl ?_
 | refine awl_nil2 ?_
 | refine awl_some rfl rfl (Nat.le_of_ble_eq_true rfl) rfl rfl ?_ ?_
 | (refine fun (hc : _ = _)=>?_;first|cases hc|((try rw [hc]);(try simp only [stH] at hc);(try (exfalso;omega)));(try (show Awl _ _ _ _ _;simp only [stU])))
 | ((first|refine fun (K : V → List _ → _) hK=>?_|refine fun (_ : V → V)=>?_);simp (disch:=omega) only [go_sem,Int.reduceEq,↓reduceIte,reduceCtorEq,Nat.reduceEqDiff,Nat.reduceLT,Nat.reduceLeDiff,Nat.reduceAdd,Nat.reduceSub,Nat.reduceMul,Int.reduceToNat,Int.reduceLE,Int.reduceLT,NA,Sp_node_row,Sp_node_sector,Sp_field_Put,Sp_field_Join,Sp_node_seal,hut,hrt,ru,rr,dl,mI_inj];(try (revert hK;intro hK;(repeat' first|(refine And.intro ?_ ?_)|(intro hc;first|cases hc|((try rw [hc]);(try simp only [stH] at hc);(try (exfalso;omega)))));all_goals first|(refine hK _ _ ?_;clear hK K;simp only [stU])|exact hK|omega)))
          (refine Ends.of (nm []) (by first|exact .inl rfl|exact .inr rfl) ?_;simp (disch:=omega) only [go_sem,Int.reduceEq,↓reduceIte,reduceCtorEq,Nat.reduceEqDiff,Nat.reduceLT,Nat.reduceLeDiff,Nat.reduceAdd,Nat.reduceSub,Nat.reduceMul,Int.reduceToNat,Int.reduceLE,Int.reduceLT,NA,Sp_node_row,Sp_node_sector,Sp_field_Put,Sp_field_Join,Sp_node_seal,hz])
      · have dl : decide (u.length ≤ 4) = false:=decide_eq_false hlu
        by_cases har : allS r
        · have rr:=fy r har
          clear hm hau har fy fn
          repeat' first
 | refine AW.seq ?_
 | refine AW.block ?_
 | refine AW.regl NA_ok [0,1,2,6,7,8,9,10,11,32] ?_
 | refine then_n ?_
 | refine then_r ?_
 | refine then_x ?_
 | refine block_x ?_
 | refine block_o (by decide) ?_
 | refine block_n ?_
 | refine block_r ?_
 | refine AW.skip ?_
 | refine AW.ret ?_
 | refine AW.exit ?_
 | refine AW.cond rfl ?_ ?_
 | refine awl_none rfl ?_
 | refine awl_nil2 ?_
 | refine awl_some rfl rfl (Nat.le_of_ble_eq_true rfl) rfl rfl ?_ ?_
 | (refine fun (hc : _ = _)=>?_;first|cases hc|((try rw [hc]);(try simp only [stH] at hc);(try (exfalso;omega)));(try (show Awl _ _ _ _ _;simp only [stU])))
 | ((first|refine fun (K : V → List _ → _) hK=>?_|refine fun (_ : V → V)=>?_);simp (disch:=omega) only [go_sem,Int.reduceEq,↓reduceIte,reduceCtorEq,Nat.reduceEqDiff,Nat.reduceLT,Nat.reduceLeDiff,Nat.reduceAdd,Nat.reduceSub,Nat.reduceMul,Int.reduceToNat,Int.reduceLE,Int.reduceLT,NA,Sp_node_row,Sp_node_sector,Sp_field_Put,Sp_field_Join,Sp_node_seal,hut,hrt,ru,rr,dl,mI_inj];(try (revert hK;intro hK;(repeat' first|(refine And.intro ?_ ?_)|(intro hc;first|cases hc|((try rw [hc]);(try simp only [stH] at hc);(try (exfalso;omega)))));all_goals first|(refine hK _ _ ?_;clear hK K;simp only [stU])|exact hK|omega)))
          (refine Ends.of (nm []) (by first|exact .inl rfl|exact .inr rfl) ?_;simp (disch:=omega) only [go_sem,Int.reduceEq,↓reduceIte,reduceCtorEq,Nat.reduceEqDiff,Nat.reduceLT,Nat.reduceLeDiff,Nat.reduceAdd,Nat.reduceSub,Nat.reduceMul,Int.reduceToNat,Int.reduceLE,Int.reduceLT,NA,Sp_node_row,Sp_node_sector,Sp_field_Put,Sp_field_Join,Sp_node_seal,hz])
        · have rr:=fn r har
          clear hm hau har fy fn
          repeat' first
 | refine AW.seq ?_
 | refine AW.block ?_
 | refine AW.regl NA_ok [0,1,2,6,7,8,9,10,11,32] ?_
 | refine then_n ?_
 | refine then_r ?_
 | refine then_x ?_
 | refine block_x ?_
 | refine block_o (by decide) ?_
 | refine block_n ?_
 | refine block_r ?_
 | refine AW.skip ?_
 | refine AW.ret ?_
 | refine AW.exit ?_
 | refine AW.cond rfl ?_ ?_
 | refine awl_none rfl ?_
 | refine awl_nil2 ?_
 | refine awl_some rfl rfl (Nat.le_of_ble_eq_true rfl) rfl rfl ?_ ?_
 | (refine fun (hc : _ = _)=>?_;first|cases hc|((try rw [hc]);(try simp only [stH] at hc);(try (exfalso;omega)));(try (show Awl _ _ _ _ _;simp only [stU])))
 | ((first|refine fun (K : V → List _ → _) hK=>?_|refine fun (_ : V → V)=>?_);simp (disch:=omega) only [go_sem,Int.reduceEq,↓reduceIte,reduceCtorEq,Nat.reduceEqDiff,Nat.reduceLT,Nat.reduceLeDiff,Nat.reduceAdd,Nat.reduceSub,Nat.reduceMul,Int.reduceToNat,Int.reduceLE,Int.reduceLT,NA,Sp_node_row,Sp_node_sector,Sp_field_Put,Sp_field_Join,Sp_node_seal,hut,hrt,ru,rr,dl,mI_inj];(try (revert hK;intro hK;(repeat' first|(refine And.intro ?_ ?_)|(intro hc;first|cases hc|((try rw [hc]);(try simp only [stH] at hc);(try (exfalso;omega)))));all_goals first|(refine hK _ _ ?_;clear hK K;simp only [stU])|exact hK|omega)))
          (refine Ends.of (nm []) (by first|exact .inl rfl|exact .inr rfl) ?_;simp (disch:=omega) only [go_sem,Int.reduceEq,↓reduceIte,reduceCtorEq,Nat.reduceEqDiff,Nat.reduceLT,Nat.reduceLeDiff,Nat.reduceAdd,Nat.reduceSub,Nat.reduceMul,Int.reduceToNat,Int.reduceLE,Int.reduceLT,NA,Sp_node_row,Sp_node_sector,Sp_field_Put,Sp_field_Join,Sp_node_seal,hz])
    · have ru:=fn u hau
      by_cases har : allS r
      · have rr:=fy r har
        clear hm hau har fy fn
        repeat' first
 | refine AW.seq ?_
 | refine AW.block ?_
 | refine AW.regl NA_ok [0,1,2,6,7,8,9,10,11,32] ?_
 | refine then_n ?_
 | refine then_r ?_
 | refine then_x ?_
 | refine block_x ?_
 | refine block_o (by decide) ?_
 | refine block_n ?_
 | refine block_r ?_
 | refine AW.skip ?_
 | refine AW.ret ?_
 | refine AW.exit ?_
 | refine AW.cond rfl ?_ ?_
 | refine awl_none rfl ?_
 | refine awl_nil2 ?_
 | refine awl_some rfl rfl (Nat.le_of_ble_eq_true rfl) rfl rfl ?_ ?_
 | (refine fun (hc : _ = _)=>?_;first|cases hc|((try rw [hc]);(try simp only [stH] at hc);(try (exfalso;omega)));(try (show Awl _ _ _ _ _;simp only [stU])))
 | ((first|refine fun (K : V → List _ → _) hK=>?_|refine fun (_ : V → V)=>?_);simp (disch:=omega) only [go_sem,Int.reduceEq,↓reduceIte,reduceCtorEq,Nat.reduceEqDiff,Nat.reduceLT,Nat.reduceLeDiff,Nat.reduceAdd,Nat.reduceSub,Nat.reduceMul,Int.reduceToNat,Int.reduceLE,Int.reduceLT,NA,Sp_node_row,Sp_node_sector,Sp_field_Put,Sp_field_Join,Sp_node_seal,hut,hrt,ru,rr,mI_inj];(try (revert hK;intro hK;(repeat' first|(refine And.intro ?_ ?_)|(intro hc;first|cases hc|((try rw [hc]);(try simp only [stH] at hc);(try (exfalso;omega)))));all_goals first|(refine hK _ _ ?_;clear hK K;simp only [stU])|exact hK|omega)))
        (refine Ends.of (nm []) (by first|exact .inl rfl|exact .inr rfl) ?_;simp (disch:=omega) only [go_sem,Int.reduceEq,↓reduceIte,reduceCtorEq,Nat.reduceEqDiff,Nat.reduceLT,Nat.reduceLeDiff,Nat.reduceAdd,Nat.reduceSub,Nat.reduceMul,Int.reduceToNat,Int.reduceLE,Int.reduceLT,NA,Sp_node_row,Sp_node_sector,Sp_field_Put,Sp_field_Join,Sp_node_seal,hz])
      · have rr:=fn r har
        clear hm hau har fy fn
        repeat' first
 | refine AW.seq ?_
 | refine AW.block ?_
 | refine AW.regl NA_ok [0,1,2,6,7,8,9,10,11,32] ?_
 | refine then_n ?_
 | refine then_r ?_
 | refine then_x ?_
 | refine block_x ?_
 | refine block_o (by decide) ?_
 | refine block_n ?_
 | refine block_r ?_
 | refine AW.skip ?_
 | refine AW.ret ?_
 | refine AW.exit ?_
 | refine AW.cond rfl ?_ ?_
 | refine awl_none rfl ?_
 | refine awl_nil2 ?_
 | refine awl_some rfl rfl (Nat.le_of_ble_eq_true rfl) rfl rfl ?_ ?_
 | (refine fun (hc : _ = _)=>?_;first|cases hc|((try rw [hc]);(try simp only [stH] at hc);(try (exfalso;omega)));(try (show Awl _ _ _ _ _;simp only [stU])))
 | ((first|refine fun (K : V → List _ → _) hK=>?_|refine fun (_ : V → V)=>?_);simp (disch:=omega) only [go_sem,Int.reduceEq,↓reduceIte,reduceCtorEq,Nat.reduceEqDiff,Nat.reduceLT,Nat.reduceLeDiff,Nat.reduceAdd,Nat.reduceSub,Nat.reduceMul,Int.reduceToNat,Int.reduceLE,Int.reduceLT,NA,Sp_node_row,Sp_node_sector,Sp_field_Put,Sp_field_Join,Sp_node_seal,hut,hrt,ru,rr,mI_inj];(try (revert hK;intro hK;(repeat' first|(refine And.intro ?_ ?_)|(intro hc;first|cases hc|((try rw [hc]);(try simp only [stH] at hc);(try (exfalso;omega)))));all_goals first|(refine hK _ _ ?_;clear hK K;simp only [stU])|exact hK|omega)))
        (refine Ends.of (nm []) (by first|exact .inl rfl|exact .inr rfl) ?_;simp (disch:=omega) only [go_sem,Int.reduceEq,↓reduceIte,reduceCtorEq,Nat.reduceEqDiff,Nat.reduceLT,Nat.reduceLeDiff,Nat.reduceAdd,Nat.reduceSub,Nat.reduceMul,Int.reduceToNat,Int.reduceLE,Int.reduceLT,NA,Sp_node_row,Sp_node_sector,Sp_field_Put,Sp_field_Join,Sp_node_seal,hz])
theorem ent_node_PackRoot : Ent Try.prog 22:=⟨_,Try.func22,rfl,by decide⟩
end Go.Proofs.Ytigkcigoiinkpaa.Am
