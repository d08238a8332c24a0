import Derived.Test.YtigkcigoiinkpaaZN5
import Derived.Test.YtigkcigoiinkpaaZN7
import Derived.Test.YtigkcigoiinkpaaZN8
import Derived.Test.YtigkcigoiinkpaaZNR
set_option linter.unusedVariables false
set_option linter.unusedSimpArgs false
set_option maxRecDepth 10000
set_option maxHeartbeats 0
namespace Go.Proofs.Ytigkcigoiinkpaa.Am
open Go Go.RowKit Go.Proofs
open Classical in
noncomputable def kindN (b : List Int) : Int:=if leafOk b then 1 else if nodeOk b then 2 else if dirOk b then 3 else if rootOk b then 4 else 0
section
open Classical
variable {b : List Int}
theorem kindN_1 (h1 : leafOk b) : kindN b = 1:=if_pos h1
theorem kindN_2 (h1 : ¬ leafOk b) (h2 : nodeOk b) : kindN b = 2:=(if_neg h1).trans (if_pos h2)
theorem kindN_3 (h1 : ¬ leafOk b) (h2 : ¬ nodeOk b) (h3 : dirOk b) : kindN b = 3:=((if_neg h1).trans (if_neg h2)).trans (if_pos h3)
theorem kindN_4 (h1 : ¬ leafOk b) (h2 : ¬ nodeOk b) (h3 : ¬ dirOk b) (h4 : rootOk b) : kindN b = 4:=(((if_neg h1).trans (if_neg h2)).trans (if_neg h3)).trans (if_pos h4)
theorem kindN_0 (h1 : ¬ leafOk b) (h2 : ¬ nodeOk b) (h3 : ¬ dirOk b) (h4 : ¬ rootOk b) : kindN b = 0:=(((if_neg h1).trans (if_neg h2)).trans (if_neg h3)).trans (if_neg h4)
end
theorem sc_P (l : List Pa) : (∀ d ∈ l.map pD,Scal' d) = True:=by
  simp only [eq_iff_iff,iff_true];intro d hd;obtain ⟨e,_,rfl⟩:=List.mem_map.1 hd
  exact .agg _ fun x hx=>by
    simp only [List.mem_cons,List.not_mem_nil,or_false] at hx
    rcases hx with rfl|rfl <;> exact .v _
theorem sc_L (l : List Ln) : (∀ d ∈ l.map lD,Scal' d) = True:=by
  simp only [eq_iff_iff,iff_true];intro d hd;obtain ⟨e,_,rfl⟩:=List.mem_map.1 hd
  exact .agg _ fun x hx=>by
    simp only [List.mem_cons,List.not_mem_nil,or_false] at hx
    rcases hx with rfl|rfl|rfl <;> exact .v _
noncomputable def NK : Env:=⟨Try.prog,fun f ds out=>(f = 39 ∧ Sp_node_Leaf ds out) ∨ (f = 40 ∧ Sp_node_Node ds out) ∨ (f = 42 ∧ Sp_node_Dir ds out) ∨ (f = 43 ∧ Sp_node_Root ds out),Es,fun _=>false⟩
theorem NK_sp : ∀ f ds out,NK.Sp f ds out → Ent NK.P f ∧ Good NK.P f (fun a b=>a = ds ∧ b = out):=by
  rintro f ds out (⟨rfl,h⟩|⟨rfl,h⟩|⟨rfl,h⟩|⟨rfl,h⟩)
  · exact ⟨ent_node_Leaf,good_node_Leaf.one h⟩
  · exact ⟨ent_node_Node,good_node_Node.one h⟩
  · exact ⟨ent_node_Dir,good_node_Dir.one h⟩
  · exact ⟨ent_node_Root,good_node_Root.one h⟩
theorem NK_ok : NK.Ok:=⟨NK_sp,Es_ok⟩
def Sp_node_Kind (ds : List D) (out : Out) : Prop:=∃ b : List Int,ds = [.list (b.map mB)] ∧ Byt b ∧ b.length ≤ 9223372036854775807 ∧ out = ⟨.d (.v (.int .i64 (kindN b))),[]⟩
theorem good_node_Kind : Good Try.prog 45 Sp_node_Kind:=by
  refine good_body (E:=NK) (nt:=39) (rs:=#[.tmp 2]) Try.func45 rfl rfl rfl ?_
  rintro ds out ⟨b,rfl,hb,hl,rfl⟩
  refine ⟨by simp,?_⟩
  have hbt : Byt b = True:=eq_true hb
  have hta : (b.map mB).take b.length = b.map mB:=List.take_of_length_le (by simp)
  by_cases h1 : leafOk b
  · have e1 : leafOut b = _:=if_pos h1
    have hz:=kindN_1 h1
    clear h1
    repeat' first
 | refine AW.seq ?_
 | refine AW.block ?_
 | refine AW.regl NK_ok [0,2,4,6,8,12,18,24,30,38] ?_
 | refine then_n ?_
 | refine then_r ?_
 | refine then_x ?_
 | refine block_x ?_
 | refine block_o (by decide) ?_
 | refine block_n ?_
 | refine block_r ?_
 | refine AW.skip ?_
 | refine AW.ret ?_
 | refine AW.exit ?_
 | refine AW.cond rfl ?_ ?_
 | refine awl_none rfl ?_
 | refine awl_nil2 ?_
 | (refine fun (hc : _ = _)=>?_;first|cases hc|((try rw [hc]);(try simp only [stH] at hc);(try (exfalso;omega)));(try (show Awl _ _ _ _ _;simp only [stU])))
 | ((first|refine fun (K : V → List _ → _) hK=>?_|refine fun (_ : V → V)=>?_);simp (disch:=omega) only [go_sem,Int.reduceEq,↓reduceIte,reduceCtorEq,Nat.reduceEqDiff,Nat.reduceLT,Nat.reduceLeDiff,Nat.reduceAdd,Nat.reduceSub,Nat.reduceMul,Int.reduceToNat,Int.reduceLE,Int.reduceLT,NK,Sp_node_Leaf,Sp_node_Node,Sp_node_Dir,Sp_node_Root,hbt,hta,e1,sc_E,mB_inj];(try (revert hK;intro hK;(repeat' first|(refine And.intro ?_ ?_)|(intro hc;first|cases hc|((try rw [hc]);(try simp only [stH] at hc);(try (exfalso;omega)))));all_goals first|(refine hK _ _ ?_;clear hK K;simp only [stU])|exact hK|omega)))
    (refine Ends.of (nm []) (by first|exact .inl rfl|exact .inr rfl) ?_;simp (disch:=omega) only [go_sem,Int.reduceEq,↓reduceIte,reduceCtorEq,Nat.reduceEqDiff,Nat.reduceLT,Nat.reduceLeDiff,Nat.reduceAdd,Nat.reduceSub,Nat.reduceMul,Int.reduceToNat,Int.reduceLE,Int.reduceLT,NK,Sp_node_Leaf,Sp_node_Node,Sp_node_Dir,Sp_node_Root,hz])
  have e1 : leafOut b = ⟨.tup [.nil,.d (.v (.bool false))],[]⟩:=if_neg h1
  by_cases h2 : nodeOk b
  · have e2 : nodeOut b = _:=if_pos h2
    have hz:=kindN_2 h1 h2
    clear h1 h2
    repeat' first
 | refine AW.seq ?_
 | refine AW.block ?_
 | refine AW.regl NK_ok [0,2,4,6,8,12,18,24,30,38] ?_
 | refine then_n ?_
 | refine then_r ?_
 | refine then_x ?_
 | refine block_x ?_
 | refine block_o (by decide) ?_
 | refine block_n ?_
 | refine block_r ?_
 | refine AW.skip ?_
 | refine AW.ret ?_
 | refine AW.exit ?_
 | refine AW.cond rfl ?_ ?_
 | refine awl_none rfl ?_
 | refine awl_nil2 ?_
 | (refine fun (hc : _ = _)=>?_;first|cases hc|((try rw [hc]);(try simp only [stH] at hc);(try (exfalso;omega)));(try (show Awl _ _ _ _ _;simp only [stU])))
 | ((first|refine fun (K : V → List _ → _) hK=>?_|refine fun (_ : V → V)=>?_);simp (disch:=omega) only [go_sem,Int.reduceEq,↓reduceIte,reduceCtorEq,Nat.reduceEqDiff,Nat.reduceLT,Nat.reduceLeDiff,Nat.reduceAdd,Nat.reduceSub,Nat.reduceMul,Int.reduceToNat,Int.reduceLE,Int.reduceLT,NK,Sp_node_Leaf,Sp_node_Node,Sp_node_Dir,Sp_node_Root,hbt,hta,e1,e2,sc_P,mB_inj];(try (revert hK;intro hK;(repeat' first|(refine And.intro ?_ ?_)|(intro hc;first|cases hc|((try rw [hc]);(try simp only [stH] at hc);(try (exfalso;omega)))));all_goals first|(refine hK _ _ ?_;clear hK K;simp only [stU])|exact hK|omega)))
    (refine Ends.of (nm []) (by first|exact .inl rfl|exact .inr rfl) ?_;simp (disch:=omega) only [go_sem,Int.reduceEq,↓reduceIte,reduceCtorEq,Nat.reduceEqDiff,Nat.reduceLT,Nat.reduceLeDiff,Nat.reduceAdd,Nat.reduceSub,Nat.reduceMul,Int.reduceToNat,Int.reduceLE,Int.reduceLT,NK,Sp_node_Leaf,Sp_node_Node,Sp_node_Dir,Sp_node_Root,hz])
  have e2 : nodeOut b = ⟨.tup [.nil,.d (.v (.bool false))],[]⟩:=if_neg h2
  by_cases h3 : dirOk b
  · have e3 : dirOut b = _:=if_pos h3
    have hz:=kindN_3 h1 h2 h3
    clear h1 h2 h3
    repeat' first
 | refine AW.seq ?_
 | refine AW.block ?_
 | refine AW.regl NK_ok [0,2,4,6,8,12,18,24,30,38] ?_
 | refine then_n ?_
 | refine then_r ?_
 | refine then_x ?_
 | refine block_x ?_
 | refine block_o (by decide) ?_
 | refine block_n ?_
 | refine block_r ?_
 | refine AW.skip ?_
 | refine AW.ret ?_
 | refine AW.exit ?_
 | refine AW.cond rfl ?_ ?_
 | refine awl_none rfl ?_
 | refine awl_nil2 ?_
 | (refine fun (hc : _ = _)=>?_;first|cases hc|((try rw [hc]);(try simp only [stH] at hc);(try (exfalso;omega)));(try (show Awl _ _ _ _ _;simp only [stU])))
 | ((first|refine fun (K : V → List _ → _) hK=>?_|refine fun (_ : V → V)=>?_);simp (disch:=omega) only [go_sem,Int.reduceEq,↓reduceIte,reduceCtorEq,Nat.reduceEqDiff,Nat.reduceLT,Nat.reduceLeDiff,Nat.reduceAdd,Nat.reduceSub,Nat.reduceMul,Int.reduceToNat,Int.reduceLE,Int.reduceLT,NK,Sp_node_Leaf,Sp_node_Node,Sp_node_Dir,Sp_node_Root,hbt,hta,e1,e2,e3,sc_L,mB_inj];(try (revert hK;intro hK;(repeat' first|(refine And.intro ?_ ?_)|(intro hc;first|cases hc|((try rw [hc]);(try simp only [stH] at hc);(try (exfalso;omega)))));all_goals first|(refine hK _ _ ?_;clear hK K;simp only [stU])|exact hK|omega)))
    (refine Ends.of (nm []) (by first|exact .inl rfl|exact .inr rfl) ?_;simp (disch:=omega) only [go_sem,Int.reduceEq,↓reduceIte,reduceCtorEq,Nat.reduceEqDiff,Nat.reduceLT,Nat.reduceLeDiff,Nat.reduceAdd,Nat.reduceSub,Nat.reduceMul,Int.reduceToNat,Int.reduceLE,Int.reduceLT,NK,Sp_node_Leaf,Sp_node_Node,Sp_node_Dir,Sp_node_Root,hz])
  have e3 : dirOut b = ⟨.tup [.nil,.d (.v (.bool false))],[]⟩:=if_neg h3
  by_cases h4 : rootOk b
  · have e4 : rootOut b = _:=if_pos h4
    have hz:=kindN_4 h1 h2 h3 h4
    clear h1 h2 h3 h4
    repeat' first
 | refine AW.seq ?_
 | refine AW.block ?_
 | refine AW.regl NK_ok [0,2,4,6,8,12,18,24,30,38] ?_
 | refine then_n ?_
 | refine then_r ?_
 | refine then_x ?_
 | refine block_x ?_
 | refine block_o (by decide) ?_
 | refine block_n ?_
 | refine block_r ?_
 | refine AW.skip ?_
 | refine AW.ret ?_
 | refine AW.exit ?_
 | refine AW.cond rfl ?_ ?_
 | refine awl_none rfl ?_
 | refine awl_nil2 ?_
 | (refine fun (hc : _ = _)=>?_;first|cases hc|((try rw [hc]);(try simp only [stH] at hc);(try (exfalso;omega)));(try (show Awl _ _ _ _ _;simp only [stU])))
 | ((first|refine fun (K : V → List _ → _) hK=>?_|refine fun (_ : V → V)=>?_);simp (disch:=omega) only [go_sem,Int.reduceEq,↓reduceIte,reduceCtorEq,Nat.reduceEqDiff,Nat.reduceLT,Nat.reduceLeDiff,Nat.reduceAdd,Nat.reduceSub,Nat.reduceMul,Int.reduceToNat,Int.reduceLE,Int.reduceLT,NK,Sp_node_Leaf,Sp_node_Node,Sp_node_Dir,Sp_node_Root,hbt,hta,e1,e2,e3,e4,sc_I,mB_inj];(try (revert hK;intro hK;(repeat' first|(refine And.intro ?_ ?_)|(intro hc;first|cases hc|((try rw [hc]);(try simp only [stH] at hc);(try (exfalso;omega)))));all_goals first|(refine hK _ _ ?_;clear hK K;simp only [stU])|exact hK|omega)))
    (refine Ends.of (nm []) (by first|exact .inl rfl|exact .inr rfl) ?_;simp (disch:=omega) only [go_sem,Int.reduceEq,↓reduceIte,reduceCtorEq,Nat.reduceEqDiff,Nat.reduceLT,Nat.reduceLeDiff,Nat.reduceAdd,Nat.reduceSub,Nat.reduceMul,Int.reduceToNat,Int.reduceLE,Int.reduceLT,NK,Sp_node_Leaf,Sp_node_Node,Sp_node_Dir,Sp_node_Root,hz])
  have e4 : rootOut b = rootNo:=if_neg h4
  have hz:=kindN_0 h1 h2 h3 h4
  clear h1 h2 h3 h4
  repeat' first
 | refine AW.seq ?_
 | refine AW.block ?_
 | refine AW.regl NK_ok [0,2,4,6,8,12,18,24,30,38] ?_
 | refine then_n ?_
 | refine then_r ?_
 | refine then_x ?_
 | refine block_x ?_
 | refine block_o (by decide) ?_
 | refine block_n ?_
 | refine block_r ?_
 | refine AW.skip ?_
 | refine AW.ret ?_
 | refine AW.exit ?_
 | refine AW.cond rfl ?_ ?_
 | refine awl_none rfl ?_
 | refine awl_nil2 ?_
 | (refine fun (hc : _ = _)=>?_;first|cases hc|((try rw [hc]);(try simp only [stH] at hc);(try (exfalso;omega)));(try (show Awl _ _ _ _ _;simp only [stU])))
 | ((first|refine fun (K : V → List _ → _) hK=>?_|refine fun (_ : V → V)=>?_);simp (disch:=omega) only [go_sem,Int.reduceEq,↓reduceIte,reduceCtorEq,Nat.reduceEqDiff,Nat.reduceLT,Nat.reduceLeDiff,Nat.reduceAdd,Nat.reduceSub,Nat.reduceMul,Int.reduceToNat,Int.reduceLE,Int.reduceLT,NK,Sp_node_Leaf,Sp_node_Node,Sp_node_Dir,Sp_node_Root,hbt,hta,e1,e2,e3,e4,rootNo,mB_inj];(try (revert hK;intro hK;(repeat' first|(refine And.intro ?_ ?_)|(intro hc;first|cases hc|((try rw [hc]);(try simp only [stH] at hc);(try (exfalso;omega)))));all_goals first|(refine hK _ _ ?_;clear hK K;simp only [stU])|exact hK|omega)))
  (refine Ends.of (nm []) (by first|exact .inl rfl|exact .inr rfl) ?_;simp (disch:=omega) only [go_sem,Int.reduceEq,↓reduceIte,reduceCtorEq,Nat.reduceEqDiff,Nat.reduceLT,Nat.reduceLeDiff,Nat.reduceAdd,Nat.reduceSub,Nat.reduceMul,Int.reduceToNat,Int.reduceLE,Int.reduceLT,NK,Sp_node_Leaf,Sp_node_Node,Sp_node_Dir,Sp_node_Root,hz])
theorem ent_node_Kind : Ent Try.prog 45:=⟨_,Try.func45,rfl,by decide⟩
theorem sealL_openN (l : List Int) : isOpen (sealL l):=by
  refine ⟨sealL_len l,?_⟩
  have e : (sealL l).take 124 = padL l:=by unfold sealL;exact List.take_left' (padL_len l)
  rw [e]
  unfold sealL
  exact (List.drop_left' (padL_len l)).symm
theorem nodP_split {k n : Int} {it : List Int} (h : it.length ≤ 121) : ∃ S,nodP k n it = 160 :: k :: n :: ((it ++ List.replicate (121 - it.length) 0) ++ S):=by
  refine ⟨sumL (padL (nodL k n it)),?_⟩
  have e : padL (nodL k n it) = 160 :: k :: n :: (it ++ List.replicate (121 - it.length) 0):=by
    have hl:=nodL_len k n it
    unfold padL
    rw [show min (nodL k n it).length 124 = (nodL k n it).length by omega,List.take_length,List.drop_replicate,show 124 - (nodL k n it).length = 121 - it.length by omega]
    rfl
  unfold nodP sealL
  rw [e];rfl
theorem nodP_oH {k n : Int} {it : List Int} (h : it.length ≤ 121) (j : Int) : oH j (nodP k n it) ↔ j = k:=by
  obtain ⟨S,e⟩:=nodP_split (k:=k) (n:=n) h
  constructor
  · intro ho
    have:=ho.2.2
    rw [e] at this
    simpa using this.symm
  · rintro rfl
    refine ⟨sealL_openN _,?_,?_⟩ <;> (rw [e];rfl)
theorem nodP_nN {k n : Int} {it : List Int} (h : it.length ≤ 121) : nN (nodP k n it) = n:=by
  obtain ⟨S,e⟩:=nodP_split (k:=k) (n:=n) h
  unfold nN;rw [e];rfl
theorem nodP_nI {k n : Int} {it : List Int} (h : it.length ≤ 121) : nI (nodP k n it) = it ++ List.replicate (121 - it.length) 0:=by
  obtain ⟨S,e⟩:=nodP_split (k:=k) (n:=n) h
  have hl : (it ++ List.replicate (121 - it.length) (0 : Int)).length = 121:=by simp;omega
  unfold nI
  rw [e,show (124 : Nat) = 121 + 1 + 1 + 1 from rfl,List.take_succ_cons,List.take_succ_cons,List.take_succ_cons,List.drop_succ_cons,List.drop_succ_cons,List.drop_succ_cons,List.drop_zero]
  exact List.take_left' hl
theorem putB2n {n : Int} (h0 : 0 ≤ n) (h1 : n < 65536) : leV (putB (max 0 n) 2) = n:=by
  rw [putB_leB,show max 0 n = n by omega]
  exact leV_leB_small h0 h1
theorem putB1n {n : Int} (h0 : 0 ≤ n) (h1 : n < 256) : leV (putB (max 0 n) 1) = n:=by
  rw [putB_leB,show max 0 n = n by omega]
  exact leV_leB_small h0 h1
theorem takeD_back : ∀ (l : List Ln) (R : List Int),(∀ p ∈ l,(0 ≤ p.a ∧ p.a < 256) ∧ (0 ≤ p.b ∧ p.b < 65536) ∧ (0 ≤ p.c ∧ p.c < 65536)) → takeD (lsB l ++ R) l.length = l
  | [],_,_=>rfl
  | p :: r,R,h=>by
    obtain ⟨⟨a0,a1⟩,⟨b0,b1⟩,⟨c0,c1⟩⟩:=h p (List.mem_cons_self ..)
    have e : lsB (p :: r) ++ R = putB (max 0 p.a) 1 ++ (putB (max 0 p.b) 2 ++ (putB (max 0 p.c) 2 ++ (lsB r ++ R))):=by
      have : lsB (p :: r) = itL p ++ lsB r:=rfl
      rw [this];unfold itL;simp only [List.append_assoc]
    have l1 : ∀ n : Int,(putB n 1).length = 1:=fun n=>putB_len n 1
    have l2 : ∀ n : Int,(putB n 2).length = 2:=fun n=>putB_len n 2
    have d1 : ∀ (x : Int) (t : List Int),(putB x 1 ++ t).drop 1 = t:=fun x t=>List.drop_left' (l1 x)
    have d2 : ∀ (x : Int) (t : List Int),(putB x 2 ++ t).drop 2 = t:=fun x t=>List.drop_left' (l2 x)
    have t1 : ∀ (x : Int) (t : List Int),(putB x 1 ++ t).take 1 = putB x 1:=fun x t=>List.take_left' (l1 x)
    have t2 : ∀ (x : Int) (t : List Int),(putB x 2 ++ t).take 2 = putB x 2:=fun x t=>List.take_left' (l2 x)
    rw [List.length_cons,takeD,e]
    have e3 : (putB (max 0 p.a) 1 ++ (putB (max 0 p.b) 2 ++ (putB (max 0 p.c) 2 ++ (lsB r ++ R)))).drop 3 = putB (max 0 p.c) 2 ++ (lsB r ++ R):=by rw [show 3 = 1 + 2 from rfl,← List.drop_drop,d1,d2]
    have e5 : (putB (max 0 p.a) 1 ++ (putB (max 0 p.b) 2 ++ (putB (max 0 p.c) 2 ++ (lsB r ++ R)))).drop 5 = lsB r ++ R:=by rw [show 5 = 3 + 2 from rfl,← List.drop_drop,e3,d2]
    rw [e3,e5,d1,t1,t2,t2,putB1n a0 a1,putB2n b0 b1,putB2n c0 c1,takeD_back r R fun q hq=>h q (List.mem_cons_of_mem _ hq)]
theorem mayD_rng {l : List Ln} (h : mayD l) : ∀ p ∈ l,(0 ≤ p.a ∧ p.a < 256) ∧ (0 ≤ p.b ∧ p.b < 65536) ∧ (0 ≤ p.c ∧ p.c < 65536):=fun p hp=>by
  obtain ⟨i,hi,rfl⟩:=List.mem_iff_getElem.1 hp
  obtain ⟨h1,h2,_,h4,h5,h6,_⟩:=h.2 i hi
  rw [List.getD_eq_getElem?_getD,List.getElem?_eq_getElem hi] at h1 h2 h4 h5 h6
  dsimp only [Option.getD_some] at h1 h2 h4 h5 h6
  by_cases hc : l[i].c = 0
  · omega
  · have:=h6 hc
    unfold secN at this
    omega
def dirP (l : List Ln) : List Int:=nodP 3 l.length (lsB l)
theorem dir_back {l : List Ln} (h : mayD l) : dirOk (dirP l) ∧ dE (dirP l) = l:=by
  have hl : (lsB l).length ≤ 121:=by rw [lsB_len];have:=h.1;omega
  have e : dE (dirP l) = l:=by
    unfold dE dirP
    rw [nodP_nN hl,nodP_nI hl,Int.toNat_natCast]
    exact takeD_back l _ (mayD_rng h)
  refine ⟨⟨(nodP_oH hl 3).2 rfl,?_,by rw [e];exact h,by rw [e];rfl⟩,e⟩
  unfold dirP
  rw [nodP_nN hl];have:=h.1;omega
theorem kind_dir {l : List Ln} (h : mayD l) : kindN (dirP l) = 3:=by
  have hl : (lsB l).length ≤ 121:=by rw [lsB_len];have:=h.1;omega
  exact kindN_3 (fun k=>by have:=(nodP_oH hl 1).1 k.1;omega) (fun k=>by have:=(nodP_oH hl 2).1 k.1;omega) (dir_back h).1
noncomputable def NW : Env:=⟨Try.prog,fun f ds out=>(f = 13 ∧ Sp_node_PackDir ds out) ∨ (f = 45 ∧ Sp_node_Kind ds out),Es,fun _=>false⟩
theorem NW_sp : ∀ f ds out,NW.Sp f ds out → Ent NW.P f ∧ Good NW.P f (fun a b=>a = ds ∧ b = out):=by
  rintro f ds out (⟨rfl,h⟩|⟨rfl,h⟩)
  · exact ⟨ent_node_PackDir,good_node_PackDir.one h⟩
  · exact ⟨ent_node_Kind,good_node_Kind.one h⟩
theorem NW_ok : NW.Ok:=⟨NW_sp,Es_ok⟩
theorem nil_L (l : List Ln) : (([] : List D) = l.map lD) = (l = []):=by
  cases l with
  | nil=>simp
  | cons a r=>simp
def Sp_overdublaw20_wakes (ds : List D) (out : Out) : Prop:=ds = [] ∧ out = ⟨.d (.v (.bool true)),[]⟩
theorem good_overdublaw20_wakes : Good Try.prog 17 Sp_overdublaw20_wakes:=by
  refine good_body (E:=NW) (nt:=18) (rs:=#[.tmp 0]) Try.func17 rfl rfl rfl ?_
  rintro ds out ⟨rfl,rfl⟩
  refine ⟨by simp,?_⟩
  have hm : mayD []:=⟨by simp,fun i hi=>by simp at hi⟩
  have hp : packDOut [] = ⟨.tup [.sl 0 1 0 128 true,.d (.v (.bool true))],[(0,.row 5 1 ((dirP []).map mB))]⟩:=if_pos hm
  have hk:=kind_dir hm
  have hb : Byt (dirP []) = True:=eq_true (nodP_byt (by omega) (by simp) (lsB_byt []))
  have hl : (dirP []).length = 128:=nodP_len _ _ _
  have ht : ((dirP []).map mB).take 128 = (dirP []).map mB:=List.take_of_length_le (by rw [List.length_map,hl];omega)
  generalize dirP [] = P at *
  repeat' first
 | refine AW.seq ?_
 | refine AW.block ?_
 | refine AW.regl NW_ok [0,1,2] ?_
 | refine then_n ?_
 | refine then_r ?_
 | refine then_x ?_
 | refine block_x ?_
 | refine block_o (by decide) ?_
 | refine block_n ?_
 | refine block_r ?_
 | refine AW.skip ?_
 | refine AW.ret ?_
 | refine AW.exit ?_
 | refine AW.cond rfl ?_ ?_
 | refine awl_none rfl ?_
 | refine awl_nil2 ?_
 | refine awl_some rfl rfl (Nat.le_of_ble_eq_true rfl) rfl rfl ?_ ?_
 | (refine fun (hc : _ = _)=>?_;first|cases hc|((try rw [hc]);(try simp only [stH] at hc);(try (exfalso;omega)));(try (show Awl _ _ _ _ _;simp only [stU])))
 | ((first|refine fun (K : V → List _ → _) hK=>?_|refine fun (_ : V → V)=>?_);simp (disch:=omega) only [go_sem,Int.reduceEq,↓reduceIte,reduceCtorEq,Nat.reduceEqDiff,Nat.reduceLT,Nat.reduceLeDiff,Nat.reduceAdd,Nat.reduceSub,Nat.reduceMul,Int.reduceToNat,Int.reduceLE,Int.reduceLT,NW,Sp_node_PackDir,Sp_node_Kind,nil_L,hp,hk,hb,hl,ht,mB_inj];(try (revert hK;intro hK;(repeat' first|(refine And.intro ?_ ?_)|(intro hc;first|cases hc|((try rw [hc]);(try simp only [stH] at hc);(try (exfalso;omega)))));all_goals first|(refine hK _ _ ?_;clear hK K;simp only [stU])|exact hK|omega)))
  (refine Ends.of (nm []) (by first|exact .inl rfl|exact .inr rfl) ?_;simp (disch:=omega) only [go_sem,Int.reduceEq,↓reduceIte,reduceCtorEq,Nat.reduceEqDiff,Nat.reduceLT,Nat.reduceLeDiff,Nat.reduceAdd,Nat.reduceSub,Nat.reduceMul,Int.reduceToNat,Int.reduceLE,Int.reduceLT,NW,Sp_node_PackDir,Sp_node_Kind])
theorem ent_overdublaw20_wakes : Ent Try.prog 17:=⟨_,Try.func17,rfl,by decide⟩
end Go.Proofs.Ytigkcigoiinkpaa.Am
