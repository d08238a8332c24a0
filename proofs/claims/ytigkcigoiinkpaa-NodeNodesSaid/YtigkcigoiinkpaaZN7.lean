import Derived.Test.YtigkcigoiinkpaaZN6
import Derived.Test.YtigkcigoiinkpaaZGA
import Derived.Test.YtigkcigoiinkpaaZHA
set_option linter.unusedVariables false
set_option linter.unusedSimpArgs false
set_option maxRecDepth 10000
set_option maxHeartbeats 0
namespace Go.Proofs.Ytigkcigoiinkpaa.Am
open Go Go.RowKit Go.Proofs
def fE (b : List Int) : List Xt:=takeE ((nI b).take (7 * (nN b).toNat)) (nN b).toNat
def leafOk (b : List Int) : Prop:=oH 1 b ∧ nN b ≤ 8 ∧ mayF (fE b) ∧ nodP 1 (fE b).length (exsB (fE b)) = b
open Classical in
noncomputable def leafOut (b : List Int) : Out:=if leafOk b then ⟨.tup [.sl 0 5 0 (fE b).length true,.d (.v (.bool true))],[(0,.row 42 5 ((fE b).map eD))]⟩ else ⟨.tup [.nil,.d (.v (.bool false))],[]⟩
theorem nI_rowF {b : List Int} (h : b.length = 128) : (((b.take 124).map mB).drop 3).take 121 = (nI b).map mB:=by
  unfold nI
  rw [← List.map_drop,← List.map_take,List.take_of_length_le (by rw [List.length_drop,List.length_take];omega)]
theorem exsB_bytF (l : List Xt) : Byt (exsB l):=by
  intro x hx
  unfold exsB at hx
  obtain ⟨m,hm,hx⟩:=List.mem_flatten.1 hx
  obtain ⟨e,_,rfl⟩:=List.mem_map.1 hm
  unfold exB at hx
  exact (byt_append (leB_byt _ _) (byt_append (leB_byt _ _) (byt_append (leB_byt _ _) (byt_append (leB_byt _ _) (leB_byt _ _))))) x hx
noncomputable def N7 : Env:=⟨Try.prog,fun f ds out=>(f = 66 ∧ Sp_node_open ds out) ∨ (f = 67 ∧ Sp_record_TakeExtents ds out) ∨ (f = 18 ∧ Sp_node_PackLeaf ds out) ∨ (f = 68 ∧ Sp_bytes_Equal ds out),Es,fun _=>false⟩
theorem N7_sp : ∀ f ds out,N7.Sp f ds out → Ent N7.P f ∧ Good N7.P f (fun a b=>a = ds ∧ b = out):=by
  rintro f ds out (⟨rfl,h⟩|⟨rfl,h⟩|⟨rfl,h⟩|⟨rfl,h⟩)
  · exact ⟨ent_node_open,good_node_open.one h⟩
  · exact ⟨ent_record_TakeExtents,good_record_TakeExtents.one h⟩
  · exact ⟨ent_node_PackLeaf,good_node_PackLeaf.one h⟩
  · exact ⟨ent_bytes_Equal,good_bytes_Equal.one h⟩
theorem N7_ok : N7.Ok:=⟨N7_sp,Es_ok⟩
def Sp_node_Leaf (ds : List D) (out : Out) : Prop:=∃ b : List Int,ds = [.list (b.map mB)] ∧ Byt b ∧ b.length ≤ 9223372036854775807 ∧ out = leafOut b
theorem good_node_Leaf : Good Try.prog 39 Sp_node_Leaf:=by
  refine good_body (E:=N7) (nt:=46) (rs:=#[.tmp 2,.tmp 3]) Try.func39 rfl rfl rfl ?_
  rintro ds out ⟨b,rfl,hb,hl,rfl⟩
  refine ⟨by simp,?_⟩
  have hbt : Byt b = True:=eq_true hb
  by_cases ho : oH 1 b
  case neg =>
    have hop : opnOut 1 b = ⟨.tup [.nil,.d (.v (.int .i64 0)),.d (.v (.bool false))],[]⟩:=if_neg ho
    have hz : leafOut b = ⟨.tup [.nil,.d (.v (.bool false))],[]⟩:=if_neg fun h=>ho h.1
    repeat' first
 | refine AW.seq ?_
 | refine AW.block ?_
 | refine AW.regl N7_ok [0,2,3,4,5,6,7,9,10,22,44] ?_
 | refine then_n ?_
 | refine then_r ?_
 | refine then_x ?_
 | refine block_x ?_
 | refine block_o (by decide) ?_
 | refine block_n ?_
 | refine block_r ?_
 | refine AW.skip ?_
 | refine AW.ret ?_
 | refine AW.exit ?_
 | refine AW.cond rfl ?_ ?_
 | refine awl_none rfl ?_
 | refine awl_nil2 ?_
 | refine awl_some rfl rfl (Nat.le_of_ble_eq_true rfl) rfl rfl ?_ ?_
 | (refine fun (hc : _ = _)=>?_;first|cases hc|((try rw [hc]);(try simp only [stH] at hc);(try (exfalso;omega)));(try (show Awl _ _ _ _ _;simp only [stU])))
 | ((first|refine fun (K : V → List _ → _) hK=>?_|refine fun (_ : V → V)=>?_);simp (disch:=omega) only [go_sem,Int.reduceEq,↓reduceIte,reduceCtorEq,Nat.reduceEqDiff,Nat.reduceLT,Nat.reduceLeDiff,Nat.reduceAdd,Nat.reduceSub,Nat.reduceMul,Int.reduceToNat,Int.reduceLE,Int.reduceLT,N7,Sp_node_open,Sp_record_TakeExtents,Sp_node_PackLeaf,Sp_bytes_Equal,hbt,hop,mB_inj];(try (revert hK;intro hK;(repeat' first|(refine And.intro ?_ ?_)|(intro hc;first|cases hc|((try rw [hc]);(try simp only [stH] at hc);(try (exfalso;omega)))));all_goals first|(refine hK _ _ ?_;clear hK K;simp only [stU])|exact hK|omega)))
    (refine Ends.of (nm []) (by first|exact .inl rfl|exact .inr rfl) ?_;simp (disch:=omega) only [go_sem,Int.reduceEq,↓reduceIte,reduceCtorEq,Nat.reduceEqDiff,Nat.reduceLT,Nat.reduceLeDiff,Nat.reduceAdd,Nat.reduceSub,Nat.reduceMul,Int.reduceToNat,Int.reduceLE,Int.reduceLT,N7,Sp_node_open,Sp_record_TakeExtents,Sp_node_PackLeaf,Sp_bytes_Equal,hz])
  have hop : opnOut 1 b = ⟨.tup [.sl 0 1 3 121 false,.d (.v (.int .i64 (nN b))),.d (.v (.bool true))],[(0,.row 5 1 ((b.take 124).map mB))]⟩:=if_pos ho
  have h8:=ho.1.1
  have r2 : 0 ≤ nN b ∧ nN b < 256:=getD_byt hb 2
  by_cases h8n : nN b ≤ 8
  case neg =>
    have hz : leafOut b = ⟨.tup [.nil,.d (.v (.bool false))],[]⟩:=if_neg fun h=>h8n h.2.1
    repeat' first
 | refine AW.seq ?_
 | refine AW.block ?_
 | refine AW.regl N7_ok [0,2,3,4,5,6,7,9,10,22,44] ?_
 | refine then_n ?_
 | refine then_r ?_
 | refine then_x ?_
 | refine block_x ?_
 | refine block_o (by decide) ?_
 | refine block_n ?_
 | refine block_r ?_
 | refine AW.skip ?_
 | refine AW.ret ?_
 | refine AW.exit ?_
 | refine AW.cond rfl ?_ ?_
 | refine awl_none rfl ?_
 | refine awl_nil2 ?_
 | refine awl_some rfl rfl (Nat.le_of_ble_eq_true rfl) rfl rfl ?_ ?_
 | (refine fun (hc : _ = _)=>?_;first|cases hc|((try rw [hc]);(try simp only [stH] at hc);(try (exfalso;omega)));(try (show Awl _ _ _ _ _;simp only [stU])))
 | ((first|refine fun (K : V → List _ → _) hK=>?_|refine fun (_ : V → V)=>?_);simp (disch:=omega) only [go_sem,Int.reduceEq,↓reduceIte,reduceCtorEq,Nat.reduceEqDiff,Nat.reduceLT,Nat.reduceLeDiff,Nat.reduceAdd,Nat.reduceSub,Nat.reduceMul,Int.reduceToNat,Int.reduceLE,Int.reduceLT,N7,Sp_node_open,Sp_record_TakeExtents,Sp_node_PackLeaf,Sp_bytes_Equal,hbt,hop,mB_inj];(try (revert hK;intro hK;(repeat' first|(refine And.intro ?_ ?_)|(intro hc;first|cases hc|((try rw [hc]);(try simp only [stH] at hc);(try (exfalso;omega)))));all_goals first|(refine hK _ _ ?_;clear hK K;simp only [stU])|exact hK|omega)))
    (refine Ends.of (nm []) (by first|exact .inl rfl|exact .inr rfl) ?_;simp (disch:=omega) only [go_sem,Int.reduceEq,↓reduceIte,reduceCtorEq,Nat.reduceEqDiff,Nat.reduceLT,Nat.reduceLeDiff,Nat.reduceAdd,Nat.reduceSub,Nat.reduceMul,Int.reduceToNat,Int.reduceLE,Int.reduceLT,N7,Sp_node_open,Sp_record_TakeExtents,Sp_node_PackLeaf,Sp_bytes_Equal,hz])
  obtain ⟨n,hn⟩ : ∃ n : Nat,nN b = n:=⟨(nN b).toNat,by omega⟩
  have hlt : (b.take 124).length = 124:=by rw [List.length_take];omega
  have hfE : fE b = takeE ((nI b).take (7 * n)) n:=by unfold fE;rw [hn];rfl
  have hnb:=byt_take (nI_byt hb) (7 * n)
  have hny : Byt ((nI b).take (7 * n)) = True:=eq_true hnb
  have hn8 : n ≤ 8:=by omega
  have hnl : ((nI b).take (7 * n)).length = 7 * n:=by rw [List.length_take,nI_len h8];omega
  have hrow : (((b.take 124).map mB).drop 3).take (7 * (n : Int)).toNat = ((nI b).take (7 * n)).map mB:=by
    have h1:=congrArg (List.take (7 * n)) (nI_rowF h8)
    rw [List.take_take,show min (7 * n) 121 = 7 * n by omega] at h1
    rw [show (7 * (n : Int)).toNat = 7 * n by omega,h1,List.map_take]
  have htx : texOut ((nI b).take (7 * n)) n = ⟨.tup [.sl 0 5 0 (fE b).length true,.d (.v (.bool true))],[(0,.row 42 5 ((fE b).map eD))]⟩:=by
    rw [texOut,if_neg (by rw [hnl];omega),Int.toNat_natCast,← hfE]
  have hf8 : (fE b).length = n:=by rw [hfE,takeE_length]
  have hft : ((fE b).map eD).take (fE b).length = (fE b).map eD:=List.take_of_length_le (by simp)
  have hok : leafOk b ↔ mayF (fE b) ∧ nodP 1 (fE b).length (exsB (fE b)) = b:=⟨fun h=>h.2.2,fun h=>⟨ho,h8n,h⟩⟩
  have hyes : leafOk b → leafOut b = ⟨.tup [.sl 0 5 0 (fE b).length true,.d (.v (.bool true))],[(0,.row 42 5 ((fE b).map eD))]⟩:=fun h=>if_pos h
  have hno : ¬ leafOk b → leafOut b = ⟨.tup [.nil,.d (.v (.bool false))],[]⟩:=fun h=>if_neg h
  rw [hn] at hop h8n r2
  clear hfE ho
  generalize fE b = F at *
  by_cases hm : mayF F
  case neg =>
    have hz:=hno fun h=>hm (hok.1 h).1
    have hp : packFOut F = ⟨.tup [.nil,.d (.v (.bool false))],[]⟩:=if_neg hm
    clear hm hok hyes hno
    repeat' first
 | refine AW.seq ?_
 | refine AW.block ?_
 | refine AW.regl N7_ok [0,2,3,4,5,6,7,9,10,22,44] ?_
 | refine then_n ?_
 | refine then_r ?_
 | refine then_x ?_
 | refine block_x ?_
 | refine block_o (by decide) ?_
 | refine block_n ?_
 | refine block_r ?_
 | refine AW.skip ?_
 | refine AW.ret ?_
 | refine AW.exit ?_
 | refine AW.cond rfl ?_ ?_
 | refine awl_none rfl ?_
 | refine awl_nil2 ?_
 | refine awl_some rfl rfl (Nat.le_of_ble_eq_true rfl) rfl rfl ?_ ?_
 | (refine fun (hc : _ = _)=>?_;first|cases hc|((try rw [hc]);(try simp only [stH] at hc);(try (exfalso;omega)));(try (show Awl _ _ _ _ _;simp only [stU])))
 | ((first|refine fun (K : V → List _ → _) hK=>?_|refine fun (_ : V → V)=>?_);simp (disch:=omega) only [go_sem,Int.reduceEq,↓reduceIte,reduceCtorEq,Nat.reduceEqDiff,Nat.reduceLT,Nat.reduceLeDiff,Nat.reduceAdd,Nat.reduceSub,Nat.reduceMul,Int.reduceToNat,Int.reduceLE,Int.reduceLT,N7,Sp_node_open,Sp_record_TakeExtents,Sp_node_PackLeaf,Sp_bytes_Equal,hbt,hop,hlt,hrow,hny,hnl,htx,hft,hp,sc_E,mB_inj,eD_inj];(try (revert hK;intro hK;(repeat' first|(refine And.intro ?_ ?_)|(intro hc;first|cases hc|((try rw [hc]);(try simp only [stH] at hc);(try (exfalso;omega)))));all_goals first|(refine hK _ _ ?_;clear hK K;simp only [stU])|exact hK|omega)))
    (refine Ends.of (nm []) (by first|exact .inl rfl|exact .inr rfl) ?_;simp (disch:=omega) only [go_sem,Int.reduceEq,↓reduceIte,reduceCtorEq,Nat.reduceEqDiff,Nat.reduceLT,Nat.reduceLeDiff,Nat.reduceAdd,Nat.reduceSub,Nat.reduceMul,Int.reduceToNat,Int.reduceLE,Int.reduceLT,N7,Sp_node_open,Sp_record_TakeExtents,Sp_node_PackLeaf,Sp_bytes_Equal,hz])
  obtain ⟨P,eP⟩ : ∃ P,nodP 1 F.length (exsB F) = P:=⟨_,rfl⟩
  have hp : packFOut F = ⟨.tup [.sl 0 1 0 128 true,.d (.v (.bool true))],[(0,.row 5 1 (P.map mB))]⟩:=by rw [packFOut,if_pos hm,eP]
  have hpb : Byt P = True:=eq_true (eP ▸ nodP_byt (by omega) (by omega) (exsB_bytF F))
  have hpl : P.length = 128:=eP ▸ nodP_len _ _ _
  have hpt : (P.map mB).take 128 = P.map mB:=List.take_of_length_le (by rw [List.length_map,hpl];omega)
  by_cases he : P = b
  · have hz:=hyes (hok.2 ⟨hm,eP.trans he⟩)
    have hd : decide (P = b) = true:=decide_eq_true he
    clear hm he eP hok hyes hno
    repeat' first
 | refine AW.seq ?_
 | refine AW.block ?_
 | refine AW.regl N7_ok [0,2,3,4,5,6,7,9,10,22,44] ?_
 | refine then_n ?_
 | refine then_r ?_
 | refine then_x ?_
 | refine block_x ?_
 | refine block_o (by decide) ?_
 | refine block_n ?_
 | refine block_r ?_
 | refine AW.skip ?_
 | refine AW.ret ?_
 | refine AW.exit ?_
 | refine AW.cond rfl ?_ ?_
 | refine awl_none rfl ?_
 | refine awl_nil2 ?_
 | refine awl_some rfl rfl (Nat.le_of_ble_eq_true rfl) rfl rfl ?_ ?_
 | (refine fun (hc : _ = _)=>?_;first|cases hc|((try rw [hc]);(try simp only [stH] at hc);(try (exfalso;omega)));(try (show Awl _ _ _ _ _;simp only [stU])))
 | ((first|refine fun (K : V → List _ → _) hK=>?_|refine fun (_ : V → V)=>?_);simp (disch:=omega) only [go_sem,Int.reduceEq,↓reduceIte,reduceCtorEq,Nat.reduceEqDiff,Nat.reduceLT,Nat.reduceLeDiff,Nat.reduceAdd,Nat.reduceSub,Nat.reduceMul,Int.reduceToNat,Int.reduceLE,Int.reduceLT,N7,Sp_node_open,Sp_record_TakeExtents,Sp_node_PackLeaf,Sp_bytes_Equal,hbt,hop,hlt,hrow,hny,hnl,htx,hft,hp,hpb,hpl,hpt,hd,sc_E,mB_inj,eD_inj];(try (revert hK;intro hK;(repeat' first|(refine And.intro ?_ ?_)|(intro hc;first|cases hc|((try rw [hc]);(try simp only [stH] at hc);(try (exfalso;omega)))));all_goals first|(refine hK _ _ ?_;clear hK K;simp only [stU])|exact hK|omega)))
    (refine Ends.of (nm [(0,29)]) (by first|exact .inl rfl|exact .inr rfl) ?_;simp (disch:=omega) only [go_sem,Int.reduceEq,↓reduceIte,reduceCtorEq,Nat.reduceEqDiff,Nat.reduceLT,Nat.reduceLeDiff,Nat.reduceAdd,Nat.reduceSub,Nat.reduceMul,Int.reduceToNat,Int.reduceLE,Int.reduceLT,N7,Sp_node_open,Sp_record_TakeExtents,Sp_node_PackLeaf,Sp_bytes_Equal,hz])
  · have hz:=hno fun h=>he (eP.symm.trans (hok.1 h).2)
    have hd : decide (P = b) = false:=decide_eq_false he
    clear hm he eP hok hyes hno
    repeat' first
 | refine AW.seq ?_
 | refine AW.block ?_
 | refine AW.regl N7_ok [0,2,3,4,5,6,7,9,10,22,44] ?_
 | refine then_n ?_
 | refine then_r ?_
 | refine then_x ?_
 | refine block_x ?_
 | refine block_o (by decide) ?_
 | refine block_n ?_
 | refine block_r ?_
 | refine AW.skip ?_
 | refine AW.ret ?_
 | refine AW.exit ?_
 | refine AW.cond rfl ?_ ?_
 | refine awl_none rfl ?_
 | refine awl_nil2 ?_
 | refine awl_some rfl rfl (Nat.le_of_ble_eq_true rfl) rfl rfl ?_ ?_
 | (refine fun (hc : _ = _)=>?_;first|cases hc|((try rw [hc]);(try simp only [stH] at hc);(try (exfalso;omega)));(try (show Awl _ _ _ _ _;simp only [stU])))
 | ((first|refine fun (K : V → List _ → _) hK=>?_|refine fun (_ : V → V)=>?_);simp (disch:=omega) only [go_sem,Int.reduceEq,↓reduceIte,reduceCtorEq,Nat.reduceEqDiff,Nat.reduceLT,Nat.reduceLeDiff,Nat.reduceAdd,Nat.reduceSub,Nat.reduceMul,Int.reduceToNat,Int.reduceLE,Int.reduceLT,N7,Sp_node_open,Sp_record_TakeExtents,Sp_node_PackLeaf,Sp_bytes_Equal,hbt,hop,hlt,hrow,hny,hnl,htx,hft,hp,hpb,hpl,hpt,hd,sc_E,mB_inj,eD_inj];(try (revert hK;intro hK;(repeat' first|(refine And.intro ?_ ?_)|(intro hc;first|cases hc|((try rw [hc]);(try simp only [stH] at hc);(try (exfalso;omega)))));all_goals first|(refine hK _ _ ?_;clear hK K;simp only [stU])|exact hK|omega)))
    (refine Ends.of (nm []) (by first|exact .inl rfl|exact .inr rfl) ?_;simp (disch:=omega) only [go_sem,Int.reduceEq,↓reduceIte,reduceCtorEq,Nat.reduceEqDiff,Nat.reduceLT,Nat.reduceLeDiff,Nat.reduceAdd,Nat.reduceSub,Nat.reduceMul,Int.reduceToNat,Int.reduceLE,Int.reduceLT,N7,Sp_node_open,Sp_record_TakeExtents,Sp_node_PackLeaf,Sp_bytes_Equal,hz])
theorem ent_node_Leaf : Ent Try.prog 39:=⟨_,Try.func39,rfl,by decide⟩
end Go.Proofs.Ytigkcigoiinkpaa.Am
