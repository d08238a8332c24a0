import Derived.Test.YtigkcigoiinkpaaZN2
import Derived.Test.YtigkcigoiinkpaaZHA
set_option linter.unusedVariables false
set_option linter.unusedSimpArgs false
set_option maxRecDepth 10000
set_option maxHeartbeats 0
namespace Go.Proofs.Ytigkcigoiinkpaa.Am
open Go Go.RowKit Go.Proofs
def takeP : List Int → Nat → List Pa
  | _,0=>[]
  | m,n + 1=>⟨leV (m.take 2),leV ((m.drop 2).take 2)⟩ :: takeP (m.drop 4) n
theorem takeP_len : ∀ (m : List Int) (n : Nat),(takeP m n).length = n
  | _,0=>rfl
  | m,n + 1=>by rw [takeP,List.length_cons,takeP_len]
theorem takeP_snoc : ∀ (m : List Int) (n : Nat),takeP m (n + 1) = takeP m n ++ [⟨leV ((m.drop (4 * n)).take 2),leV (((m.drop (4 * n)).drop 2).take 2)⟩]
  | m,0=>by simp [takeP]
  | m,n + 1=>by
    rw [takeP,takeP_snoc (m.drop 4) n,takeP,List.cons_append,List.drop_drop,show 4 + 4 * n = 4 * (n + 1) by omega]
theorem takeL_2n {b : List Int} (h : 4 ≤ b.length) : takeL b [2,2] = some [leV (b.take 2),leV ((b.drop 2).take 2)]:=by
  simp only [takeL,List.length_drop,show (2 : Int).toNat = 2 from rfl]
  rw [if_neg (by omega),if_neg (by omega)];rfl
theorem W2d (a b : Int) (ws : List Int) : ([D.v (.int .i64 a),D.v (.int .i64 b)] = ws.map mI) = (ws = [a,b]):=by
  rw [show [D.v (.int .i64 a),D.v (.int .i64 b)] = [a,b].map mI from rfl,mI_inj];exact propext eq_comm
def nE (b : List Int) : List Pa:=takeP (nI b) (nN b).toNat
def nodeOk (b : List Int) : Prop:=oH 2 b ∧ nN b ≤ 8 ∧ mayN (nE b) ∧ nodP 2 (nE b).length (psB (nE b)) = b
open Classical in
noncomputable def nodeOut (b : List Int) : Out:=if nodeOk b then ⟨.tup [.sl 0 2 0 (nE b).length true,.d (.v (.bool true))],[(0,.row 47 2 ((nE b).map pD))]⟩ else ⟨.tup [.nil,.d (.v (.bool false))],[]⟩
theorem nI_row {b : List Int} (h : b.length = 128) (j : Nat) (hj : j ≤ 121) : (((b.take 124).map mB).drop (3 + j)).take (121 - j) = ((nI b).drop j).map mB:=by
  unfold nI
  rw [← List.map_drop,← List.map_take,List.drop_drop,List.take_of_length_le (by rw [List.length_drop,List.length_take];omega)]
noncomputable def N5 : Env:=⟨Try.prog,fun f ds out=>(f = 66 ∧ Sp_node_open ds out) ∨ (f = 69 ∧ Sp_field_Take ds out) ∨ (f = 21 ∧ Sp_node_PackNode ds out) ∨ (f = 68 ∧ Sp_bytes_Equal ds out),Es,fun _=>false⟩
theorem N5_sp : ∀ f ds out,N5.Sp f ds out → Ent N5.P f ∧ Good N5.P f (fun a b=>a = ds ∧ b = out):=by
  rintro f ds out (⟨rfl,h⟩|⟨rfl,h⟩|⟨rfl,h⟩|⟨rfl,h⟩)
  · exact ⟨ent_node_open,good_node_open.one h⟩
  · exact ⟨ent_field_Take,good_field_Take.one h⟩
  · exact ⟨ent_node_PackNode,good_node_PackNode.one h⟩
  · exact ⟨ent_bytes_Equal,good_bytes_Equal.one h⟩
theorem N5_ok : N5.Ok:=⟨N5_sp,Es_ok⟩
def Sp_node_Node (ds : List D) (out : Out) : Prop:=∃ b : List Int,ds = [.list (b.map mB)] ∧ Byt b ∧ b.length ≤ 9223372036854775807 ∧ out = nodeOut b
def bb_node_Node_8 : List Nat:=[0,0,2,6,0,16,48,126,254,511,0,1024,1023,8191]
def cc_node_Node_8 : List (List (Option Bool)):=[[some false,none,none,none,none,none,none,none,none,some false,none,none,some false,some false],[none,some false,some false,some false,none,none,none,some false,some false,some false,none,none,some false,some false],[none,some true,some false,some false,none,none,none,some false,some false,some false,none,none,some false,some false],[none,some true,some true,some false,none,none,none,some false,some false,some false,none,none,some false,some false],[none,none,none,none,some false,some false,some false,some false,some false,some false,none,none,some false,some false],[none,none,none,none,some true,some false,some false,some false,some false,some false,none,none,some false,some false],[none,none,none,none,some true,some true,some false,some false,some false,some false,none,none,some false,some false],[none,some true,some true,some true,some true,some true,some true,some false,some false,some false,none,none,some false,some false],[none,some true,some true,some true,some true,some true,some true,some true,some false,some false,none,none,some false,some false],[some true,some true,some true,some true,some true,some true,some true,some true,some true,some false,none,none,some false,some false],[none,none,none,none,none,none,none,none,none,none,some false,some false,none,some false],[none,none,none,none,none,none,none,none,none,none,some true,some false,none,some false],[some true,some true,some true,some true,some true,some true,some true,some true,some true,some true,none,none,some false,some false],[some true,some true,some true,some true,some true,some true,some true,some true,some true,some true,some true,some true,some true,some false]]
theorem good_node_Node : Good Try.prog 40 Sp_node_Node:=by
  refine good_body (E:=N5) (nt:=60) (rs:=#[.tmp 2,.tmp 3]) Try.func40 rfl rfl rfl ?_
  rintro ds out ⟨b,rfl,hb,hl,rfl⟩
  refine ⟨by simp,?_⟩
  have hbt : Byt b = True:=eq_true hb
  by_cases ho : oH 2 b
  case neg =>
    have hop : opnOut 2 b = ⟨.tup [.nil,.d (.v (.int .i64 0)),.d (.v (.bool false))],[]⟩:=if_neg ho
    have hz : nodeOut b = ⟨.tup [.nil,.d (.v (.bool false))],[]⟩:=if_neg fun h=>ho h.1
    repeat' first
 | refine AW.seq ?_
 | refine AW.block ?_
 | refine AW.regl N5_ok [0,2,3,4,5,6,7,8,10,11,23,24,25,26,58] ?_
 | (refine AW.regc (id:=8) N5_ok follows bb_node_Node_8 (by kernel_rfl) [0,2,3,4,5,6,7,8,10,11,23,24,25,26,58] ?_)
 | refine then_n ?_
 | refine then_r ?_
 | refine then_x ?_
 | refine block_x ?_
 | refine block_o (by decide) ?_
 | refine block_n ?_
 | refine block_r ?_
 | refine AW.skip ?_
 | refine AW.ret ?_
 | refine AW.exit ?_
 | refine AW.cond rfl ?_ ?_
 | refine awl_none rfl ?_
 | refine awl_nil2 ?_
 | refine awl_some rfl rfl (Nat.le_of_ble_eq_true rfl) rfl rfl ?_ ?_
 | refine awc_none rfl ?_
 | exact each_nil
 | refine each_none rfl ?_ ?_
 | refine awc_leaf2 [some 33,some 34,some 35,some 36,some 37,some 38,some 39,some 40,some 41,some 42,some 43,some 44,some 7,some 4] cc_node_Node_8 rfl (by kernel_rfl) (by kernel_rfl) ?_ ?_
 | (refine fun (hc : _ = _)=>?_;first|cases hc|((try rw [hc]);(try simp only [stH] at hc);(try (exfalso;omega)));(try ((first|show Awl _ _ _ _ _|show Awc _ _ _ _ _ _);simp only [stU])))
 | ((first|refine fun (K : V → List _ → _) hK=>?_|refine fun (_ : V → V)=>?_|refine fun (bb : Nat → Bool) K hK=>?_);simp (disch:=omega) only [go_sem,Int.reduceEq,↓reduceIte,reduceCtorEq,Nat.reduceEqDiff,Nat.reduceLT,Nat.reduceLeDiff,Nat.reduceAdd,Nat.reduceSub,Nat.reduceMul,Int.reduceToNat,Int.reduceLE,Int.reduceLT,N5,Sp_node_open,Sp_field_Take,Sp_node_PackNode,Sp_bytes_Equal,hbt,hop,mB_inj,Sg3,St.updIf,ifc_nil,gt_ifc,go_ifc,ite_self,Option.none_or,Option.some_or];(try (revert hK;intro hK;(repeat' first|(refine And.intro ?_ ?_)|(intro hc;first|cases hc|((try rw [hc]);(try simp only [stH] at hc);(try (exfalso;omega)))));all_goals first|(refine hK _ _ ?_;clear hK K;simp only [stU])|exact hK|omega)))
    (refine Ends.of (nm []) (by first|exact .inl rfl|exact .inr rfl) ?_;simp (disch:=omega) only [go_sem,Int.reduceEq,↓reduceIte,reduceCtorEq,Nat.reduceEqDiff,Nat.reduceLT,Nat.reduceLeDiff,Nat.reduceAdd,Nat.reduceSub,Nat.reduceMul,Int.reduceToNat,Int.reduceLE,Int.reduceLT,N5,Sp_node_open,Sp_field_Take,Sp_node_PackNode,Sp_bytes_Equal,hz])
  have hop : opnOut 2 b = ⟨.tup [.sl 0 1 3 121 false,.d (.v (.int .i64 (nN b))),.d (.v (.bool true))],[(0,.row 5 1 ((b.take 124).map mB))]⟩:=if_pos ho
  have h8:=ho.1.1
  have r2 : 0 ≤ nN b ∧ nN b < 256:=getD_byt hb 2
  by_cases h8n : nN b ≤ 8
  case neg =>
    have hz : nodeOut b = ⟨.tup [.nil,.d (.v (.bool false))],[]⟩:=if_neg fun h=>h8n h.2.1
    repeat' first
 | refine AW.seq ?_
 | refine AW.block ?_
 | refine AW.regl N5_ok [0,2,3,4,5,6,7,8,10,11,23,24,25,26,58] ?_
 | (refine AW.regc (id:=8) N5_ok follows bb_node_Node_8 (by kernel_rfl) [0,2,3,4,5,6,7,8,10,11,23,24,25,26,58] ?_)
 | refine then_n ?_
 | refine then_r ?_
 | refine then_x ?_
 | refine block_x ?_
 | refine block_o (by decide) ?_
 | refine block_n ?_
 | refine block_r ?_
 | refine AW.skip ?_
 | refine AW.ret ?_
 | refine AW.exit ?_
 | refine AW.cond rfl ?_ ?_
 | refine awl_none rfl ?_
 | refine awl_nil2 ?_
 | refine awl_some rfl rfl (Nat.le_of_ble_eq_true rfl) rfl rfl ?_ ?_
 | refine awc_none rfl ?_
 | exact each_nil
 | refine each_none rfl ?_ ?_
 | refine awc_leaf2 [some 33,some 34,some 35,some 36,some 37,some 38,some 39,some 40,some 41,some 42,some 43,some 44,some 7,some 4] cc_node_Node_8 rfl (by kernel_rfl) (by kernel_rfl) ?_ ?_
 | (refine fun (hc : _ = _)=>?_;first|cases hc|((try rw [hc]);(try simp only [stH] at hc);(try (exfalso;omega)));(try ((first|show Awl _ _ _ _ _|show Awc _ _ _ _ _ _);simp only [stU])))
 | ((first|refine fun (K : V → List _ → _) hK=>?_|refine fun (_ : V → V)=>?_|refine fun (bb : Nat → Bool) K hK=>?_);simp (disch:=omega) only [go_sem,Int.reduceEq,↓reduceIte,reduceCtorEq,Nat.reduceEqDiff,Nat.reduceLT,Nat.reduceLeDiff,Nat.reduceAdd,Nat.reduceSub,Nat.reduceMul,Int.reduceToNat,Int.reduceLE,Int.reduceLT,N5,Sp_node_open,Sp_field_Take,Sp_node_PackNode,Sp_bytes_Equal,hbt,hop,mB_inj,Sg3,St.updIf,ifc_nil,gt_ifc,go_ifc,ite_self,Option.none_or,Option.some_or];(try (revert hK;intro hK;(repeat' first|(refine And.intro ?_ ?_)|(intro hc;first|cases hc|((try rw [hc]);(try simp only [stH] at hc);(try (exfalso;omega)))));all_goals first|(refine hK _ _ ?_;clear hK K;simp only [stU])|exact hK|omega)))
    (refine Ends.of (nm []) (by first|exact .inl rfl|exact .inr rfl) ?_;simp (disch:=omega) only [go_sem,Int.reduceEq,↓reduceIte,reduceCtorEq,Nat.reduceEqDiff,Nat.reduceLT,Nat.reduceLeDiff,Nat.reduceAdd,Nat.reduceSub,Nat.reduceMul,Int.reduceToNat,Int.reduceLE,Int.reduceLT,N5,Sp_node_open,Sp_field_Take,Sp_node_PackNode,Sp_bytes_Equal,hz])
  obtain ⟨n,hn⟩ : ∃ n : Nat,nN b = n:=⟨(nN b).toNat,by omega⟩
  have hlt : (b.take 124).length = 124:=by rw [List.length_take];omega
  have hnE : nE b = takeP (nI b) n:=by unfold nE;rw [hn];rfl
  have hnb:=nI_byt hb
  have hnl:=nI_len h8
  rw [hn] at hop h8n r2
  repeat' first
 | refine AW.seq ?_
 | refine AW.block ?_
 | refine AW.regl N5_ok [0,2,3,4,5,6,7,8,10,11,23,24,25,26,58] ?_
 | (refine AW.regc (id:=8) N5_ok follows bb_node_Node_8 (by kernel_rfl) [0,2,3,4,5,6,7,8,10,11,23,24,25,26,58] ?_)
 | refine then_n ?_
 | refine then_r ?_
 | refine then_x ?_
 | refine block_x ?_
 | refine block_o (by decide) ?_
 | refine block_n ?_
 | refine block_r ?_
 | refine AW.skip ?_
 | refine AW.ret ?_
 | refine AW.exit ?_
 | refine AW.cond rfl ?_ ?_
 | refine awl_none rfl ?_
 | refine awl_nil2 ?_
 | refine awl_some rfl rfl (Nat.le_of_ble_eq_true rfl) rfl rfl ?_ ?_
 | refine awc_none rfl ?_
 | exact each_nil
 | refine each_none rfl ?_ ?_
 | refine awc_leaf2 [some 33,some 34,some 35,some 36,some 37,some 38,some 39,some 40,some 41,some 42,some 43,some 44,some 7,some 4] cc_node_Node_8 rfl (by kernel_rfl) (by kernel_rfl) ?_ ?_
 | (refine fun (hc : _ = _)=>?_;first|cases hc|((try rw [hc]);(try simp only [stH] at hc);(try (exfalso;omega)));(try ((first|show Awl _ _ _ _ _|show Awc _ _ _ _ _ _);simp only [stU])))
 | ((first|refine fun (K : V → List _ → _) hK=>?_|refine fun (_ : V → V)=>?_|refine fun (bb : Nat → Bool) K hK=>?_);simp (disch:=omega) only [go_sem,Int.reduceEq,↓reduceIte,reduceCtorEq,Nat.reduceEqDiff,Nat.reduceLT,Nat.reduceLeDiff,Nat.reduceAdd,Nat.reduceSub,Nat.reduceMul,Int.reduceToNat,Int.reduceLE,Int.reduceLT,N5,Sp_node_open,Sp_field_Take,Sp_node_PackNode,Sp_bytes_Equal,hbt,hop,mB_inj,Sg3,St.updIf,ifc_nil,gt_ifc,go_ifc,ite_self,Option.none_or,Option.some_or];(try (revert hK;intro hK;(repeat' first|(refine And.intro ?_ ?_)|(intro hc;first|cases hc|((try rw [hc]);(try simp only [stH] at hc);(try (exfalso;omega)))));all_goals first|(refine hK _ _ ?_;clear hK K;simp only [stU])|exact hK|omega)))
  refine AW.loop_wk (fun k : Nat=>⟨[(0,.d (.list (b.map mB))),(2,.nil),(3,.d (.v (.bool false))),(4,.sl 100 1 (3 + 4 * k) (121 - 4 * k) false),(7,.sl 101 2 0 k true),(24,.d (.v (.int .i64 n))),(25,.d (.v (.int .i64 k)))],[(100,.row 5 1 ((b.take 124).map mB)),(101,.row 47 2 ((takeP (nI b) k).map pD))],60⟩)
    (fun k=>k ≤ n) (fun k=>n - k) 0 (by omega) (fun w0 oa a w hs=>Wk.sr (ρ:=nm [(100,14)]) (Wk.of ?_) (nil_sr 7 101 47 2 rfl (by simp) rfl (by decide) hs)) ?_
  · simp (disch:=omega) only [go_sem,Int.reduceEq,↓reduceIte,reduceCtorEq,Nat.reduceEqDiff,Nat.reduceLT,Nat.reduceLeDiff,Nat.reduceAdd,Nat.reduceSub,Nat.reduceMul,Int.reduceToNat,Int.reduceLE,Int.reduceLT,N5,Sp_node_open,Sp_field_Take,Sp_node_PackNode,Sp_bytes_Equal]
    all_goals first|done|rfl|exact ⟨rfl,rfl⟩
  · intro k hk
    by_cases hk1 : k < n
    · have hrow:=nI_row h8 (4 * k) (by omega)
      have hmb : Byt ((nI b).drop (4 * k)) = True:=eq_true (byt_drop hnb _)
      have hml : ((nI b).drop (4 * k)).length = 121 - 4 * k:=by rw [List.length_drop,hnl]
      have hg : takeOut ((nI b).drop (4 * k)) [2,2] = ⟨.tup [.sl 0 1 0 2 true,.d (.v (.bool true))],[(0,.row 3 1 [.v (.int .i64 (leV (((nI b).drop (4 * k)).take 2))),.v (.int .i64 (leV ((((nI b).drop (4 * k)).drop 2).take 2)))])]⟩:=by rw [takeOut,takeL_2n (by omega)];rfl
      have hs:=takeP_snoc (nI b) k
      have hsl:=takeP_len (nI b) k
      have hsn : ∀ x y : Int,(takeP (nI b) k).map pD ++ [D.agg [.v (.int .i64 x),.v (.int .i64 y)]] = (takeP (nI b) k ++ [Pa.mk x y]).map pD:=fun x y=>by rw [List.map_append];rfl
      generalize leV (((nI b).drop (4 * k)).take 2) = x at *
      generalize leV ((((nI b).drop (4 * k)).drop 2).take 2) = y at *
      repeat' first
 | refine AW.seq ?_
 | refine AW.block ?_
 | refine AW.regl N5_ok [0,2,3,4,5,6,7,8,10,11,23,24,25,26,58] ?_
 | (refine AW.regc (id:=8) N5_ok follows bb_node_Node_8 (by kernel_rfl) [0,2,3,4,5,6,7,8,10,11,23,24,25,26,58] ?_)
 | refine then_n ?_
 | refine then_r ?_
 | refine then_x ?_
 | refine block_x ?_
 | refine block_o (by decide) ?_
 | refine block_n ?_
 | refine block_r ?_
 | refine AW.skip ?_
 | refine AW.ret ?_
 | refine AW.exit ?_
 | refine AW.cond rfl ?_ ?_
 | refine awl_none rfl ?_
 | refine awl_nil2 ?_
 | refine awl_some rfl rfl (Nat.le_of_ble_eq_true rfl) rfl rfl ?_ ?_
 | refine awc_none rfl ?_
 | exact each_nil
 | refine each_none rfl ?_ ?_
 | refine awc_leaf2 [some 33,some 34,some 35,some 36,some 37,some 38,some 39,some 40,some 41,some 42,some 43,some 44,some 7,some 4] cc_node_Node_8 rfl (by kernel_rfl) (by kernel_rfl) ?_ ?_
 | (refine fun (hc : _ = _)=>?_;first|cases hc|((try rw [hc]);(try simp only [stH] at hc);(try (exfalso;omega)));(try ((first|show Awl _ _ _ _ _|show Awc _ _ _ _ _ _);simp only [stU])))
 | ((first|refine fun (K : V → List _ → _) hK=>?_|refine fun (_ : V → V)=>?_|refine fun (bb : Nat → Bool) K hK=>?_);simp (disch:=omega) only [go_sem,Int.reduceEq,↓reduceIte,reduceCtorEq,Nat.reduceEqDiff,Nat.reduceLT,Nat.reduceLeDiff,Nat.reduceAdd,Nat.reduceSub,Nat.reduceMul,Int.reduceToNat,Int.reduceLE,Int.reduceLT,N5,Sp_node_open,Sp_field_Take,Sp_node_PackNode,Sp_bytes_Equal,hlt,hrow,hmb,hml,hg,hsl,W2d,nth,List.getD_cons_zero,List.getD_cons_succ,mB_inj,Sg3,St.updIf,ifc_nil,gt_ifc,go_ifc,ite_self,Option.none_or,Option.some_or];(try (revert hK;intro hK;(repeat' first|(refine And.intro ?_ ?_)|(intro hc;first|cases hc|((try rw [hc]);(try simp only [stH] at hc);(try (exfalso;omega)))));all_goals first|(refine hK _ _ ?_;clear hK K;simp only [stU])|exact hK|omega)))
      refine ⟨k + 1,by omega,by omega,nm [(100,100),(101,42)],Wk.of ?_⟩
      simp (disch:=omega) only [go_sem,Int.reduceEq,↓reduceIte,reduceCtorEq,Nat.reduceEqDiff,Nat.reduceLT,Nat.reduceLeDiff,Nat.reduceAdd,Nat.reduceSub,Nat.reduceMul,Int.reduceToNat,Int.reduceLE,Int.reduceLT,N5,Sp_node_open,Sp_field_Take,Sp_node_PackNode,Sp_bytes_Equal,hs,hsn]
      first|exact ⟨by rw [show 3 + 4 * k + 4 = 3 + 4 * (k + 1) by omega,show 121 - 4 * k - 4 = 121 - 4 * (k + 1) by omega],rfl,rfl⟩|exact ⟨by rw [show 3 + 4 * k + 4 = 3 + 4 * (k + 1) by omega,show 121 - 4 * k - 4 = 121 - 4 * (k + 1) by omega],rfl⟩
    · obtain rfl : k = n:=by omega
      have hok : nodeOk b ↔ mayN (nE b) ∧ nodP 2 (nE b).length (psB (nE b)) = b:=⟨fun h=>h.2.2,fun h=>⟨ho,by omega,h⟩⟩
      have hyes : nodeOk b → nodeOut b = ⟨.tup [.sl 0 2 0 (nE b).length true,.d (.v (.bool true))],[(0,.row 47 2 ((nE b).map pD))]⟩:=fun h=>if_pos h
      have hno : ¬ nodeOk b → nodeOut b = ⟨.tup [.nil,.d (.v (.bool false))],[]⟩:=fun h=>if_neg h
      have hFk : (nE b).length = k:=by rw [hnE,takeP_len]
      rw [← hnE]
      clear hnE ho hk1
      generalize nE b = F at *
      have hft : (F.map pD).take k = F.map pD:=List.take_of_length_le (by rw [List.length_map];omega)
      by_cases hm : mayN F
      case neg =>
        have hz:=hno fun h=>hm (hok.1 h).1
        have hp : packNOut F = ⟨.tup [.nil,.d (.v (.bool false))],[]⟩:=if_neg hm
        clear hm hok hyes hno
        repeat' first
 | refine AW.seq ?_
 | refine AW.block ?_
 | refine AW.regl N5_ok [0,2,3,4,5,6,7,8,10,11,23,24,25,26,58] ?_
 | (refine AW.regc (id:=8) N5_ok follows bb_node_Node_8 (by kernel_rfl) [0,2,3,4,5,6,7,8,10,11,23,24,25,26,58] ?_)
 | refine then_n ?_
 | refine then_r ?_
 | refine then_x ?_
 | refine block_x ?_
 | refine block_o (by decide) ?_
 | refine block_n ?_
 | refine block_r ?_
 | refine AW.skip ?_
 | refine AW.ret ?_
 | refine AW.exit ?_
 | refine AW.cond rfl ?_ ?_
 | refine awl_none rfl ?_
 | refine awl_nil2 ?_
 | refine awl_some rfl rfl (Nat.le_of_ble_eq_true rfl) rfl rfl ?_ ?_
 | refine awc_none rfl ?_
 | exact each_nil
 | refine each_none rfl ?_ ?_
 | refine awc_leaf2 [some 33,some 34,some 35,some 36,some 37,some 38,some 39,some 40,some 41,some 42,some 43,some 44,some 7,some 4] cc_node_Node_8 rfl (by kernel_rfl) (by kernel_rfl) ?_ ?_
 | (refine fun (hc : _ = _)=>?_;first|cases hc|((try rw [hc]);(try simp only [stH] at hc);(try (exfalso;omega)));(try ((first|show Awl _ _ _ _ _|show Awc _ _ _ _ _ _);simp only [stU])))
 | ((first|refine fun (K : V → List _ → _) hK=>?_|refine fun (_ : V → V)=>?_|refine fun (bb : Nat → Bool) K hK=>?_);simp (disch:=omega) only [go_sem,Int.reduceEq,↓reduceIte,reduceCtorEq,Nat.reduceEqDiff,Nat.reduceLT,Nat.reduceLeDiff,Nat.reduceAdd,Nat.reduceSub,Nat.reduceMul,Int.reduceToNat,Int.reduceLE,Int.reduceLT,N5,Sp_node_open,Sp_field_Take,Sp_node_PackNode,Sp_bytes_Equal,hft,hFk,hp,mB_inj,pD_inj,Sg3,St.updIf,ifc_nil,gt_ifc,go_ifc,ite_self,Option.none_or,Option.some_or];(try (revert hK;intro hK;(repeat' first|(refine And.intro ?_ ?_)|(intro hc;first|cases hc|((try rw [hc]);(try simp only [stH] at hc);(try (exfalso;omega)))));all_goals first|(refine hK _ _ ?_;clear hK K;simp only [stU])|exact hK|omega)))
        (refine Ends.of (nm []) (by first|exact .inl rfl|exact .inr rfl) ?_;simp (disch:=omega) only [go_sem,Int.reduceEq,↓reduceIte,reduceCtorEq,Nat.reduceEqDiff,Nat.reduceLT,Nat.reduceLeDiff,Nat.reduceAdd,Nat.reduceSub,Nat.reduceMul,Int.reduceToNat,Int.reduceLE,Int.reduceLT,N5,Sp_node_open,Sp_field_Take,Sp_node_PackNode,Sp_bytes_Equal,hz])
      obtain ⟨P,eP⟩ : ∃ P,nodP 2 F.length (psB F) = P:=⟨_,rfl⟩
      have hp : packNOut F = ⟨.tup [.sl 0 1 0 128 true,.d (.v (.bool true))],[(0,.row 5 1 (P.map mB))]⟩:=by rw [packNOut,if_pos hm,eP]
      have hpb : Byt P = True:=eq_true (eP ▸ nodP_byt (by omega) (by omega) (psB_byt F))
      have hpl : P.length = 128:=eP ▸ nodP_len _ _ _
      have hpt : (P.map mB).take 128 = P.map mB:=List.take_of_length_le (by rw [List.length_map,hpl];omega)
      by_cases he : P = b
      · have hz:=hyes (hok.2 ⟨hm,eP.trans he⟩)
        have hd : decide (P = b) = true:=decide_eq_true he
        rw [hFk] at hz
        clear hm he eP hok hyes hno
        repeat' first
 | refine AW.seq ?_
 | refine AW.block ?_
 | refine AW.regl N5_ok [0,2,3,4,5,6,7,8,10,11,23,24,25,26,58] ?_
 | (refine AW.regc (id:=8) N5_ok follows bb_node_Node_8 (by kernel_rfl) [0,2,3,4,5,6,7,8,10,11,23,24,25,26,58] ?_)
 | refine then_n ?_
 | refine then_r ?_
 | refine then_x ?_
 | refine block_x ?_
 | refine block_o (by decide) ?_
 | refine block_n ?_
 | refine block_r ?_
 | refine AW.skip ?_
 | refine AW.ret ?_
 | refine AW.exit ?_
 | refine AW.cond rfl ?_ ?_
 | refine awl_none rfl ?_
 | refine awl_nil2 ?_
 | refine awl_some rfl rfl (Nat.le_of_ble_eq_true rfl) rfl rfl ?_ ?_
 | refine awc_none rfl ?_
 | exact each_nil
 | refine each_none rfl ?_ ?_
 | refine awc_leaf2 [some 33,some 34,some 35,some 36,some 37,some 38,some 39,some 40,some 41,some 42,some 43,some 44,some 7,some 4] cc_node_Node_8 rfl (by kernel_rfl) (by kernel_rfl) ?_ ?_
 | (refine fun (hc : _ = _)=>?_;first|cases hc|((try rw [hc]);(try simp only [stH] at hc);(try (exfalso;omega)));(try ((first|show Awl _ _ _ _ _|show Awc _ _ _ _ _ _);simp only [stU])))
 | ((first|refine fun (K : V → List _ → _) hK=>?_|refine fun (_ : V → V)=>?_|refine fun (bb : Nat → Bool) K hK=>?_);simp (disch:=omega) only [go_sem,Int.reduceEq,↓reduceIte,reduceCtorEq,Nat.reduceEqDiff,Nat.reduceLT,Nat.reduceLeDiff,Nat.reduceAdd,Nat.reduceSub,Nat.reduceMul,Int.reduceToNat,Int.reduceLE,Int.reduceLT,N5,Sp_node_open,Sp_field_Take,Sp_node_PackNode,Sp_bytes_Equal,hbt,hft,hFk,hp,hpb,hpl,hpt,hd,mB_inj,pD_inj,Sg3,St.updIf,ifc_nil,gt_ifc,go_ifc,ite_self,Option.none_or,Option.some_or];(try (revert hK;intro hK;(repeat' first|(refine And.intro ?_ ?_)|(intro hc;first|cases hc|((try rw [hc]);(try simp only [stH] at hc);(try (exfalso;omega)))));all_goals first|(refine hK _ _ ?_;clear hK K;simp only [stU])|exact hK|omega)))
        (refine Ends.of (nm [(0,101)]) (by first|exact .inl rfl|exact .inr rfl) ?_;simp (disch:=omega) only [go_sem,Int.reduceEq,↓reduceIte,reduceCtorEq,Nat.reduceEqDiff,Nat.reduceLT,Nat.reduceLeDiff,Nat.reduceAdd,Nat.reduceSub,Nat.reduceMul,Int.reduceToNat,Int.reduceLE,Int.reduceLT,N5,Sp_node_open,Sp_field_Take,Sp_node_PackNode,Sp_bytes_Equal,hz])
      · have hz:=hno fun h=>he (eP.symm.trans (hok.1 h).2)
        have hd : decide (P = b) = false:=decide_eq_false he
        clear hm he eP hok hyes hno
        repeat' first
 | refine AW.seq ?_
 | refine AW.block ?_
 | refine AW.regl N5_ok [0,2,3,4,5,6,7,8,10,11,23,24,25,26,58] ?_
 | (refine AW.regc (id:=8) N5_ok follows bb_node_Node_8 (by kernel_rfl) [0,2,3,4,5,6,7,8,10,11,23,24,25,26,58] ?_)
 | refine then_n ?_
 | refine then_r ?_
 | refine then_x ?_
 | refine block_x ?_
 | refine block_o (by decide) ?_
 | refine block_n ?_
 | refine block_r ?_
 | refine AW.skip ?_
 | refine AW.ret ?_
 | refine AW.exit ?_
 | refine AW.cond rfl ?_ ?_
 | refine awl_none rfl ?_
 | refine awl_nil2 ?_
 | refine awl_some rfl rfl (Nat.le_of_ble_eq_true rfl) rfl rfl ?_ ?_
 | refine awc_none rfl ?_
 | exact each_nil
 | refine each_none rfl ?_ ?_
 | refine awc_leaf2 [some 33,some 34,some 35,some 36,some 37,some 38,some 39,some 40,some 41,some 42,some 43,some 44,some 7,some 4] cc_node_Node_8 rfl (by kernel_rfl) (by kernel_rfl) ?_ ?_
 | (refine fun (hc : _ = _)=>?_;first|cases hc|((try rw [hc]);(try simp only [stH] at hc);(try (exfalso;omega)));(try ((first|show Awl _ _ _ _ _|show Awc _ _ _ _ _ _);simp only [stU])))
 | ((first|refine fun (K : V → List _ → _) hK=>?_|refine fun (_ : V → V)=>?_|refine fun (bb : Nat → Bool) K hK=>?_);simp (disch:=omega) only [go_sem,Int.reduceEq,↓reduceIte,reduceCtorEq,Nat.reduceEqDiff,Nat.reduceLT,Nat.reduceLeDiff,Nat.reduceAdd,Nat.reduceSub,Nat.reduceMul,Int.reduceToNat,Int.reduceLE,Int.reduceLT,N5,Sp_node_open,Sp_field_Take,Sp_node_PackNode,Sp_bytes_Equal,hbt,hft,hFk,hp,hpb,hpl,hpt,hd,mB_inj,pD_inj,Sg3,St.updIf,ifc_nil,gt_ifc,go_ifc,ite_self,Option.none_or,Option.some_or];(try (revert hK;intro hK;(repeat' first|(refine And.intro ?_ ?_)|(intro hc;first|cases hc|((try rw [hc]);(try simp only [stH] at hc);(try (exfalso;omega)))));all_goals first|(refine hK _ _ ?_;clear hK K;simp only [stU])|exact hK|omega)))
        (refine Ends.of (nm []) (by first|exact .inl rfl|exact .inr rfl) ?_;simp (disch:=omega) only [go_sem,Int.reduceEq,↓reduceIte,reduceCtorEq,Nat.reduceEqDiff,Nat.reduceLT,Nat.reduceLeDiff,Nat.reduceAdd,Nat.reduceSub,Nat.reduceMul,Int.reduceToNat,Int.reduceLE,Int.reduceLT,N5,Sp_node_open,Sp_field_Take,Sp_node_PackNode,Sp_bytes_Equal,hz])
theorem ent_node_Node : Ent Try.prog 40:=⟨_,Try.func40,rfl,by decide⟩
end Go.Proofs.Ytigkcigoiinkpaa.Am
