import Derived.Test.YtigkcigoiinkpaaZN4
import Derived.Test.YtigkcigoiinkpaaZHA
set_option linter.unusedVariables false
set_option linter.unusedSimpArgs false
set_option maxRecDepth 10000
set_option maxHeartbeats 0
namespace Go.Proofs.Ytigkcigoiinkpaa.Am
open Go Go.RowKit Go.Proofs
def takeD : List Int → Nat → List Ln
  | _,0=>[]
  | m,n + 1=>⟨leV (m.take 1),leV ((m.drop 1).take 2),leV ((m.drop 3).take 2)⟩ :: takeD (m.drop 5) n
theorem takeD_len : ∀ (m : List Int) (n : Nat),(takeD m n).length = n
  | _,0=>rfl
  | m,n + 1=>by rw [takeD,List.length_cons,takeD_len]
theorem takeD_snoc : ∀ (m : List Int) (n : Nat),takeD m (n + 1) = takeD m n ++ [⟨leV ((m.drop (5 * n)).take 1),leV (((m.drop (5 * n)).drop 1).take 2),leV (((m.drop (5 * n)).drop 3).take 2)⟩]
  | m,0=>by simp [takeD]
  | m,n + 1=>by
    rw [takeD,takeD_snoc (m.drop 5) n,takeD,List.cons_append,List.drop_drop,show 5 + 5 * n = 5 * (n + 1) by omega]
theorem takeL_3n {b : List Int} (h : 5 ≤ b.length) : takeL b [1,2,2] = some [leV (b.take 1),leV ((b.drop 1).take 2),leV ((b.drop 3).take 2)]:=by
  simp only [takeL,List.length_drop,show (2 : Int).toNat = 2 from rfl,show (1 : Int).toNat = 1 from rfl]
  rw [if_neg (by omega),if_neg (by omega),if_neg (by omega),List.drop_drop];rfl
theorem W3d (a b c : Int) (ws : List Int) : ([D.v (.int .i64 a),D.v (.int .i64 b),D.v (.int .i64 c)] = ws.map mI) = (ws = [a,b,c]):=by
  rw [show [D.v (.int .i64 a),D.v (.int .i64 b),D.v (.int .i64 c)] = [a,b,c].map mI from rfl,mI_inj];exact propext eq_comm
def dE (b : List Int) : List Ln:=takeD (nI b) (nN b).toNat
def dirOk (b : List Int) : Prop:=oH 3 b ∧ nN b ≤ 6 ∧ mayD (dE b) ∧ nodP 3 (dE b).length (lsB (dE b)) = b
open Classical in
noncomputable def dirOut (b : List Int) : Out:=if dirOk b then ⟨.tup [.sl 0 3 0 (dE b).length true,.d (.v (.bool true))],[(0,.row 36 3 ((dE b).map lD))]⟩ else ⟨.tup [.nil,.d (.v (.bool false))],[]⟩
theorem nI_rowD {b : List Int} (h : b.length = 128) (j : Nat) (hj : j ≤ 121) : (((b.take 124).map mB).drop (3 + j)).take (121 - j) = ((nI b).drop j).map mB:=by
  unfold nI
  rw [← List.map_drop,← List.map_take,List.drop_drop,List.take_of_length_le (by rw [List.length_drop,List.length_take];omega)]
noncomputable def N8 : Env:=⟨Try.prog,fun f ds out=>(f = 66 ∧ Sp_node_open ds out) ∨ (f = 69 ∧ Sp_field_Take ds out) ∨ (f = 13 ∧ Sp_node_PackDir ds out) ∨ (f = 68 ∧ Sp_bytes_Equal ds out),Es,fun _=>false⟩
theorem N8_sp : ∀ f ds out,N8.Sp f ds out → Ent N8.P f ∧ Good N8.P f (fun a b=>a = ds ∧ b = out):=by
  rintro f ds out (⟨rfl,h⟩|⟨rfl,h⟩|⟨rfl,h⟩|⟨rfl,h⟩)
  · exact ⟨ent_node_open,good_node_open.one h⟩
  · exact ⟨ent_field_Take,good_field_Take.one h⟩
  · exact ⟨ent_node_PackDir,good_node_PackDir.one h⟩
  · exact ⟨ent_bytes_Equal,good_bytes_Equal.one h⟩
theorem N8_ok : N8.Ok:=⟨N8_sp,Es_ok⟩
def Sp_node_Dir (ds : List D) (out : Out) : Prop:=∃ b : List Int,ds = [.list (b.map mB)] ∧ Byt b ∧ b.length ≤ 9223372036854775807 ∧ out = dirOut b
def bb_node_Dir_8 : List Nat:=[0,0,2,6,0,16,48,0,128,384,1022,2046,4095,0,8192,8191,65535]
def cc_node_Dir_8 : List (List (Option Bool)):=[[some false,none,none,none,none,none,none,none,none,none,none,none,some false,none,none,some false,some false],[none,some false,some false,some false,none,none,none,none,none,none,some false,some false,some false,none,none,some false,some false],[none,some true,some false,some false,none,none,none,none,none,none,some false,some false,some false,none,none,some false,some false],[none,some true,some true,some false,none,none,none,none,none,none,some false,some false,some false,none,none,some false,some false],[none,none,none,none,some false,some false,some false,none,none,none,some false,some false,some false,none,none,some false,some false],[none,none,none,none,some true,some false,some false,none,none,none,some false,some false,some false,none,none,some false,some false],[none,none,none,none,some true,some true,some false,none,none,none,some false,some false,some false,none,none,some false,some false],[none,none,none,none,none,none,none,some false,some false,some false,some false,some false,some false,none,none,some false,some false],[none,none,none,none,none,none,none,some true,some false,some false,some false,some false,some false,none,none,some false,some false],[none,none,none,none,none,none,none,some true,some true,some false,some false,some false,some false,none,none,some false,some false],[none,some true,some true,some true,some true,some true,some true,some true,some true,some true,some false,some false,some false,none,none,some false,some false],[none,some true,some true,some true,some true,some true,some true,some true,some true,some true,some true,some false,some false,none,none,some false,some false],[some true,some true,some true,some true,some true,some true,some true,some true,some true,some true,some true,some true,some false,none,none,some false,some false],[none,none,none,none,none,none,none,none,none,none,none,none,none,some false,some false,none,some false],[none,none,none,none,none,none,none,none,none,none,none,none,none,some true,some false,none,some false],[some true,some true,some true,some true,some true,some true,some true,some true,some true,some true,some true,some true,some true,none,none,some false,some false],[some true,some true,some true,some true,some true,some true,some true,some true,some true,some true,some true,some true,some true,some true,some true,some true,some false]]
theorem good_node_Dir : Good Try.prog 42 Sp_node_Dir:=by
  refine good_body (E:=N8) (nt:=63) (rs:=#[.tmp 2,.tmp 3]) Try.func42 rfl rfl rfl ?_
  rintro ds out ⟨b,rfl,hb,hl,rfl⟩
  refine ⟨by simp,?_⟩
  have hbt : Byt b = True:=eq_true hb
  by_cases ho : oH 3 b
  case neg =>
    have hop : opnOut 3 b = ⟨.tup [.nil,.d (.v (.int .i64 0)),.d (.v (.bool false))],[]⟩:=if_neg ho
    have hz : dirOut b = ⟨.tup [.nil,.d (.v (.bool false))],[]⟩:=if_neg fun h=>ho h.1
    repeat' first
 | refine AW.seq ?_
 | refine AW.block ?_
 | refine AW.regl N8_ok [0,2,3,4,5,6,7,8,10,11,23,24,25,26,61] ?_
 | (refine AW.regc (id:=8) N8_ok follows bb_node_Dir_8 (by kernel_rfl) [0,2,3,4,5,6,7,8,10,11,23,24,25,26,61] ?_)
 | refine then_n ?_
 | refine then_r ?_
 | refine then_x ?_
 | refine block_x ?_
 | refine block_o (by decide) ?_
 | refine block_n ?_
 | refine block_r ?_
 | refine AW.skip ?_
 | refine AW.ret ?_
 | refine AW.exit ?_
 | refine AW.cond rfl ?_ ?_
 | refine awl_none rfl ?_
 | refine awl_nil2 ?_
 | refine awl_some rfl rfl (Nat.le_of_ble_eq_true rfl) rfl rfl ?_ ?_
 | refine awc_none rfl ?_
 | exact each_nil
 | refine each_none rfl ?_ ?_
 | refine awc_leaf2 [some 33,some 34,some 35,some 36,some 37,some 38,some 39,some 40,some 41,some 42,some 43,some 44,some 45,some 46,some 47,some 7,some 4] cc_node_Dir_8 rfl (by kernel_rfl) (by kernel_rfl) ?_ ?_
 | (refine fun (hc : _ = _)=>?_;first|cases hc|((try rw [hc]);(try simp only [stH] at hc);(try (exfalso;omega)));(try ((first|show Awl _ _ _ _ _|show Awc _ _ _ _ _ _);simp only [stU])))
 | ((first|refine fun (K : V → List _ → _) hK=>?_|refine fun (_ : V → V)=>?_|refine fun (bb : Nat → Bool) K hK=>?_);simp (disch:=omega) only [go_sem,Int.reduceEq,↓reduceIte,reduceCtorEq,Nat.reduceEqDiff,Nat.reduceLT,Nat.reduceLeDiff,Nat.reduceAdd,Nat.reduceSub,Nat.reduceMul,Int.reduceToNat,Int.reduceLE,Int.reduceLT,N8,Sp_node_open,Sp_field_Take,Sp_node_PackDir,Sp_bytes_Equal,hbt,hop,mB_inj,Sg3,St.updIf,ifc_nil,gt_ifc,go_ifc,ite_self,Option.none_or,Option.some_or];(try (revert hK;intro hK;(repeat' first|(refine And.intro ?_ ?_)|(intro hc;first|cases hc|((try rw [hc]);(try simp only [stH] at hc);(try (exfalso;omega)))));all_goals first|(refine hK _ _ ?_;clear hK K;simp only [stU])|exact hK|omega)))
    (refine Ends.of (nm []) (by first|exact .inl rfl|exact .inr rfl) ?_;simp (disch:=omega) only [go_sem,Int.reduceEq,↓reduceIte,reduceCtorEq,Nat.reduceEqDiff,Nat.reduceLT,Nat.reduceLeDiff,Nat.reduceAdd,Nat.reduceSub,Nat.reduceMul,Int.reduceToNat,Int.reduceLE,Int.reduceLT,N8,Sp_node_open,Sp_field_Take,Sp_node_PackDir,Sp_bytes_Equal,hz])
  have hop : opnOut 3 b = ⟨.tup [.sl 0 1 3 121 false,.d (.v (.int .i64 (nN b))),.d (.v (.bool true))],[(0,.row 5 1 ((b.take 124).map mB))]⟩:=if_pos ho
  have h8:=ho.1.1
  have r2 : 0 ≤ nN b ∧ nN b < 256:=getD_byt hb 2
  by_cases h8n : nN b ≤ 6
  case neg =>
    have hz : dirOut b = ⟨.tup [.nil,.d (.v (.bool false))],[]⟩:=if_neg fun h=>h8n h.2.1
    repeat' first
 | refine AW.seq ?_
 | refine AW.block ?_
 | refine AW.regl N8_ok [0,2,3,4,5,6,7,8,10,11,23,24,25,26,61] ?_
 | (refine AW.regc (id:=8) N8_ok follows bb_node_Dir_8 (by kernel_rfl) [0,2,3,4,5,6,7,8,10,11,23,24,25,26,61] ?_)
 | refine then_n ?_
 | refine then_r ?_
 | refine then_x ?_
 | refine block_x ?_
 | refine block_o (by decide) ?_
 | refine block_n ?_
 | refine block_r ?_
 | refine AW.skip ?_
 | refine AW.ret ?_
 | refine AW.exit ?_
 | refine AW.cond rfl ?_ ?_
 | refine awl_none rfl ?_
 | refine awl_nil2 ?_
 | refine awl_some rfl rfl (Nat.le_of_ble_eq_true rfl) rfl rfl ?_ ?_
 | refine awc_none rfl ?_
 | exact each_nil
 | refine each_none rfl ?_ ?_
 | refine awc_leaf2 [some 33,some 34,some 35,some 36,some 37,some 38,some 39,some 40,some 41,some 42,some 43,some 44,some 45,some 46,some 47,some 7,some 4] cc_node_Dir_8 rfl (by kernel_rfl) (by kernel_rfl) ?_ ?_
 | (refine fun (hc : _ = _)=>?_;first|cases hc|((try rw [hc]);(try simp only [stH] at hc);(try (exfalso;omega)));(try ((first|show Awl _ _ _ _ _|show Awc _ _ _ _ _ _);simp only [stU])))
 | ((first|refine fun (K : V → List _ → _) hK=>?_|refine fun (_ : V → V)=>?_|refine fun (bb : Nat → Bool) K hK=>?_);simp (disch:=omega) only [go_sem,Int.reduceEq,↓reduceIte,reduceCtorEq,Nat.reduceEqDiff,Nat.reduceLT,Nat.reduceLeDiff,Nat.reduceAdd,Nat.reduceSub,Nat.reduceMul,Int.reduceToNat,Int.reduceLE,Int.reduceLT,N8,Sp_node_open,Sp_field_Take,Sp_node_PackDir,Sp_bytes_Equal,hbt,hop,mB_inj,Sg3,St.updIf,ifc_nil,gt_ifc,go_ifc,ite_self,Option.none_or,Option.some_or];(try (revert hK;intro hK;(repeat' first|(refine And.intro ?_ ?_)|(intro hc;first|cases hc|((try rw [hc]);(try simp only [stH] at hc);(try (exfalso;omega)))));all_goals first|(refine hK _ _ ?_;clear hK K;simp only [stU])|exact hK|omega)))
    (refine Ends.of (nm []) (by first|exact .inl rfl|exact .inr rfl) ?_;simp (disch:=omega) only [go_sem,Int.reduceEq,↓reduceIte,reduceCtorEq,Nat.reduceEqDiff,Nat.reduceLT,Nat.reduceLeDiff,Nat.reduceAdd,Nat.reduceSub,Nat.reduceMul,Int.reduceToNat,Int.reduceLE,Int.reduceLT,N8,Sp_node_open,Sp_field_Take,Sp_node_PackDir,Sp_bytes_Equal,hz])
  obtain ⟨n,hn⟩ : ∃ n : Nat,nN b = n:=⟨(nN b).toNat,by omega⟩
  have hlt : (b.take 124).length = 124:=by rw [List.length_take];omega
  have hdE : dE b = takeD (nI b) n:=by unfold dE;rw [hn];rfl
  have hnb:=nI_byt hb
  have hnl:=nI_len h8
  rw [hn] at hop h8n r2
  repeat' first
 | refine AW.seq ?_
 | refine AW.block ?_
 | refine AW.regl N8_ok [0,2,3,4,5,6,7,8,10,11,23,24,25,26,61] ?_
 | (refine AW.regc (id:=8) N8_ok follows bb_node_Dir_8 (by kernel_rfl) [0,2,3,4,5,6,7,8,10,11,23,24,25,26,61] ?_)
 | refine then_n ?_
 | refine then_r ?_
 | refine then_x ?_
 | refine block_x ?_
 | refine block_o (by decide) ?_
 | refine block_n ?_
 | refine block_r ?_
 | refine AW.skip ?_
 | refine AW.ret ?_
 | refine AW.exit ?_
 | refine AW.cond rfl ?_ ?_
 | refine awl_none rfl ?_
 | refine awl_nil2 ?_
 | refine awl_some rfl rfl (Nat.le_of_ble_eq_true rfl) rfl rfl ?_ ?_
 | refine awc_none rfl ?_
 | exact each_nil
 | refine each_none rfl ?_ ?_
 | refine awc_leaf2 [some 33,some 34,some 35,some 36,some 37,some 38,some 39,some 40,some 41,some 42,some 43,some 44,some 45,some 46,some 47,some 7,some 4] cc_node_Dir_8 rfl (by kernel_rfl) (by kernel_rfl) ?_ ?_
 | (refine fun (hc : _ = _)=>?_;first|cases hc|((try rw [hc]);(try simp only [stH] at hc);(try (exfalso;omega)));(try ((first|show Awl _ _ _ _ _|show Awc _ _ _ _ _ _);simp only [stU])))
 | ((first|refine fun (K : V → List _ → _) hK=>?_|refine fun (_ : V → V)=>?_|refine fun (bb : Nat → Bool) K hK=>?_);simp (disch:=omega) only [go_sem,Int.reduceEq,↓reduceIte,reduceCtorEq,Nat.reduceEqDiff,Nat.reduceLT,Nat.reduceLeDiff,Nat.reduceAdd,Nat.reduceSub,Nat.reduceMul,Int.reduceToNat,Int.reduceLE,Int.reduceLT,N8,Sp_node_open,Sp_field_Take,Sp_node_PackDir,Sp_bytes_Equal,hbt,hop,mB_inj,Sg3,St.updIf,ifc_nil,gt_ifc,go_ifc,ite_self,Option.none_or,Option.some_or];(try (revert hK;intro hK;(repeat' first|(refine And.intro ?_ ?_)|(intro hc;first|cases hc|((try rw [hc]);(try simp only [stH] at hc);(try (exfalso;omega)))));all_goals first|(refine hK _ _ ?_;clear hK K;simp only [stU])|exact hK|omega)))
  refine AW.loop_wk (fun k : Nat=>⟨[(0,.d (.list (b.map mB))),(2,.nil),(3,.d (.v (.bool false))),(4,.sl 100 1 (3 + 5 * k) (121 - 5 * k) false),(7,.sl 101 3 0 k true),(24,.d (.v (.int .i64 n))),(25,.d (.v (.int .i64 k)))],[(100,.row 5 1 ((b.take 124).map mB)),(101,.row 36 3 ((takeD (nI b) k).map lD))],63⟩)
    (fun k=>k ≤ n) (fun k=>n - k) 0 (by omega) (fun w0 oa a w hs=>Wk.sr (ρ:=nm [(100,14)]) (Wk.of ?_) (nil_sr 7 101 36 3 rfl (by simp) rfl (by decide) hs)) ?_
  · simp (disch:=omega) only [go_sem,Int.reduceEq,↓reduceIte,reduceCtorEq,Nat.reduceEqDiff,Nat.reduceLT,Nat.reduceLeDiff,Nat.reduceAdd,Nat.reduceSub,Nat.reduceMul,Int.reduceToNat,Int.reduceLE,Int.reduceLT,N8,Sp_node_open,Sp_field_Take,Sp_node_PackDir,Sp_bytes_Equal]
    all_goals first|done|rfl|exact ⟨rfl,rfl⟩
  · intro k hk
    by_cases hk1 : k < n
    · have hrow:=nI_rowD h8 (5 * k) (by omega)
      have hmb : Byt ((nI b).drop (5 * k)) = True:=eq_true (byt_drop hnb _)
      have hml : ((nI b).drop (5 * k)).length = 121 - 5 * k:=by rw [List.length_drop,hnl]
      have hg : takeOut ((nI b).drop (5 * k)) [1,2,2] = ⟨.tup [.sl 0 1 0 3 true,.d (.v (.bool true))],[(0,.row 3 1 [.v (.int .i64 (leV (((nI b).drop (5 * k)).take 1))),.v (.int .i64 (leV ((((nI b).drop (5 * k)).drop 1).take 2))),.v (.int .i64 (leV ((((nI b).drop (5 * k)).drop 3).take 2)))])]⟩:=by rw [takeOut,takeL_3n (by omega)];rfl
      have hs:=takeD_snoc (nI b) k
      have hsl:=takeD_len (nI b) k
      have hsn : ∀ x y z : Int,(takeD (nI b) k).map lD ++ [D.agg [.v (.int .i64 x),.v (.int .i64 y),.v (.int .i64 z)]] = (takeD (nI b) k ++ [Ln.mk x y z]).map lD:=fun x y z=>by rw [List.map_append];rfl
      generalize leV (((nI b).drop (5 * k)).take 1) = x at *
      generalize leV ((((nI b).drop (5 * k)).drop 1).take 2) = y at *
      generalize leV ((((nI b).drop (5 * k)).drop 3).take 2) = z at *
      repeat' first
 | refine AW.seq ?_
 | refine AW.block ?_
 | refine AW.regl N8_ok [0,2,3,4,5,6,7,8,10,11,23,24,25,26,61] ?_
 | (refine AW.regc (id:=8) N8_ok follows bb_node_Dir_8 (by kernel_rfl) [0,2,3,4,5,6,7,8,10,11,23,24,25,26,61] ?_)
 | refine then_n ?_
 | refine then_r ?_
 | refine then_x ?_
 | refine block_x ?_
 | refine block_o (by decide) ?_
 | refine block_n ?_
 | refine block_r ?_
 | refine AW.skip ?_
 | refine AW.ret ?_
 | refine AW.exit ?_
 | refine AW.cond rfl ?_ ?_
 | refine awl_none rfl ?_
 | refine awl_nil2 ?_
 | refine awl_some rfl rfl (Nat.le_of_ble_eq_true rfl) rfl rfl ?_ ?_
 | refine awc_none rfl ?_
 | exact each_nil
 | refine each_none rfl ?_ ?_
 | refine awc_leaf2 [some 33,some 34,some 35,some 36,some 37,some 38,some 39,some 40,some 41,some 42,some 43,some 44,some 45,some 46,some 47,some 7,some 4] cc_node_Dir_8 rfl (by kernel_rfl) (by kernel_rfl) ?_ ?_
 | (refine fun (hc : _ = _)=>?_;first|cases hc|((try rw [hc]);(try simp only [stH] at hc);(try (exfalso;omega)));(try ((first|show Awl _ _ _ _ _|show Awc _ _ _ _ _ _);simp only [stU])))
 | ((first|refine fun (K : V → List _ → _) hK=>?_|refine fun (_ : V → V)=>?_|refine fun (bb : Nat → Bool) K hK=>?_);simp (disch:=omega) only [go_sem,Int.reduceEq,↓reduceIte,reduceCtorEq,Nat.reduceEqDiff,Nat.reduceLT,Nat.reduceLeDiff,Nat.reduceAdd,Nat.reduceSub,Nat.reduceMul,Int.reduceToNat,Int.reduceLE,Int.reduceLT,N8,Sp_node_open,Sp_field_Take,Sp_node_PackDir,Sp_bytes_Equal,hlt,hrow,hmb,hml,hg,hsl,W3d,nth,List.getD_cons_zero,List.getD_cons_succ,mB_inj,Sg3,St.updIf,ifc_nil,gt_ifc,go_ifc,ite_self,Option.none_or,Option.some_or];(try (revert hK;intro hK;(repeat' first|(refine And.intro ?_ ?_)|(intro hc;first|cases hc|((try rw [hc]);(try simp only [stH] at hc);(try (exfalso;omega)))));all_goals first|(refine hK _ _ ?_;clear hK K;simp only [stU])|exact hK|omega)))
      refine ⟨k + 1,by omega,by omega,nm [(100,100),(101,45)],Wk.of ?_⟩
      simp (disch:=omega) only [go_sem,Int.reduceEq,↓reduceIte,reduceCtorEq,Nat.reduceEqDiff,Nat.reduceLT,Nat.reduceLeDiff,Nat.reduceAdd,Nat.reduceSub,Nat.reduceMul,Int.reduceToNat,Int.reduceLE,Int.reduceLT,N8,Sp_node_open,Sp_field_Take,Sp_node_PackDir,Sp_bytes_Equal,hs,hsn]
      first|exact ⟨by rw [show 3 + 5 * k + 5 = 3 + 5 * (k + 1) by omega,show 121 - 5 * k - 5 = 121 - 5 * (k + 1) by omega],rfl,rfl⟩|exact ⟨by rw [show 3 + 5 * k + 5 = 3 + 5 * (k + 1) by omega,show 121 - 5 * k - 5 = 121 - 5 * (k + 1) by omega],rfl⟩
    · obtain rfl : k = n:=by omega
      have hok : dirOk b ↔ mayD (dE b) ∧ nodP 3 (dE b).length (lsB (dE b)) = b:=⟨fun h=>h.2.2,fun h=>⟨ho,by omega,h⟩⟩
      have hyes : dirOk b → dirOut b = ⟨.tup [.sl 0 3 0 (dE b).length true,.d (.v (.bool true))],[(0,.row 36 3 ((dE b).map lD))]⟩:=fun h=>if_pos h
      have hno : ¬ dirOk b → dirOut b = ⟨.tup [.nil,.d (.v (.bool false))],[]⟩:=fun h=>if_neg h
      have hFk : (dE b).length = k:=by rw [hdE,takeD_len]
      rw [← hdE]
      clear hdE ho hk1
      generalize dE b = F at *
      have hft : (F.map lD).take k = F.map lD:=List.take_of_length_le (by rw [List.length_map];omega)
      by_cases hm : mayD F
      case neg =>
        have hz:=hno fun h=>hm (hok.1 h).1
        have hp : packDOut F = ⟨.tup [.nil,.d (.v (.bool false))],[]⟩:=if_neg hm
        clear hm hok hyes hno
        repeat' first
 | refine AW.seq ?_
 | refine AW.block ?_
 | refine AW.regl N8_ok [0,2,3,4,5,6,7,8,10,11,23,24,25,26,61] ?_
 | (refine AW.regc (id:=8) N8_ok follows bb_node_Dir_8 (by kernel_rfl) [0,2,3,4,5,6,7,8,10,11,23,24,25,26,61] ?_)
 | refine then_n ?_
 | refine then_r ?_
 | refine then_x ?_
 | refine block_x ?_
 | refine block_o (by decide) ?_
 | refine block_n ?_
 | refine block_r ?_
 | refine AW.skip ?_
 | refine AW.ret ?_
 | refine AW.exit ?_
 | refine AW.cond rfl ?_ ?_
 | refine awl_none rfl ?_
 | refine awl_nil2 ?_
 | refine awl_some rfl rfl (Nat.le_of_ble_eq_true rfl) rfl rfl ?_ ?_
 | refine awc_none rfl ?_
 | exact each_nil
 | refine each_none rfl ?_ ?_
 | refine awc_leaf2 [some 33,some 34,some 35,some 36,some 37,some 38,some 39,some 40,some 41,some 42,some 43,some 44,some 45,some 46,some 47,some 7,some 4] cc_node_Dir_8 rfl (by kernel_rfl) (by kernel_rfl) ?_ ?_
 | (refine fun (hc : _ = _)=>?_;first|cases hc|((try rw [hc]);(try simp only [stH] at hc);(try (exfalso;omega)));(try ((first|show Awl _ _ _ _ _|show Awc _ _ _ _ _ _);simp only [stU])))
 | ((first|refine fun (K : V → List _ → _) hK=>?_|refine fun (_ : V → V)=>?_|refine fun (bb : Nat → Bool) K hK=>?_);simp (disch:=omega) only [go_sem,Int.reduceEq,↓reduceIte,reduceCtorEq,Nat.reduceEqDiff,Nat.reduceLT,Nat.reduceLeDiff,Nat.reduceAdd,Nat.reduceSub,Nat.reduceMul,Int.reduceToNat,Int.reduceLE,Int.reduceLT,N8,Sp_node_open,Sp_field_Take,Sp_node_PackDir,Sp_bytes_Equal,hft,hFk,hp,mB_inj,lD_inj,Sg3,St.updIf,ifc_nil,gt_ifc,go_ifc,ite_self,Option.none_or,Option.some_or];(try (revert hK;intro hK;(repeat' first|(refine And.intro ?_ ?_)|(intro hc;first|cases hc|((try rw [hc]);(try simp only [stH] at hc);(try (exfalso;omega)))));all_goals first|(refine hK _ _ ?_;clear hK K;simp only [stU])|exact hK|omega)))
        (refine Ends.of (nm []) (by first|exact .inl rfl|exact .inr rfl) ?_;simp (disch:=omega) only [go_sem,Int.reduceEq,↓reduceIte,reduceCtorEq,Nat.reduceEqDiff,Nat.reduceLT,Nat.reduceLeDiff,Nat.reduceAdd,Nat.reduceSub,Nat.reduceMul,Int.reduceToNat,Int.reduceLE,Int.reduceLT,N8,Sp_node_open,Sp_field_Take,Sp_node_PackDir,Sp_bytes_Equal,hz])
      obtain ⟨P,eP⟩ : ∃ P,nodP 3 F.length (lsB F) = P:=⟨_,rfl⟩
      have hp : packDOut F = ⟨.tup [.sl 0 1 0 128 true,.d (.v (.bool true))],[(0,.row 5 1 (P.map mB))]⟩:=by rw [packDOut,if_pos hm,eP]
      have hpb : Byt P = True:=eq_true (eP ▸ nodP_byt (by omega) (by omega) (lsB_byt F))
      have hpl : P.length = 128:=eP ▸ nodP_len _ _ _
      have hpt : (P.map mB).take 128 = P.map mB:=List.take_of_length_le (by rw [List.length_map,hpl];omega)
      by_cases he : P = b
      · have hz:=hyes (hok.2 ⟨hm,eP.trans he⟩)
        have hd : decide (P = b) = true:=decide_eq_true he
        rw [hFk] at hz
        clear hm he eP hok hyes hno
        repeat' first
 | refine AW.seq ?_
 | refine AW.block ?_
 | refine AW.regl N8_ok [0,2,3,4,5,6,7,8,10,11,23,24,25,26,61] ?_
 | (refine AW.regc (id:=8) N8_ok follows bb_node_Dir_8 (by kernel_rfl) [0,2,3,4,5,6,7,8,10,11,23,24,25,26,61] ?_)
 | refine then_n ?_
 | refine then_r ?_
 | refine then_x ?_
 | refine block_x ?_
 | refine block_o (by decide) ?_
 | refine block_n ?_
 | refine block_r ?_
 | refine AW.skip ?_
 | refine AW.ret ?_
 | refine AW.exit ?_
 | refine AW.cond rfl ?_ ?_
 | refine awl_none rfl ?_
 | refine awl_nil2 ?_
 | refine awl_some rfl rfl (Nat.le_of_ble_eq_true rfl) rfl rfl ?_ ?_
 | refine awc_none rfl ?_
 | exact each_nil
 | refine each_none rfl ?_ ?_
 | refine awc_leaf2 [some 33,some 34,some 35,some 36,some 37,some 38,some 39,some 40,some 41,some 42,some 43,some 44,some 45,some 46,some 47,some 7,some 4] cc_node_Dir_8 rfl (by kernel_rfl) (by kernel_rfl) ?_ ?_
 | (refine fun (hc : _ = _)=>?_;first|cases hc|((try rw [hc]);(try simp only [stH] at hc);(try (exfalso;omega)));(try ((first|show Awl _ _ _ _ _|show Awc _ _ _ _ _ _);simp only [stU])))
 | ((first|refine fun (K : V → List _ → _) hK=>?_|refine fun (_ : V → V)=>?_|refine fun (bb : Nat → Bool) K hK=>?_);simp (disch:=omega) only [go_sem,Int.reduceEq,↓reduceIte,reduceCtorEq,Nat.reduceEqDiff,Nat.reduceLT,Nat.reduceLeDiff,Nat.reduceAdd,Nat.reduceSub,Nat.reduceMul,Int.reduceToNat,Int.reduceLE,Int.reduceLT,N8,Sp_node_open,Sp_field_Take,Sp_node_PackDir,Sp_bytes_Equal,hbt,hft,hFk,hp,hpb,hpl,hpt,hd,mB_inj,lD_inj,Sg3,St.updIf,ifc_nil,gt_ifc,go_ifc,ite_self,Option.none_or,Option.some_or];(try (revert hK;intro hK;(repeat' first|(refine And.intro ?_ ?_)|(intro hc;first|cases hc|((try rw [hc]);(try simp only [stH] at hc);(try (exfalso;omega)))));all_goals first|(refine hK _ _ ?_;clear hK K;simp only [stU])|exact hK|omega)))
        (refine Ends.of (nm [(0,101)]) (by first|exact .inl rfl|exact .inr rfl) ?_;simp (disch:=omega) only [go_sem,Int.reduceEq,↓reduceIte,reduceCtorEq,Nat.reduceEqDiff,Nat.reduceLT,Nat.reduceLeDiff,Nat.reduceAdd,Nat.reduceSub,Nat.reduceMul,Int.reduceToNat,Int.reduceLE,Int.reduceLT,N8,Sp_node_open,Sp_field_Take,Sp_node_PackDir,Sp_bytes_Equal,hz])
      · have hz:=hno fun h=>he (eP.symm.trans (hok.1 h).2)
        have hd : decide (P = b) = false:=decide_eq_false he
        clear hm he eP hok hyes hno
        repeat' first
 | refine AW.seq ?_
 | refine AW.block ?_
 | refine AW.regl N8_ok [0,2,3,4,5,6,7,8,10,11,23,24,25,26,61] ?_
 | (refine AW.regc (id:=8) N8_ok follows bb_node_Dir_8 (by kernel_rfl) [0,2,3,4,5,6,7,8,10,11,23,24,25,26,61] ?_)
 | refine then_n ?_
 | refine then_r ?_
 | refine then_x ?_
 | refine block_x ?_
 | refine block_o (by decide) ?_
 | refine block_n ?_
 | refine block_r ?_
 | refine AW.skip ?_
 | refine AW.ret ?_
 | refine AW.exit ?_
 | refine AW.cond rfl ?_ ?_
 | refine awl_none rfl ?_
 | refine awl_nil2 ?_
 | refine awl_some rfl rfl (Nat.le_of_ble_eq_true rfl) rfl rfl ?_ ?_
 | refine awc_none rfl ?_
 | exact each_nil
 | refine each_none rfl ?_ ?_
 | refine awc_leaf2 [some 33,some 34,some 35,some 36,some 37,some 38,some 39,some 40,some 41,some 42,some 43,some 44,some 45,some 46,some 47,some 7,some 4] cc_node_Dir_8 rfl (by kernel_rfl) (by kernel_rfl) ?_ ?_
 | (refine fun (hc : _ = _)=>?_;first|cases hc|((try rw [hc]);(try simp only [stH] at hc);(try (exfalso;omega)));(try ((first|show Awl _ _ _ _ _|show Awc _ _ _ _ _ _);simp only [stU])))
 | ((first|refine fun (K : V → List _ → _) hK=>?_|refine fun (_ : V → V)=>?_|refine fun (bb : Nat → Bool) K hK=>?_);simp (disch:=omega) only [go_sem,Int.reduceEq,↓reduceIte,reduceCtorEq,Nat.reduceEqDiff,Nat.reduceLT,Nat.reduceLeDiff,Nat.reduceAdd,Nat.reduceSub,Nat.reduceMul,Int.reduceToNat,Int.reduceLE,Int.reduceLT,N8,Sp_node_open,Sp_field_Take,Sp_node_PackDir,Sp_bytes_Equal,hbt,hft,hFk,hp,hpb,hpl,hpt,hd,mB_inj,lD_inj,Sg3,St.updIf,ifc_nil,gt_ifc,go_ifc,ite_self,Option.none_or,Option.some_or];(try (revert hK;intro hK;(repeat' first|(refine And.intro ?_ ?_)|(intro hc;first|cases hc|((try rw [hc]);(try simp only [stH] at hc);(try (exfalso;omega)))));all_goals first|(refine hK _ _ ?_;clear hK K;simp only [stU])|exact hK|omega)))
        (refine Ends.of (nm []) (by first|exact .inl rfl|exact .inr rfl) ?_;simp (disch:=omega) only [go_sem,Int.reduceEq,↓reduceIte,reduceCtorEq,Nat.reduceEqDiff,Nat.reduceLT,Nat.reduceLeDiff,Nat.reduceAdd,Nat.reduceSub,Nat.reduceMul,Int.reduceToNat,Int.reduceLE,Int.reduceLT,N8,Sp_node_open,Sp_field_Take,Sp_node_PackDir,Sp_bytes_Equal,hz])
theorem ent_node_Dir : Ent Try.prog 42:=⟨_,Try.func42,rfl,by decide⟩
end Go.Proofs.Ytigkcigoiinkpaa.Am
