import Derived.Test.YtigkcigoiinkpaaZN9
import Derived.Test.YtigkcigoiinkpaaZHA
set_option linter.unusedVariables false
set_option linter.unusedSimpArgs false
set_option maxRecDepth 10000
set_option maxHeartbeats 0
namespace Go.Proofs.Ytigkcigoiinkpaa.Am
open Go Go.RowKit Go.Proofs
def takeI : List Int → Nat → List Int
  | _,0=>[]
  | m,n + 1=>leV (m.take 2) :: takeI (m.drop 2) n
theorem takeI_len : ∀ (m : List Int) (n : Nat),(takeI m n).length = n
  | _,0=>rfl
  | m,n + 1=>by rw [takeI,List.length_cons,takeI_len]
theorem takeI_snoc : ∀ (m : List Int) (n : Nat),takeI m (n + 1) = takeI m n ++ [leV ((m.drop (2 * n)).take 2)]
  | m,0=>by simp [takeI]
  | m,n + 1=>by
    rw [takeI,takeI_snoc (m.drop 2) n,takeI,List.cons_append,List.drop_drop,show 2 + 2 * n = 2 * (n + 1) by omega]
def tkN (m : List Int) : Nat:=(min (m.getD 0 0) 4).toNat
def tkL (m : List Int) : List Int:=takeI (m.drop 1) (tkN m)
def tkR (m : List Int) : List Int:=(m.drop 1).drop (2 * tkN m)
theorem tkN_le (m : List Int) : tkN m ≤ 4:=by unfold tkN;omega
theorem tkR_len (m : List Int) : (tkR m).length = m.length - 1 - 2 * tkN m:=by unfold tkR;rw [List.length_drop,List.length_drop]
theorem tkR_byt {m : List Int} (h : Byt m) : Byt (tkR m):=byt_drop (byt_drop h _) _
def tkOut (m : List Int) : Out:=⟨.tup [.sl 0 1 0 (tkL m).length true,.d (.list ((tkR m).map mB))],[(0,.row 3 1 ((tkL m).map mI))]⟩
noncomputable def NT : Env:=⟨Try.prog,fun f ds out=>(f = 70 ∧ Sp_field_Get ds out),Es,fun _=>false⟩
theorem NT_sp : ∀ f ds out,NT.Sp f ds out → Ent NT.P f ∧ Good NT.P f (fun a b=>a = ds ∧ b = out):=by
  rintro f ds out ⟨rfl,h⟩
  exact ⟨ent_field_Get,good_field_Get.one h⟩
theorem NT_ok : NT.Ok:=⟨NT_sp,Es_ok⟩
def Sp_node_takeRow (ds : List D) (out : Out) : Prop:=∃ m : List Int,ds = [.list (m.map mB)] ∧ Byt m ∧ 9 ≤ m.length ∧ m.length ≤ 1000000 ∧ out = tkOut m
def bb_node_takeRow_7 : List Nat:=[0,0,2,7,0,16,15,127]
def cc_node_takeRow_7 : List (List (Option Bool)):=[[some false,none,none,some false,none,none,some false,some false],[none,some false,some false,some false,none,none,some false,some false],[none,some true,some false,some false,none,none,some false,some false],[some true,some true,some true,some false,none,none,some false,some false],[none,none,none,none,some false,some false,none,some false],[none,none,none,none,some true,some false,none,some false],[some true,some true,some true,some true,none,none,some false,some false],[some true,some true,some true,some true,some true,some true,some true,some false]]
theorem good_node_takeRow : Good Try.prog 71 Sp_node_takeRow:=by
  refine good_body (E:=NT) (nt:=33) (rs:=#[.tmp 2,.tmp 3]) Try.func71 rfl rfl rfl ?_
  rintro ds out ⟨m,rfl,hb,h9,hl,rfl⟩
  refine ⟨by simp,?_⟩
  have e0 : nth (m.map mB) 0 = .v (.int .u8 (m.getD 0 0)):=nth_B m 0 (by omega)
  have r0:=getD_byt hb 0
  have hn4:=tkN_le m
  have hmn : min (m.getD 0 0) 4 = (tkN m : Int):=by unfold tkN;omega
  have hd1 : (m.map mB).drop 1 = (m.drop 1).map mB:=List.map_drop.symm
  have ht1 : ((m.drop 1).map mB).take (m.length - 1) = (m.drop 1).map mB:=List.take_of_length_le (by rw [List.length_map,List.length_drop];omega)
  have hm0 : (m.map mB).take m.length = m.map mB:=List.take_of_length_le (by simp)
  have hL : tkL m = takeI (m.drop 1) (tkN m):=rfl
  have hR : tkR m = (m.drop 1).drop (2 * tkN m):=rfl
  have hbd : Byt (m.drop 1):=byt_drop hb 1
  have hld : (m.drop 1).length = m.length - 1:=by rw [List.length_drop]
  generalize m.getD 0 0 = c at *
  generalize tkN m = n at *
  repeat' first
 | refine AW.seq ?_
 | refine AW.block ?_
 | refine AW.regl NT_ok [0,2,3,4,5,6,15,16,17] ?_
 | (refine AW.regc (id:=7) NT_ok follows bb_node_takeRow_7 (by kernel_rfl) [0,2,3,4,5,6,15,16,17] ?_)
 | refine then_n ?_
 | refine then_r ?_
 | refine then_x ?_
 | refine block_x ?_
 | refine block_o (by decide) ?_
 | refine block_n ?_
 | refine block_r ?_
 | refine AW.skip ?_
 | refine AW.ret ?_
 | refine AW.exit ?_
 | refine AW.cond rfl ?_ ?_
 | refine awl_none rfl ?_
 | refine awl_nil2 ?_
 | refine awc_none rfl ?_
 | exact each_nil
 | refine each_none rfl ?_ ?_
 | refine awc_leaf2 [some 24,some 25,some 26,some 27,some 28,some 29,some 5,some 0] cc_node_takeRow_7 rfl (by kernel_rfl) (by kernel_rfl) ?_ ?_
 | (refine fun (hc : _ = _)=>?_;first|cases hc|((try rw [hc]);(try simp only [stH] at hc);(try (exfalso;omega)));(try ((first|show Awl _ _ _ _ _|show Awc _ _ _ _ _ _);simp only [stU])))
 | ((first|refine fun (K : V → List _ → _) hK=>?_|refine fun (_ : V → V)=>?_|refine fun (bb : Nat → Bool) K hK=>?_);simp (disch:=omega) only [go_sem,Int.reduceEq,↓reduceIte,reduceCtorEq,Nat.reduceEqDiff,Nat.reduceLT,Nat.reduceLeDiff,Nat.reduceAdd,Nat.reduceSub,Nat.reduceMul,Int.reduceToNat,Int.reduceLE,Int.reduceLT,NT,Sp_field_Get,e0,hmn,hm0,hd1,ht1,Sg3,St.updIf,ifc_nil,gt_ifc,go_ifc,ite_self,Option.none_or,Option.some_or];(try (revert hK;intro hK;(repeat' first|(refine And.intro ?_ ?_)|(intro hc;first|cases hc|((try rw [hc]);(try simp only [stH] at hc);(try (exfalso;omega)))));all_goals first|(refine hK _ _ ?_;clear hK K;simp only [stU])|exact hK|omega)))
  refine AW.loop_wk (fun k : Nat=>⟨[(0,.d (.list (((m.drop 1).drop (2 * k)).map mB))),(2,.nil),(3,.nil),(5,.sl 100 1 0 k true),(15,.d (.v (.int .i64 n))),(16,.d (.v (.int .i64 k)))],[(100,.row 3 1 ((takeI (m.drop 1) k).map mI))],33⟩)
    (fun k=>k ≤ n) (fun k=>n - k) 0 (by omega) (fun w0 oa a w hs=>Wk.sr (ρ:=nm []) (Wk.of ?_) (nil_sr 5 100 3 1 rfl (by simp) rfl (by decide) hs)) ?_
  · simp (disch:=omega) only [go_sem,Int.reduceEq,↓reduceIte,reduceCtorEq,Nat.reduceEqDiff,Nat.reduceLT,Nat.reduceLeDiff,Nat.reduceAdd,Nat.reduceSub,Nat.reduceMul,Int.reduceToNat,Int.reduceLE,Int.reduceLT,NT,Sp_field_Get]
    all_goals first|done|rfl|exact ⟨rfl,rfl⟩
  · intro k hk
    by_cases hk1 : k < n
    · have hml : ((m.drop 1).drop (2 * k)).length = m.length - 1 - 2 * k:=by rw [List.length_drop,hld]
      have hmb : Byt ((m.drop 1).drop (2 * k)):=byt_drop hbd _
      have ht2 : (((m.drop 1).drop (2 * k)).map mB).take 2 = (((m.drop 1).drop (2 * k)).take 2).map mB:=List.map_take.symm
      have hd2 : (((m.drop 1).drop (2 * k)).map mB).drop 2 = ((m.drop 1).drop (2 * (k + 1))).map mB:=by rw [← List.map_drop,List.drop_drop,show 2 * k + 2 = 2 * (k + 1) by omega]
      have ht3 : (((m.drop 1).drop (2 * k)).map mB).take (m.length - 1 - 2 * k) = ((m.drop 1).drop (2 * k)).map mB:=List.take_of_length_le (by rw [List.length_map];omega)
      have hb2 : Byt (((m.drop 1).drop (2 * k)).take 2) = True:=eq_true (byt_take hmb 2)
      have hl2 : (((m.drop 1).drop (2 * k)).take 2).length = 2:=by rw [List.length_take];omega
      have hg : getOut (((m.drop 1).drop (2 * k)).take 2) = ⟨.tup [.d (.v (.int .i64 (leV (((m.drop 1).drop (2 * k)).take 2)))),.d (.v (.bool true))],[]⟩:=by rw [getOut,if_neg (by omega)]
      have hs:=takeI_snoc (m.drop 1) k
      have hsl:=takeI_len (m.drop 1) k
      have hsn : ∀ x : Int,(takeI (m.drop 1) k).map mI ++ [D.v (.int .i64 x)] = (takeI (m.drop 1) k ++ [x]).map mI:=fun x=>by rw [List.map_append];rfl
      generalize leV (((m.drop 1).drop (2 * k)).take 2) = x at *
      repeat' first
 | refine AW.seq ?_
 | refine AW.block ?_
 | refine AW.regl NT_ok [0,2,3,4,5,6,15,16,17] ?_
 | (refine AW.regc (id:=7) NT_ok follows bb_node_takeRow_7 (by kernel_rfl) [0,2,3,4,5,6,15,16,17] ?_)
 | refine then_n ?_
 | refine then_r ?_
 | refine then_x ?_
 | refine block_x ?_
 | refine block_o (by decide) ?_
 | refine block_n ?_
 | refine block_r ?_
 | refine AW.skip ?_
 | refine AW.ret ?_
 | refine AW.exit ?_
 | refine AW.cond rfl ?_ ?_
 | refine awl_none rfl ?_
 | refine awl_nil2 ?_
 | refine awc_none rfl ?_
 | exact each_nil
 | refine each_none rfl ?_ ?_
 | refine awc_leaf2 [some 24,some 25,some 26,some 27,some 28,some 29,some 5,some 0] cc_node_takeRow_7 rfl (by kernel_rfl) (by kernel_rfl) ?_ ?_
 | (refine fun (hc : _ = _)=>?_;first|cases hc|((try rw [hc]);(try simp only [stH] at hc);(try (exfalso;omega)));(try ((first|show Awl _ _ _ _ _|show Awc _ _ _ _ _ _);simp only [stU])))
 | ((first|refine fun (K : V → List _ → _) hK=>?_|refine fun (_ : V → V)=>?_|refine fun (bb : Nat → Bool) K hK=>?_);simp (disch:=omega) only [go_sem,Int.reduceEq,↓reduceIte,reduceCtorEq,Nat.reduceEqDiff,Nat.reduceLT,Nat.reduceLeDiff,Nat.reduceAdd,Nat.reduceSub,Nat.reduceMul,Int.reduceToNat,Int.reduceLE,Int.reduceLT,NT,Sp_field_Get,hml,ht2,ht3,hd2,hb2,hl2,hg,hsl,mB_inj,Sg3,St.updIf,ifc_nil,gt_ifc,go_ifc,ite_self,Option.none_or,Option.some_or];(try (revert hK;intro hK;(repeat' first|(refine And.intro ?_ ?_)|(intro hc;first|cases hc|((try rw [hc]);(try simp only [stH] at hc);(try (exfalso;omega)))));all_goals first|(refine hK _ _ ?_;clear hK K;simp only [stU])|exact hK|omega)))
      refine ⟨k + 1,by omega,by omega,nm [(100,27)],Wk.of ?_⟩
      simp (disch:=omega) only [go_sem,Int.reduceEq,↓reduceIte,reduceCtorEq,Nat.reduceEqDiff,Nat.reduceLT,Nat.reduceLeDiff,Nat.reduceAdd,Nat.reduceSub,Nat.reduceMul,Int.reduceToNat,Int.reduceLE,Int.reduceLT,NT,Sp_field_Get,hs,hsn]
      all_goals first|done|rfl|exact ⟨rfl,rfl⟩
    · obtain rfl : k = n:=by omega
      repeat' first
 | refine AW.seq ?_
 | refine AW.block ?_
 | refine AW.regl NT_ok [0,2,3,4,5,6,15,16,17] ?_
 | (refine AW.regc (id:=7) NT_ok follows bb_node_takeRow_7 (by kernel_rfl) [0,2,3,4,5,6,15,16,17] ?_)
 | refine then_n ?_
 | refine then_r ?_
 | refine then_x ?_
 | refine block_x ?_
 | refine block_o (by decide) ?_
 | refine block_n ?_
 | refine block_r ?_
 | refine AW.skip ?_
 | refine AW.ret ?_
 | refine AW.exit ?_
 | refine AW.cond rfl ?_ ?_
 | refine awl_none rfl ?_
 | refine awl_nil2 ?_
 | refine awc_none rfl ?_
 | exact each_nil
 | refine each_none rfl ?_ ?_
 | refine awc_leaf2 [some 24,some 25,some 26,some 27,some 28,some 29,some 5,some 0] cc_node_takeRow_7 rfl (by kernel_rfl) (by kernel_rfl) ?_ ?_
 | (refine fun (hc : _ = _)=>?_;first|cases hc|((try rw [hc]);(try simp only [stH] at hc);(try (exfalso;omega)));(try ((first|show Awl _ _ _ _ _|show Awc _ _ _ _ _ _);simp only [stU])))
 | ((first|refine fun (K : V → List _ → _) hK=>?_|refine fun (_ : V → V)=>?_|refine fun (bb : Nat → Bool) K hK=>?_);simp (disch:=omega) only [go_sem,Int.reduceEq,↓reduceIte,reduceCtorEq,Nat.reduceEqDiff,Nat.reduceLT,Nat.reduceLeDiff,Nat.reduceAdd,Nat.reduceSub,Nat.reduceMul,Int.reduceToNat,Int.reduceLE,Int.reduceLT,NT,Sp_field_Get,Sg3,St.updIf,ifc_nil,gt_ifc,go_ifc,ite_self,Option.none_or,Option.some_or];(try (revert hK;intro hK;(repeat' first|(refine And.intro ?_ ?_)|(intro hc;first|cases hc|((try rw [hc]);(try simp only [stH] at hc);(try (exfalso;omega)))));all_goals first|(refine hK _ _ ?_;clear hK K;simp only [stU])|exact hK|omega)))
      (refine Ends.of (nm [(0,100)]) (by first|exact .inl rfl|exact .inr rfl) ?_;simp (disch:=omega) only [go_sem,Int.reduceEq,↓reduceIte,reduceCtorEq,Nat.reduceEqDiff,Nat.reduceLT,Nat.reduceLeDiff,Nat.reduceAdd,Nat.reduceSub,Nat.reduceMul,Int.reduceToNat,Int.reduceLE,Int.reduceLT,NT,Sp_field_Get,tkOut,hL,hR,takeI_len])
theorem ent_node_takeRow : Ent Try.prog 71:=⟨_,Try.func71,rfl,by decide⟩
def rN (b : List Int) : Int:=leV ((nI b).take 2)
def rM (b : List Int) : List Int:=(nI b).drop 2
def rU (b : List Int) : List Int:=tkL (rM b)
def rR (b : List Int) : List Int:=tkL (tkR (rM b))
def rootOk (b : List Int) : Prop:=oH 4 b ∧ nN b = 1 ∧ mayR (rN b) (rU b) (rR b) ∧ rootP (rN b) (rU b) (rR b) = b
def rootNo : Out:=⟨.tup [.d (.v (.int .i64 0)),.nil,.nil,.d (.v (.bool false))],[]⟩
open Classical in
noncomputable def rootOut (b : List Int) : Out:=if rootOk b then ⟨.tup [.d (.v (.int .i64 (rN b))),.sl 0 1 0 (rU b).length true,.sl 1 1 0 (rR b).length true,.d (.v (.bool true))],[(0,.row 3 1 ((rU b).map mI)),(1,.row 3 1 ((rR b).map mI))]⟩ else rootNo
theorem rootP_byt (now : Int) (u r : List Int) : Byt (rootP now u r):=nodP_byt (by omega) (by omega) (byt_append (putB_byt _ _) (byt_append (rowB_byt _) (rowB_byt _)))
theorem rootP_len (now : Int) (u r : List Int) : (rootP now u r).length = 128:=nodP_len _ _ _
noncomputable def NQ : Env:=⟨Try.prog,fun f ds out=>(f = 66 ∧ Sp_node_open ds out) ∨ (f = 70 ∧ Sp_field_Get ds out) ∨ (f = 71 ∧ Sp_node_takeRow ds out) ∨ (f = 22 ∧ Sp_node_PackRoot ds out) ∨ (f = 68 ∧ Sp_bytes_Equal ds out),Es,fun f=>decide (f = 71)⟩
theorem NQ_sp : ∀ f ds out,NQ.Sp f ds out → Ent NQ.P f ∧ Good NQ.P f (fun a b=>a = ds ∧ b = out):=by
  rintro f ds out (⟨rfl,h⟩|⟨rfl,h⟩|⟨rfl,h⟩|⟨rfl,h⟩|⟨rfl,h⟩)
  · exact ⟨ent_node_open,good_node_open.one h⟩
  · exact ⟨ent_field_Get,good_field_Get.one h⟩
  · exact ⟨ent_node_takeRow,good_node_takeRow.one h⟩
  · exact ⟨ent_node_PackRoot,good_node_PackRoot.one h⟩
  · exact ⟨ent_bytes_Equal,good_bytes_Equal.one h⟩
theorem NQ_ok : NQ.Ok:=⟨NQ_sp,Es_ok⟩
def Sp_node_Root (ds : List D) (out : Out) : Prop:=∃ b : List Int,ds = [.list (b.map mB)] ∧ Byt b ∧ b.length ≤ 9223372036854775807 ∧ out = rootOut b
theorem good_node_Root : Good Try.prog 43 Sp_node_Root:=by
  refine good_body (E:=NQ) (nt:=57) (rs:=#[.tmp 2,.tmp 3,.tmp 4,.tmp 5]) Try.func43 rfl rfl rfl ?_
  rintro ds out ⟨b,rfl,hb,hl,rfl⟩
  refine ⟨by simp,?_⟩
  have hbt : Byt b = True:=eq_true hb
  by_cases ho : oH 4 b
  case neg =>
    have hop : opnOut 4 b = ⟨.tup [.nil,.d (.v (.int .i64 0)),.d (.v (.bool false))],[]⟩:=if_neg ho
    have hz : rootOut b = rootNo:=if_neg fun h=>ho h.1
    repeat' first
 | refine AW.seq ?_
 | refine AW.block ?_
 | refine AW.regl NQ_ok [0,2,3,4,5,6,7,8,9,21,53] ?_
 | refine then_n ?_
 | refine then_r ?_
 | refine then_x ?_
 | refine block_x ?_
 | refine block_o (by decide) ?_
 | refine block_n ?_
 | refine block_r ?_
 | refine AW.skip ?_
 | refine AW.ret ?_
 | refine AW.exit ?_
 | refine AW.cond rfl ?_ ?_
 | refine awl_none rfl ?_
 | refine awl_nil2 ?_
 | refine awl_some rfl rfl (Nat.le_of_ble_eq_true rfl) rfl rfl ?_ ?_
 | (refine fun (hc : _ = _)=>?_;first|cases hc|((try rw [hc]);(try simp only [stH] at hc);(try (exfalso;omega)));(try (show Awl _ _ _ _ _;simp only [stU])))
 | ((first|refine fun (K : V → List _ → _) hK=>?_|refine fun (_ : V → V)=>?_);simp (disch:=omega) only [go_sem,Int.reduceEq,↓reduceIte,reduceCtorEq,Nat.reduceEqDiff,Nat.reduceLT,Nat.reduceLeDiff,Nat.reduceAdd,Nat.reduceSub,Nat.reduceMul,Int.reduceToNat,Int.reduceLE,Int.reduceLT,NQ,Sp_node_open,Sp_field_Get,Sp_node_takeRow,Sp_node_PackRoot,Sp_bytes_Equal,hbt,hop,mB_inj];(try (revert hK;intro hK;(repeat' first|(refine And.intro ?_ ?_)|(intro hc;first|cases hc|((try rw [hc]);(try simp only [stH] at hc);(try (exfalso;omega)))));all_goals first|(refine hK _ _ ?_;clear hK K;simp only [stU])|exact hK|omega)))
    (refine Ends.of (nm []) (by first|exact .inl rfl|exact .inr rfl) ?_;simp (disch:=omega) only [go_sem,Int.reduceEq,↓reduceIte,reduceCtorEq,Nat.reduceEqDiff,Nat.reduceLT,Nat.reduceLeDiff,Nat.reduceAdd,Nat.reduceSub,Nat.reduceMul,Int.reduceToNat,Int.reduceLE,Int.reduceLT,NQ,Sp_node_open,Sp_field_Get,Sp_node_takeRow,Sp_node_PackRoot,Sp_bytes_Equal,hz,rootNo])
  have hop : opnOut 4 b = ⟨.tup [.sl 0 1 3 121 false,.d (.v (.int .i64 (nN b))),.d (.v (.bool true))],[(0,.row 5 1 ((b.take 124).map mB))]⟩:=if_pos ho
  have h8:=ho.1.1
  by_cases h1 : nN b = 1
  case neg =>
    have hz : rootOut b = rootNo:=if_neg fun h=>h1 h.2.1
    repeat' first
 | refine AW.seq ?_
 | refine AW.block ?_
 | refine AW.regl NQ_ok [0,2,3,4,5,6,7,8,9,21,53] ?_
 | refine then_n ?_
 | refine then_r ?_
 | refine then_x ?_
 | refine block_x ?_
 | refine block_o (by decide) ?_
 | refine block_n ?_
 | refine block_r ?_
 | refine AW.skip ?_
 | refine AW.ret ?_
 | refine AW.exit ?_
 | refine AW.cond rfl ?_ ?_
 | refine awl_none rfl ?_
 | refine awl_nil2 ?_
 | refine awl_some rfl rfl (Nat.le_of_ble_eq_true rfl) rfl rfl ?_ ?_
 | (refine fun (hc : _ = _)=>?_;first|cases hc|((try rw [hc]);(try simp only [stH] at hc);(try (exfalso;omega)));(try (show Awl _ _ _ _ _;simp only [stU])))
 | ((first|refine fun (K : V → List _ → _) hK=>?_|refine fun (_ : V → V)=>?_);simp (disch:=omega) only [go_sem,Int.reduceEq,↓reduceIte,reduceCtorEq,Nat.reduceEqDiff,Nat.reduceLT,Nat.reduceLeDiff,Nat.reduceAdd,Nat.reduceSub,Nat.reduceMul,Int.reduceToNat,Int.reduceLE,Int.reduceLT,NQ,Sp_node_open,Sp_field_Get,Sp_node_takeRow,Sp_node_PackRoot,Sp_bytes_Equal,hbt,hop,mB_inj];(try (revert hK;intro hK;(repeat' first|(refine And.intro ?_ ?_)|(intro hc;first|cases hc|((try rw [hc]);(try simp only [stH] at hc);(try (exfalso;omega)))));all_goals first|(refine hK _ _ ?_;clear hK K;simp only [stU])|exact hK|omega)))
    (refine Ends.of (nm []) (by first|exact .inl rfl|exact .inr rfl) ?_;simp (disch:=omega) only [go_sem,Int.reduceEq,↓reduceIte,reduceCtorEq,Nat.reduceEqDiff,Nat.reduceLT,Nat.reduceLeDiff,Nat.reduceAdd,Nat.reduceSub,Nat.reduceMul,Int.reduceToNat,Int.reduceLE,Int.reduceLT,NQ,Sp_node_open,Sp_field_Get,Sp_node_takeRow,Sp_node_PackRoot,Sp_bytes_Equal,hz,rootNo])
  have hlt : (b.take 124).length = 124:=by rw [List.length_take];omega
  have hnb:=nI_byt hb
  have hnl:=nI_len h8
  have hok : rootOk b ↔ mayR (rN b) (rU b) (rR b) ∧ rootP (rN b) (rU b) (rR b) = b:=⟨fun h=>h.2.2,fun h=>⟨ho,h1,h⟩⟩
  have hyes : rootOk b → rootOut b = ⟨.tup [.d (.v (.int .i64 (rN b))),.sl 0 1 0 (rU b).length true,.sl 1 1 0 (rR b).length true,.d (.v (.bool true))],[(0,.row 3 1 ((rU b).map mI)),(1,.row 3 1 ((rR b).map mI))]⟩:=fun h=>if_pos h
  have hno : ¬ rootOk b → rootOut b = rootNo:=fun h=>if_neg h
  have hb2 : Byt ((nI b).take 2) = True:=eq_true (byt_take hnb 2)
  have hl2 : ((nI b).take 2).length = 2:=by rw [List.length_take];omega
  have hg : getOut ((nI b).take 2) = ⟨.tup [.d (.v (.int .i64 (rN b))),.d (.v (.bool true))],[]⟩:=by rw [getOut,if_neg (by omega)];rfl
  have hMl : (rM b).length = 119:=by unfold rM;rw [List.length_drop,hnl]
  have hMb : Byt (rM b):=byt_drop hnb 2
  have hMy : Byt (rM b) = True:=eq_true hMb
  have hTb : Byt (tkR (rM b)) = True:=eq_true (tkR_byt hMb)
  have hn4:=tkN_le (rM b)
  have hTl : (tkR (rM b)).length = 118 - 2 * tkN (rM b):=by rw [tkR_len,hMl]
  have hT9 : 9 ≤ (tkR (rM b)).length:=by omega
  have hT1 : (tkR (rM b)).length ≤ 1000000:=by omega
  have c1 : (((b.take 124).map mB).drop 3).take 2 = ((nI b).take 2).map mB:=by unfold nI;simp only [List.map_take,List.map_drop]
  have c2 : (((b.take 124).map mB).drop 5).take 119 = (rM b).map mB:=by
    unfold rM nI
    rw [List.take_of_length_le (by rw [List.length_drop,List.length_map,hlt];omega),List.map_drop,List.map_drop,List.drop_drop]
  have o1 : tkOut (rM b) = ⟨.tup [.sl 0 1 0 (rU b).length true,.d (.list ((tkR (rM b)).map mB))],[(0,.row 3 1 ((rU b).map mI))]⟩:=rfl
  have o2 : tkOut (tkR (rM b)) = ⟨.tup [.sl 0 1 0 (rR b).length true,.d (.list ((tkR (tkR (rM b))).map mB))],[(0,.row 3 1 ((rR b).map mI))]⟩:=rfl
  have hU4 : (rU b).length ≤ 4:=by unfold rU tkL;rw [takeI_len];exact tkN_le _
  have hR4 : (rR b).length ≤ 4:=by unfold rR tkL;rw [takeI_len];exact tkN_le _
  have hUt : ((rU b).map mI).take (rU b).length = (rU b).map mI:=List.take_of_length_le (by simp)
  have hRt : ((rR b).map mI).take (rR b).length = (rR b).map mI:=List.take_of_length_le (by simp)
  have hTt : ((tkR (rM b)).map mB).take (tkR (rM b)).length = (tkR (rM b)).map mB:=List.take_of_length_le (by simp)
  rw [h1] at hop
  clear ho hnb hnl hMb hn4 hTl h8
  generalize rU b = U at *
  generalize rR b = R at *
  generalize rN b = w at *
  generalize tkR (rM b) = T at *
  generalize tkR T = T2 at *
  generalize rM b = M at *
  by_cases hm : mayR w U R
  case neg =>
    have hz:=hno fun h=>hm (hok.1 h).1
    have hp : packROut w U R = ⟨.tup [.nil,.d (.v (.bool false))],[]⟩:=if_neg hm
    clear hm hok hyes hno
    repeat' first
 | refine AW.seq ?_
 | refine AW.block ?_
 | refine AW.regl NQ_ok [0,2,3,4,5,6,7,8,9,21,53] ?_
 | refine then_n ?_
 | refine then_r ?_
 | refine then_x ?_
 | refine block_x ?_
 | refine block_o (by decide) ?_
 | refine block_n ?_
 | refine block_r ?_
 | refine AW.skip ?_
 | refine AW.ret ?_
 | refine AW.exit ?_
 | refine AW.cond rfl ?_ ?_
 | refine awl_none rfl ?_
 | refine awl_nil2 ?_
 | refine awl_some rfl rfl (Nat.le_of_ble_eq_true rfl) rfl rfl ?_ ?_
 | (refine fun (hc : _ = _)=>?_;first|cases hc|((try rw [hc]);(try simp only [stH] at hc);(try (exfalso;omega)));(try (show Awl _ _ _ _ _;simp only [stU])))
 | ((first|refine fun (K : V → List _ → _) hK=>?_|refine fun (_ : V → V)=>?_);simp (disch:=omega) only [go_sem,Int.reduceEq,↓reduceIte,reduceCtorEq,Nat.reduceEqDiff,Nat.reduceLT,Nat.reduceLeDiff,Nat.reduceAdd,Nat.reduceSub,Nat.reduceMul,Int.reduceToNat,Int.reduceLE,Int.reduceLT,NQ,Sp_node_open,Sp_field_Get,Sp_node_takeRow,Sp_node_PackRoot,Sp_bytes_Equal,hbt,hop,hlt,hb2,hl2,hg,hMl,hMy,hTb,c1,c2,o1,o2,hUt,hRt,hTt,hp,mB_inj,mI_inj];(try (revert hK;intro hK;(repeat' first|(refine And.intro ?_ ?_)|(intro hc;first|cases hc|((try rw [hc]);(try simp only [stH] at hc);(try (exfalso;omega)))));all_goals first|(refine hK _ _ ?_;clear hK K;simp only [stU])|exact hK|omega)))
    (refine Ends.of (nm []) (by first|exact .inl rfl|exact .inr rfl) ?_;simp (disch:=omega) only [go_sem,Int.reduceEq,↓reduceIte,reduceCtorEq,Nat.reduceEqDiff,Nat.reduceLT,Nat.reduceLeDiff,Nat.reduceAdd,Nat.reduceSub,Nat.reduceMul,Int.reduceToNat,Int.reduceLE,Int.reduceLT,NQ,Sp_node_open,Sp_field_Get,Sp_node_takeRow,Sp_node_PackRoot,Sp_bytes_Equal,hz,rootNo])
  obtain ⟨P,eP⟩ : ∃ P,rootP w U R = P:=⟨_,rfl⟩
  have hp : packROut w U R = ⟨.tup [.sl 0 1 0 128 true,.d (.v (.bool true))],[(0,.row 5 1 (P.map mB))]⟩:=by rw [packROut,if_pos hm,eP]
  have hpb : Byt P = True:=eq_true (eP ▸ rootP_byt _ _ _)
  have hpl : P.length = 128:=eP ▸ rootP_len _ _ _
  have hpt : (P.map mB).take 128 = P.map mB:=List.take_of_length_le (by rw [List.length_map,hpl];omega)
  by_cases he : P = b
  · have hz:=hyes (hok.2 ⟨hm,eP.trans he⟩)
    have hd : decide (P = b) = true:=decide_eq_true he
    clear hm he eP hok hyes hno
    repeat' first
 | refine AW.seq ?_
 | refine AW.block ?_
 | refine AW.regl NQ_ok [0,2,3,4,5,6,7,8,9,21,53] ?_
 | refine then_n ?_
 | refine then_r ?_
 | refine then_x ?_
 | refine block_x ?_
 | refine block_o (by decide) ?_
 | refine block_n ?_
 | refine block_r ?_
 | refine AW.skip ?_
 | refine AW.ret ?_
 | refine AW.exit ?_
 | refine AW.cond rfl ?_ ?_
 | refine awl_none rfl ?_
 | refine awl_nil2 ?_
 | refine awl_some rfl rfl (Nat.le_of_ble_eq_true rfl) rfl rfl ?_ ?_
 | (refine fun (hc : _ = _)=>?_;first|cases hc|((try rw [hc]);(try simp only [stH] at hc);(try (exfalso;omega)));(try (show Awl _ _ _ _ _;simp only [stU])))
 | ((first|refine fun (K : V → List _ → _) hK=>?_|refine fun (_ : V → V)=>?_);simp (disch:=omega) only [go_sem,Int.reduceEq,↓reduceIte,reduceCtorEq,Nat.reduceEqDiff,Nat.reduceLT,Nat.reduceLeDiff,Nat.reduceAdd,Nat.reduceSub,Nat.reduceMul,Int.reduceToNat,Int.reduceLE,Int.reduceLT,NQ,Sp_node_open,Sp_field_Get,Sp_node_takeRow,Sp_node_PackRoot,Sp_bytes_Equal,hbt,hop,hlt,hb2,hl2,hg,hMl,hMy,hTb,c1,c2,o1,o2,hUt,hRt,hTt,hp,hpb,hpl,hpt,hd,mB_inj,mI_inj];(try (revert hK;intro hK;(repeat' first|(refine And.intro ?_ ?_)|(intro hc;first|cases hc|((try rw [hc]);(try simp only [stH] at hc);(try (exfalso;omega)))));all_goals first|(refine hK _ _ ?_;clear hK K;simp only [stU])|exact hK|omega)))
    (refine Ends.of (nm [(0,31),(1,36)]) (by first|exact .inl rfl|exact .inr rfl) ?_;simp (disch:=omega) only [go_sem,Int.reduceEq,↓reduceIte,reduceCtorEq,Nat.reduceEqDiff,Nat.reduceLT,Nat.reduceLeDiff,Nat.reduceAdd,Nat.reduceSub,Nat.reduceMul,Int.reduceToNat,Int.reduceLE,Int.reduceLT,NQ,Sp_node_open,Sp_field_Get,Sp_node_takeRow,Sp_node_PackRoot,Sp_bytes_Equal,hz])
  · have hz:=hno fun h=>he (eP.symm.trans (hok.1 h).2)
    have hd : decide (P = b) = false:=decide_eq_false he
    clear hm he eP hok hyes hno
    repeat' first
 | refine AW.seq ?_
 | refine AW.block ?_
 | refine AW.regl NQ_ok [0,2,3,4,5,6,7,8,9,21,53] ?_
 | refine then_n ?_
 | refine then_r ?_
 | refine then_x ?_
 | refine block_x ?_
 | refine block_o (by decide) ?_
 | refine block_n ?_
 | refine block_r ?_
 | refine AW.skip ?_
 | refine AW.ret ?_
 | refine AW.exit ?_
 | refine AW.cond rfl ?_ ?_
 | refine awl_none rfl ?_
 | refine awl_nil2 ?_
 | refine awl_some rfl rfl (Nat.le_of_ble_eq_true rfl) rfl rfl ?_ ?_
 | (refine fun (hc : _ = _)=>?_;first|cases hc|((try rw [hc]);(try simp only [stH] at hc);(try (exfalso;omega)));(try (show Awl _ _ _ _ _;simp only [stU])))
 | ((first|refine fun (K : V → List _ → _) hK=>?_|refine fun (_ : V → V)=>?_);simp (disch:=omega) only [go_sem,Int.reduceEq,↓reduceIte,reduceCtorEq,Nat.reduceEqDiff,Nat.reduceLT,Nat.reduceLeDiff,Nat.reduceAdd,Nat.reduceSub,Nat.reduceMul,Int.reduceToNat,Int.reduceLE,Int.reduceLT,NQ,Sp_node_open,Sp_field_Get,Sp_node_takeRow,Sp_node_PackRoot,Sp_bytes_Equal,hbt,hop,hlt,hb2,hl2,hg,hMl,hMy,hTb,c1,c2,o1,o2,hUt,hRt,hTt,hp,hpb,hpl,hpt,hd,mB_inj,mI_inj];(try (revert hK;intro hK;(repeat' first|(refine And.intro ?_ ?_)|(intro hc;first|cases hc|((try rw [hc]);(try simp only [stH] at hc);(try (exfalso;omega)))));all_goals first|(refine hK _ _ ?_;clear hK K;simp only [stU])|exact hK|omega)))
    (refine Ends.of (nm []) (by first|exact .inl rfl|exact .inr rfl) ?_;simp (disch:=omega) only [go_sem,Int.reduceEq,↓reduceIte,reduceCtorEq,Nat.reduceEqDiff,Nat.reduceLT,Nat.reduceLeDiff,Nat.reduceAdd,Nat.reduceSub,Nat.reduceMul,Int.reduceToNat,Int.reduceLE,Int.reduceLT,NQ,Sp_node_open,Sp_field_Get,Sp_node_takeRow,Sp_node_PackRoot,Sp_bytes_Equal,hz,rootNo])
theorem ent_node_Root : Ent Try.prog 43:=⟨_,Try.func43,rfl,by decide⟩
end Go.Proofs.Ytigkcigoiinkpaa.Am
