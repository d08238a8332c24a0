import Derived.Test.YtigkcigoiinkpaaZQZ
set_option linter.unusedVariables false
set_option linter.unusedSimpArgs false
set_option maxRecDepth 10000
set_option maxHeartbeats 0
namespace Go.Proofs.Ytigkcigoiinkpaa.Am
open Go Go.RowKit Go.Proofs
noncomputable def QX : Env:=⟨Try.prog,fun f ds out=>(f = 29 ∧ Sp_overdublaw20_parts ds out) ∨ (f = 21 ∧ Sp_node_PackNode ds out) ∨ (f = 30 ∧ Sp_overdubref20_PackNode ds out) ∨ (f = 14 ∧ Sp_overdubkeep_Same_byte ds out) ∨ (f = 27 ∧ Sp_overdublaw20_read ds out) ∨ (f = 28 ∧ Sp_overdublaw20_spoilt ds out) ∨ (f = 11 ∧ Sp_overdublaw20_lines ds out) ∨ (f = 13 ∧ Sp_node_PackDir ds out) ∨ (f = 31 ∧ Sp_overdubref20_PackDir ds out) ∨ (f = 20 ∧ Sp_overdubkeep_Within ds out) ∨ (f = 32 ∧ Sp_overdublaw20_sectors ds out) ∨ (f = 22 ∧ Sp_node_PackRoot ds out) ∨ (f = 33 ∧ Sp_overdubref20_PackRoot ds out) ∨ (f = 17 ∧ Sp_overdublaw20_wakes ds out),Es,fun _=>false⟩
theorem QX_sp : ∀ f ds out,QX.Sp f ds out → Ent QX.P f ∧ Good QX.P f (fun a b=>a = ds ∧ b = out):=by
  rintro f ds out (⟨rfl,h⟩|⟨rfl,h⟩|⟨rfl,h⟩|⟨rfl,h⟩|⟨rfl,h⟩|⟨rfl,h⟩|⟨rfl,h⟩|⟨rfl,h⟩|⟨rfl,h⟩|⟨rfl,h⟩|⟨rfl,h⟩|⟨rfl,h⟩|⟨rfl,h⟩|⟨rfl,h⟩)
  · exact ⟨ent_overdublaw20_parts,good_overdublaw20_parts.one h⟩
  · exact ⟨ent_node_PackNode,good_node_PackNode.one h⟩
  · exact ⟨ent_overdubref20_PackNode,good_overdubref20_PackNode.one h⟩
  · exact ⟨ent_overdubkeep_Same_byte,good_overdubkeep_Same_byte.one h⟩
  · exact ⟨ent_overdublaw20_read,good_overdublaw20_read.one h⟩
  · exact ⟨ent_overdublaw20_spoilt,good_overdublaw20_spoilt.one h⟩
  · exact ⟨ent_overdublaw20_lines,good_overdublaw20_lines.one h⟩
  · exact ⟨ent_node_PackDir,good_node_PackDir.one h⟩
  · exact ⟨ent_overdubref20_PackDir,good_overdubref20_PackDir.one h⟩
  · exact ⟨ent_overdubkeep_Within,good_overdubkeep_Within.one h⟩
  · exact ⟨ent_overdublaw20_sectors,good_overdublaw20_sectors.one h⟩
  · exact ⟨ent_node_PackRoot,good_node_PackRoot.one h⟩
  · exact ⟨ent_overdubref20_PackRoot,good_overdubref20_PackRoot.one h⟩
  · exact ⟨ent_overdublaw20_wakes,good_overdublaw20_wakes.one h⟩
theorem QX_ok : QX.Ok:=⟨QX_sp,Es_ok⟩
def stX1 (l : List Ln) (now : Int) (u r : List Int) (rt : Bool) (at' c : Int) (sm : Bool) : St:=⟨[(1,.d (.list (l.map lD))),(2,.d (.v (.int .i64 now))),(3,.d (.list (u.map mI))),(4,.d (.list (r.map mI))),(5,.d (.v (.bool rt))),(6,.d (.v (.int .i64 at'))),(7,.d (.v (.int .u8 c))),(8,.d (.v (.bool sm))),(18,.d (.v (.bool false)))],[],160⟩
def stX2 (now : Int) (u r : List Int) (rt : Bool) (at' c : Int) (sm : Bool) : St:=⟨[(2,.d (.v (.int .i64 now))),(3,.d (.list (u.map mI))),(4,.d (.list (r.map mI))),(5,.d (.v (.bool rt))),(6,.d (.v (.int .i64 at'))),(7,.d (.v (.int .u8 c))),(8,.d (.v (.bool sm))),(18,.d (.v (.bool false)))],[],160⟩
def stX3 (now : Int) (u r : List Int) (at' c : Int) (sm : Bool) : St:=⟨[(2,.d (.v (.int .i64 now))),(3,.sl 100 1 0 u.length true),(4,.sl 101 1 0 r.length true),(6,.d (.v (.int .i64 at'))),(7,.d (.v (.int .u8 c))),(8,.d (.v (.bool sm))),(18,.d (.v (.bool false)))],[(100,.row 3 1 (u.map mI)),(101,.row 3 1 (r.map mI))],160⟩
theorem seG_len (rt : Bool) (l : List Int) : (seG rt l).length ≤ 6:=by unfold seG;rw [List.length_map,List.length_take];omega
def Sp_overdublaw20_NodeNodes (ds : List D) (out : Out) : Prop:=∃ (p : List Pa) (l : List Ln) (now : Int) (u r : List Int) (rt : Bool) (at' c : Int) (sm : Bool),ds = [.list (p.map pD),.list (l.map lD),.v (.int .i64 now),.list (u.map mI),.list (r.map mI),.v (.bool rt),.v (.int .i64 at'),.v (.int .u8 c),.v (.bool sm)] ∧ p.length ≤ 9223372036854775807 ∧ l.length ≤ 9223372036854775807 ∧ u.length ≤ 9223372036854775807 ∧ r.length ≤ 9223372036854775807 ∧ out = ⟨.d (.v (.bool true)),[]⟩
theorem good_overdublaw20_NodeNodes : Good Try.prog 6 Sp_overdublaw20_NodeNodes:=by
  refine good_body (E:=QX) (nt:=160) (rs:=#[.tmp 18]) Try.func6 rfl rfl rfl ?_
  rintro ds out ⟨p,l,now,u,r,rt,at',c,sm,rfl,hp,hl,hu,hr,rfl⟩
  refine ⟨by simp,?_⟩
  have d0 : decide (([] : List Int) = []) = true:=decide_eq_true rfl
  refine AW.m5 (stX1 l now u r rt at' c sm) ?_ ?_
  · have hF : (paG rt 10 0 p).length ≤ 10:=by rw [paG_len];omega
    have ho : partsOut rt p = ⟨.tup [.sl 0 2 0 (paG rt 10 0 p).length true,.sl 1 2 0 (paG rt 10 0 p).length true],[(0,.row 47 2 ((paG rt 10 0 p).map pD)),(1,.row 96 2 ((paG rt 10 0 p).map pD))]⟩:=rfl
    generalize paG rt 10 0 p = F at *
    have ht : (F.map pD).take F.length = F.map pD:=List.take_of_length_le (by simp)
    by_cases hm : mayN F
    case neg =>
      have p1 : packNOut F = ⟨.tup [.nil,.d (.v (.bool false))],[]⟩:=if_neg hm
      clear hm
      repeat' first
 | refine AW.seq ?_
 | refine AW.block ?_
 | refine AW.regl QX_ok [0,1,2,3,4,5,6,7,8,18,19,20,21,22,23,24,25,26,67,108,109] ?_
 | refine then_n ?_
 | refine then_r ?_
 | refine then_x ?_
 | refine block_x ?_
 | refine block_o (by decide) ?_
 | refine block_n ?_
 | refine block_r ?_
 | refine AW.skip ?_
 | refine AW.ret ?_
 | refine AW.exit ?_
 | refine AW.cond rfl ?_ ?_
 | refine awl_none rfl ?_
 | refine awl_nil2 ?_
 | refine awl_some rfl rfl (Nat.le_of_ble_eq_true rfl) rfl rfl ?_ ?_
 | (refine awl_skip rfl rfl (Nat.le_of_ble_eq_true rfl) rfl rfl ?_;simp only [stU])
 | (refine fun (hc : _ = _)=>?_;first|cases hc|((try rw [hc]);(try simp only [stH] at hc);(try (exfalso;omega)));(try (show Awl _ _ _ _ _;simp only [stU])))
 | ((first|refine fun (K : V → List _ → _) hK=>?_|refine fun (_ : V → V)=>?_);simp (disch:=omega) only [go_sem,Int.reduceEq,↓reduceIte,reduceCtorEq,Nat.reduceEqDiff,Nat.reduceLT,Nat.reduceLeDiff,Nat.reduceAdd,Nat.reduceSub,Nat.reduceMul,Int.reduceToNat,Int.reduceLE,Int.reduceLT,QX,Sp_overdublaw20_parts,Sp_node_PackNode,Sp_overdubref20_PackNode,Sp_overdubkeep_Same_byte,Sp_overdublaw20_read,Sp_overdublaw20_spoilt,Sp_overdublaw20_lines,Sp_node_PackDir,Sp_overdubref20_PackDir,Sp_overdubkeep_Within,Sp_overdublaw20_sectors,Sp_node_PackRoot,Sp_overdubref20_PackRoot,Sp_overdublaw20_wakes,ho,ht,p1,d0,nil_BV,pD_inj,mB_inj];(try (revert hK;intro hK;(repeat' first|(refine And.intro ?_ ?_)|(intro hc;first|cases hc|((try rw [hc]);(try simp only [stH] at hc);(try (exfalso;omega)))));all_goals first|(refine hK _ _ ?_;clear hK K;simp only [stU])|exact hK|omega)))
      refine ⟨nm [],Wk.of ?_⟩
      simp (disch:=omega) only [go_sem,Int.reduceEq,↓reduceIte,reduceCtorEq,Nat.reduceEqDiff,Nat.reduceLT,Nat.reduceLeDiff,Nat.reduceAdd,Nat.reduceSub,Nat.reduceMul,Int.reduceToNat,Int.reduceLE,Int.reduceLT,QX,Sp_overdublaw20_parts,Sp_node_PackNode,Sp_overdubref20_PackNode,Sp_overdubkeep_Same_byte,Sp_overdublaw20_read,Sp_overdublaw20_spoilt,Sp_overdublaw20_lines,Sp_node_PackDir,Sp_overdubref20_PackDir,Sp_overdubkeep_Within,Sp_overdublaw20_sectors,Sp_node_PackRoot,Sp_overdubref20_PackRoot,Sp_overdublaw20_wakes,stX1]
    have p1 : packNOut F = ⟨.tup [.sl 0 1 0 128 true,.d (.v (.bool true))],[(0,.row 5 1 ((nodP 2 F.length (psB F)).map mB))]⟩:=if_pos hm
    have hPb : Byt (nodP 2 F.length (psB F)):=nodP_byt (by omega) (by omega) (psB_byt F)
    have hPl : (nodP 2 (F.length : Int) (psB F)).length = 128:=nodP_len _ _ _
    clear hm
    generalize nodP 2 (F.length : Int) (psB F) = P at *
    have hPy : Byt P = True:=eq_true hPb
    have hPt : (P.map mB).take 128 = P.map mB:=List.take_of_length_le (by rw [List.length_map,hPl];omega)
    have dP : decide (P = P) = true:=decide_eq_true rfl
    have hYy : Byt (spoN P at' c sm) = True:=eq_true (spoN_byt hPb _ _ _)
    have hYl:=spoN_len hPl at' c sm
    have hYt : ((spoN P at' c sm).map mB).take 128 = (spoN P at' c sm).map mB:=List.take_of_length_le (by rw [List.length_map,hYl];omega)
    clear hPb
    repeat' first
 | refine AW.seq ?_
 | refine AW.block ?_
 | refine AW.regl QX_ok [0,1,2,3,4,5,6,7,8,18,19,20,21,22,23,24,25,26,67,108,109] ?_
 | refine then_n ?_
 | refine then_r ?_
 | refine then_x ?_
 | refine block_x ?_
 | refine block_o (by decide) ?_
 | refine block_n ?_
 | refine block_r ?_
 | refine AW.skip ?_
 | refine AW.ret ?_
 | refine AW.exit ?_
 | refine AW.cond rfl ?_ ?_
 | refine awl_none rfl ?_
 | refine awl_nil2 ?_
 | refine awl_some rfl rfl (Nat.le_of_ble_eq_true rfl) rfl rfl ?_ ?_
 | (refine awl_skip rfl rfl (Nat.le_of_ble_eq_true rfl) rfl rfl ?_;simp only [stU])
 | (refine fun (hc : _ = _)=>?_;first|cases hc|((try rw [hc]);(try simp only [stH] at hc);(try (exfalso;omega)));(try (show Awl _ _ _ _ _;simp only [stU])))
 | ((first|refine fun (K : V → List _ → _) hK=>?_|refine fun (_ : V → V)=>?_);simp (disch:=omega) only [go_sem,Int.reduceEq,↓reduceIte,reduceCtorEq,Nat.reduceEqDiff,Nat.reduceLT,Nat.reduceLeDiff,Nat.reduceAdd,Nat.reduceSub,Nat.reduceMul,Int.reduceToNat,Int.reduceLE,Int.reduceLT,QX,Sp_overdublaw20_parts,Sp_node_PackNode,Sp_overdubref20_PackNode,Sp_overdubkeep_Same_byte,Sp_overdublaw20_read,Sp_overdublaw20_spoilt,Sp_overdublaw20_lines,Sp_node_PackDir,Sp_overdubref20_PackDir,Sp_overdubkeep_Within,Sp_overdublaw20_sectors,Sp_node_PackRoot,Sp_overdubref20_PackRoot,Sp_overdublaw20_wakes,ho,ht,p1,hPl,hPy,hPt,dP,hYy,hYl,hYt,pD_inj,mB_inj];(try (revert hK;intro hK;(repeat' first|(refine And.intro ?_ ?_)|(intro hc;first|cases hc|((try rw [hc]);(try simp only [stH] at hc);(try (exfalso;omega)))));all_goals first|(refine hK _ _ ?_;clear hK K;simp only [stU])|exact hK|omega)))
    refine ⟨nm [],Wk.of ?_⟩
    simp (disch:=omega) only [go_sem,Int.reduceEq,↓reduceIte,reduceCtorEq,Nat.reduceEqDiff,Nat.reduceLT,Nat.reduceLeDiff,Nat.reduceAdd,Nat.reduceSub,Nat.reduceMul,Int.reduceToNat,Int.reduceLE,Int.reduceLT,QX,Sp_overdublaw20_parts,Sp_node_PackNode,Sp_overdubref20_PackNode,Sp_overdubkeep_Same_byte,Sp_overdublaw20_read,Sp_overdublaw20_spoilt,Sp_overdublaw20_lines,Sp_node_PackDir,Sp_overdubref20_PackDir,Sp_overdubkeep_Within,Sp_overdublaw20_sectors,Sp_node_PackRoot,Sp_overdubref20_PackRoot,Sp_overdublaw20_wakes,stX1]
  refine AW.m4 (stX2 now u r rt at' c sm) ?_ ?_
  · have hF : (lnG rt 8 (-1) l).length ≤ 8:=by rw [lnG_len];omega
    have ho : linesOut rt l = ⟨.tup [.sl 0 3 0 (lnG rt 8 (-1) l).length true,.sl 1 3 0 (lnG rt 8 (-1) l).length true],[(0,.row 36 3 ((lnG rt 8 (-1) l).map lD)),(1,.row 86 3 ((lnG rt 8 (-1) l).map lD))]⟩:=rfl
    generalize lnG rt 8 (-1) l = F at *
    have ht : (F.map lD).take F.length = F.map lD:=List.take_of_length_le (by simp)
    by_cases hm : mayD F
    case neg =>
      have p1 : packDOut F = ⟨.tup [.nil,.d (.v (.bool false))],[]⟩:=if_neg hm
      clear hm
      repeat' first
 | refine AW.seq ?_
 | refine AW.block ?_
 | refine AW.regl QX_ok [0,1,2,3,4,5,6,7,8,18,19,20,21,22,23,24,25,26,67,108,109] ?_
 | refine then_n ?_
 | refine then_r ?_
 | refine then_x ?_
 | refine block_x ?_
 | refine block_o (by decide) ?_
 | refine block_n ?_
 | refine block_r ?_
 | refine AW.skip ?_
 | refine AW.ret ?_
 | refine AW.exit ?_
 | refine AW.cond rfl ?_ ?_
 | refine awl_none rfl ?_
 | refine awl_nil2 ?_
 | refine awl_some rfl rfl (Nat.le_of_ble_eq_true rfl) rfl rfl ?_ ?_
 | (refine awl_skip rfl rfl (Nat.le_of_ble_eq_true rfl) rfl rfl ?_;simp only [stU])
 | (refine fun (hc : _ = _)=>?_;first|cases hc|((try rw [hc]);(try simp only [stH] at hc);(try (exfalso;omega)));(try (show Awl _ _ _ _ _;simp only [stU])))
 | ((first|refine fun (K : V → List _ → _) hK=>?_|refine fun (_ : V → V)=>?_);simp (disch:=omega) only [go_sem,Int.reduceEq,↓reduceIte,reduceCtorEq,Nat.reduceEqDiff,Nat.reduceLT,Nat.reduceLeDiff,Nat.reduceAdd,Nat.reduceSub,Nat.reduceMul,Int.reduceToNat,Int.reduceLE,Int.reduceLT,QX,Sp_overdublaw20_parts,Sp_node_PackNode,Sp_overdubref20_PackNode,Sp_overdubkeep_Same_byte,Sp_overdublaw20_read,Sp_overdublaw20_spoilt,Sp_overdublaw20_lines,Sp_node_PackDir,Sp_overdubref20_PackDir,Sp_overdubkeep_Within,Sp_overdublaw20_sectors,Sp_node_PackRoot,Sp_overdubref20_PackRoot,Sp_overdublaw20_wakes,stX1,ho,ht,p1,d0,nil_BV,lD_inj,mB_inj];(try (revert hK;intro hK;(repeat' first|(refine And.intro ?_ ?_)|(intro hc;first|cases hc|((try rw [hc]);(try simp only [stH] at hc);(try (exfalso;omega)))));all_goals first|(refine hK _ _ ?_;clear hK K;simp only [stU])|exact hK|omega)))
      refine ⟨nm [],Wk.of ?_⟩
      simp (disch:=omega) only [go_sem,Int.reduceEq,↓reduceIte,reduceCtorEq,Nat.reduceEqDiff,Nat.reduceLT,Nat.reduceLeDiff,Nat.reduceAdd,Nat.reduceSub,Nat.reduceMul,Int.reduceToNat,Int.reduceLE,Int.reduceLT,QX,Sp_overdublaw20_parts,Sp_node_PackNode,Sp_overdubref20_PackNode,Sp_overdubkeep_Same_byte,Sp_overdublaw20_read,Sp_overdublaw20_spoilt,Sp_overdublaw20_lines,Sp_node_PackDir,Sp_overdubref20_PackDir,Sp_overdubkeep_Within,Sp_overdublaw20_sectors,Sp_node_PackRoot,Sp_overdubref20_PackRoot,Sp_overdublaw20_wakes,stX2]
    have p1 : packDOut F = ⟨.tup [.sl 0 1 0 128 true,.d (.v (.bool true))],[(0,.row 5 1 ((nodP 3 F.length (lsB F)).map mB))]⟩:=if_pos hm
    have hPb : Byt (nodP 3 F.length (lsB F)):=nodP_byt (by omega) (by omega) (lsB_byt F)
    have hPl : (nodP 3 (F.length : Int) (lsB F)).length = 128:=nodP_len _ _ _
    clear hm
    generalize nodP 3 (F.length : Int) (lsB F) = P at *
    have hPy : Byt P = True:=eq_true hPb
    have hPt : (P.map mB).take 128 = P.map mB:=List.take_of_length_le (by rw [List.length_map,hPl];omega)
    have dP : decide (P = P) = true:=decide_eq_true rfl
    have hYy : Byt (spoN P at' c sm) = True:=eq_true (spoN_byt hPb _ _ _)
    have hYl:=spoN_len hPl at' c sm
    have hYt : ((spoN P at' c sm).map mB).take 128 = (spoN P at' c sm).map mB:=List.take_of_length_le (by rw [List.length_map,hYl];omega)
    clear hPb
    repeat' first
 | refine AW.seq ?_
 | refine AW.block ?_
 | refine AW.regl QX_ok [0,1,2,3,4,5,6,7,8,18,19,20,21,22,23,24,25,26,67,108,109] ?_
 | refine then_n ?_
 | refine then_r ?_
 | refine then_x ?_
 | refine block_x ?_
 | refine block_o (by decide) ?_
 | refine block_n ?_
 | refine block_r ?_
 | refine AW.skip ?_
 | refine AW.ret ?_
 | refine AW.exit ?_
 | refine AW.cond rfl ?_ ?_
 | refine awl_none rfl ?_
 | refine awl_nil2 ?_
 | refine awl_some rfl rfl (Nat.le_of_ble_eq_true rfl) rfl rfl ?_ ?_
 | (refine awl_skip rfl rfl (Nat.le_of_ble_eq_true rfl) rfl rfl ?_;simp only [stU])
 | (refine fun (hc : _ = _)=>?_;first|cases hc|((try rw [hc]);(try simp only [stH] at hc);(try (exfalso;omega)));(try (show Awl _ _ _ _ _;simp only [stU])))
 | ((first|refine fun (K : V → List _ → _) hK=>?_|refine fun (_ : V → V)=>?_);simp (disch:=omega) only [go_sem,Int.reduceEq,↓reduceIte,reduceCtorEq,Nat.reduceEqDiff,Nat.reduceLT,Nat.reduceLeDiff,Nat.reduceAdd,Nat.reduceSub,Nat.reduceMul,Int.reduceToNat,Int.reduceLE,Int.reduceLT,QX,Sp_overdublaw20_parts,Sp_node_PackNode,Sp_overdubref20_PackNode,Sp_overdubkeep_Same_byte,Sp_overdublaw20_read,Sp_overdublaw20_spoilt,Sp_overdublaw20_lines,Sp_node_PackDir,Sp_overdubref20_PackDir,Sp_overdubkeep_Within,Sp_overdublaw20_sectors,Sp_node_PackRoot,Sp_overdubref20_PackRoot,Sp_overdublaw20_wakes,stX1,ho,ht,p1,hPl,hPy,hPt,dP,hYy,hYl,hYt,lD_inj,mB_inj];(try (revert hK;intro hK;(repeat' first|(refine And.intro ?_ ?_)|(intro hc;first|cases hc|((try rw [hc]);(try simp only [stH] at hc);(try (exfalso;omega)))));all_goals first|(refine hK _ _ ?_;clear hK K;simp only [stU])|exact hK|omega)))
    refine ⟨nm [],Wk.of ?_⟩
    simp (disch:=omega) only [go_sem,Int.reduceEq,↓reduceIte,reduceCtorEq,Nat.reduceEqDiff,Nat.reduceLT,Nat.reduceLeDiff,Nat.reduceAdd,Nat.reduceSub,Nat.reduceMul,Int.reduceToNat,Int.reduceLE,Int.reduceLT,QX,Sp_overdublaw20_parts,Sp_node_PackNode,Sp_overdubref20_PackNode,Sp_overdubkeep_Same_byte,Sp_overdublaw20_read,Sp_overdublaw20_spoilt,Sp_overdublaw20_lines,Sp_node_PackDir,Sp_overdubref20_PackDir,Sp_overdubkeep_Within,Sp_overdublaw20_sectors,Sp_node_PackRoot,Sp_overdubref20_PackRoot,Sp_overdublaw20_wakes,stX2]
  refine AW.mx2 (fun n : Int=>stX3 n (seG rt u) (seG rt r) at' c sm) (fun _=>True) ?_ ?_
  · cases rt
    · repeat' first
 | refine AW.seq ?_
 | refine AW.block ?_
 | refine AW.regl QX_ok [0,1,2,3,4,5,6,7,8,18,19,20,21,22,23,24,25,26,67,108,109] ?_
 | refine then_n ?_
 | refine then_r ?_
 | refine then_x ?_
 | refine block_x ?_
 | refine block_o (by decide) ?_
 | refine block_n ?_
 | refine block_r ?_
 | refine AW.skip ?_
 | refine AW.ret ?_
 | refine AW.exit ?_
 | refine AW.cond rfl ?_ ?_
 | refine awl_none rfl ?_
 | refine awl_nil2 ?_
 | refine awl_some rfl rfl (Nat.le_of_ble_eq_true rfl) rfl rfl ?_ ?_
 | (refine awl_skip rfl rfl (Nat.le_of_ble_eq_true rfl) rfl rfl ?_;simp only [stU])
 | (refine fun (hc : _ = _)=>?_;first|cases hc|((try rw [hc]);(try simp only [stH] at hc);(try (exfalso;omega)));(try (show Awl _ _ _ _ _;simp only [stU])))
 | ((first|refine fun (K : V → List _ → _) hK=>?_|refine fun (_ : V → V)=>?_);simp (disch:=omega) only [go_sem,Int.reduceEq,↓reduceIte,reduceCtorEq,Nat.reduceEqDiff,Nat.reduceLT,Nat.reduceLeDiff,Nat.reduceAdd,Nat.reduceSub,Nat.reduceMul,Int.reduceToNat,Int.reduceLE,Int.reduceLT,QX,Sp_overdublaw20_parts,Sp_node_PackNode,Sp_overdubref20_PackNode,Sp_overdubkeep_Same_byte,Sp_overdublaw20_read,Sp_overdublaw20_spoilt,Sp_overdublaw20_lines,Sp_node_PackDir,Sp_overdubref20_PackDir,Sp_overdubkeep_Within,Sp_overdublaw20_sectors,Sp_node_PackRoot,Sp_overdubref20_PackRoot,Sp_overdublaw20_wakes,stX2,mI_inj];(try (revert hK;intro hK;(repeat' first|(refine And.intro ?_ ?_)|(intro hc;first|cases hc|((try rw [hc]);(try simp only [stH] at hc);(try (exfalso;omega)))));all_goals first|(refine hK _ _ ?_;clear hK K;simp only [stU])|exact hK|omega)))
      refine ⟨now,trivial,nm [(100,115),(101,118)],Wk.of ?_⟩
      simp (disch:=omega) only [go_sem,Int.reduceEq,↓reduceIte,reduceCtorEq,Nat.reduceEqDiff,Nat.reduceLT,Nat.reduceLeDiff,Nat.reduceAdd,Nat.reduceSub,Nat.reduceMul,Int.reduceToNat,Int.reduceLE,Int.reduceLT,QX,Sp_overdublaw20_parts,Sp_node_PackNode,Sp_overdubref20_PackNode,Sp_overdubkeep_Same_byte,Sp_overdublaw20_read,Sp_overdublaw20_spoilt,Sp_overdublaw20_lines,Sp_node_PackDir,Sp_overdubref20_PackDir,Sp_overdubkeep_Within,Sp_overdublaw20_sectors,Sp_node_PackRoot,Sp_overdubref20_PackRoot,Sp_overdublaw20_wakes,stX3]
      all_goals first|done|rfl|exact ⟨rfl,rfl⟩
    · have w1:=within_rngh (v:=now) (n:=4000) (by omega)
      repeat' first
 | refine AW.seq ?_
 | refine AW.block ?_
 | refine AW.regl QX_ok [0,1,2,3,4,5,6,7,8,18,19,20,21,22,23,24,25,26,67,108,109] ?_
 | refine then_n ?_
 | refine then_r ?_
 | refine then_x ?_
 | refine block_x ?_
 | refine block_o (by decide) ?_
 | refine block_n ?_
 | refine block_r ?_
 | refine AW.skip ?_
 | refine AW.ret ?_
 | refine AW.exit ?_
 | refine AW.cond rfl ?_ ?_
 | refine awl_none rfl ?_
 | refine awl_nil2 ?_
 | refine awl_some rfl rfl (Nat.le_of_ble_eq_true rfl) rfl rfl ?_ ?_
 | (refine awl_skip rfl rfl (Nat.le_of_ble_eq_true rfl) rfl rfl ?_;simp only [stU])
 | (refine fun (hc : _ = _)=>?_;first|cases hc|((try rw [hc]);(try simp only [stH] at hc);(try (exfalso;omega)));(try (show Awl _ _ _ _ _;simp only [stU])))
 | ((first|refine fun (K : V → List _ → _) hK=>?_|refine fun (_ : V → V)=>?_);simp (disch:=omega) only [go_sem,Int.reduceEq,↓reduceIte,reduceCtorEq,Nat.reduceEqDiff,Nat.reduceLT,Nat.reduceLeDiff,Nat.reduceAdd,Nat.reduceSub,Nat.reduceMul,Int.reduceToNat,Int.reduceLE,Int.reduceLT,QX,Sp_overdublaw20_parts,Sp_node_PackNode,Sp_overdubref20_PackNode,Sp_overdubkeep_Same_byte,Sp_overdublaw20_read,Sp_overdublaw20_spoilt,Sp_overdublaw20_lines,Sp_node_PackDir,Sp_overdubref20_PackDir,Sp_overdubkeep_Within,Sp_overdublaw20_sectors,Sp_node_PackRoot,Sp_overdubref20_PackRoot,Sp_overdublaw20_wakes,stX2,mI_inj];(try (revert hK;intro hK;(repeat' first|(refine And.intro ?_ ?_)|(intro hc;first|cases hc|((try rw [hc]);(try simp only [stH] at hc);(try (exfalso;omega)))));all_goals first|(refine hK _ _ ?_;clear hK K;simp only [stU])|exact hK|omega)))
      refine ⟨1 + within now 4000,trivial,nm [(100,115),(101,118)],Wk.of ?_⟩
      simp (disch:=omega) only [go_sem,Int.reduceEq,↓reduceIte,reduceCtorEq,Nat.reduceEqDiff,Nat.reduceLT,Nat.reduceLeDiff,Nat.reduceAdd,Nat.reduceSub,Nat.reduceMul,Int.reduceToNat,Int.reduceLE,Int.reduceLT,QX,Sp_overdublaw20_parts,Sp_node_PackNode,Sp_overdubref20_PackNode,Sp_overdubkeep_Same_byte,Sp_overdublaw20_read,Sp_overdublaw20_spoilt,Sp_overdublaw20_lines,Sp_node_PackDir,Sp_overdubref20_PackDir,Sp_overdubkeep_Within,Sp_overdublaw20_sectors,Sp_node_PackRoot,Sp_overdubref20_PackRoot,Sp_overdublaw20_wakes,stX3]
      all_goals first|done|rfl|exact ⟨rfl,rfl⟩
  intro n _
  have hU:=seG_len rt u
  have hR:=seG_len rt r
  have tU : ((seG rt u).map mI).take (seG rt u).length = (seG rt u).map mI:=List.take_of_length_le (by simp)
  have tR : ((seG rt r).map mI).take (seG rt r).length = (seG rt r).map mI:=List.take_of_length_le (by simp)
  generalize seG rt u = U at *
  generalize seG rt r = R at *
  by_cases hm : mayR n U R
  case neg =>
    have p1 : packROut n U R = ⟨.tup [.nil,.d (.v (.bool false))],[]⟩:=if_neg hm
    clear hm
    repeat' first
 | refine AW.seq ?_
 | refine AW.block ?_
 | refine AW.regl QX_ok [0,1,2,3,4,5,6,7,8,18,19,20,21,22,23,24,25,26,67,108,109] ?_
 | refine then_n ?_
 | refine then_r ?_
 | refine then_x ?_
 | refine block_x ?_
 | refine block_o (by decide) ?_
 | refine block_n ?_
 | refine block_r ?_
 | refine AW.skip ?_
 | refine AW.ret ?_
 | refine AW.exit ?_
 | refine AW.cond rfl ?_ ?_
 | refine awl_none rfl ?_
 | refine awl_nil2 ?_
 | refine awl_some rfl rfl (Nat.le_of_ble_eq_true rfl) rfl rfl ?_ ?_
 | (refine awl_skip rfl rfl (Nat.le_of_ble_eq_true rfl) rfl rfl ?_;simp only [stU])
 | (refine fun (hc : _ = _)=>?_;first|cases hc|((try rw [hc]);(try simp only [stH] at hc);(try (exfalso;omega)));(try (show Awl _ _ _ _ _;simp only [stU])))
 | ((first|refine fun (K : V → List _ → _) hK=>?_|refine fun (_ : V → V)=>?_);simp (disch:=omega) only [go_sem,Int.reduceEq,↓reduceIte,reduceCtorEq,Nat.reduceEqDiff,Nat.reduceLT,Nat.reduceLeDiff,Nat.reduceAdd,Nat.reduceSub,Nat.reduceMul,Int.reduceToNat,Int.reduceLE,Int.reduceLT,QX,Sp_overdublaw20_parts,Sp_node_PackNode,Sp_overdubref20_PackNode,Sp_overdubkeep_Same_byte,Sp_overdublaw20_read,Sp_overdublaw20_spoilt,Sp_overdublaw20_lines,Sp_node_PackDir,Sp_overdubref20_PackDir,Sp_overdubkeep_Within,Sp_overdublaw20_sectors,Sp_node_PackRoot,Sp_overdubref20_PackRoot,Sp_overdublaw20_wakes,stX3,tU,tR,p1,d0,nil_BV,mI_inj,mB_inj];(try (revert hK;intro hK;(repeat' first|(refine And.intro ?_ ?_)|(intro hc;first|cases hc|((try rw [hc]);(try simp only [stH] at hc);(try (exfalso;omega)))));all_goals first|(refine hK _ _ ?_;clear hK K;simp only [stU])|exact hK|omega)))
    (refine Ends.of (nm []) (by first|exact .inl rfl|exact .inr rfl) ?_;simp (disch:=omega) only [go_sem,Int.reduceEq,↓reduceIte,reduceCtorEq,Nat.reduceEqDiff,Nat.reduceLT,Nat.reduceLeDiff,Nat.reduceAdd,Nat.reduceSub,Nat.reduceMul,Int.reduceToNat,Int.reduceLE,Int.reduceLT,QX,Sp_overdublaw20_parts,Sp_node_PackNode,Sp_overdubref20_PackNode,Sp_overdubkeep_Same_byte,Sp_overdublaw20_read,Sp_overdublaw20_spoilt,Sp_overdublaw20_lines,Sp_node_PackDir,Sp_overdubref20_PackDir,Sp_overdubkeep_Within,Sp_overdublaw20_sectors,Sp_node_PackRoot,Sp_overdubref20_PackRoot,Sp_overdublaw20_wakes])
  have p1 : packROut n U R = ⟨.tup [.sl 0 1 0 128 true,.d (.v (.bool true))],[(0,.row 5 1 ((rootP n U R).map mB))]⟩:=if_pos hm
  have hPb : Byt (rootP n U R):=rootP_byt _ _ _
  have hPl : (rootP n U R).length = 128:=rootP_len _ _ _
  clear hm
  generalize rootP n U R = P at *
  have hPy : Byt P = True:=eq_true hPb
  have hPt : (P.map mB).take 128 = P.map mB:=List.take_of_length_le (by rw [List.length_map,hPl];omega)
  have dP : decide (P = P) = true:=decide_eq_true rfl
  have hYy : Byt (spoN P at' c sm) = True:=eq_true (spoN_byt hPb _ _ _)
  have hYl:=spoN_len hPl at' c sm
  have hYt : ((spoN P at' c sm).map mB).take 128 = (spoN P at' c sm).map mB:=List.take_of_length_le (by rw [List.length_map,hYl];omega)
  clear hPb
  repeat' first
 | refine AW.seq ?_
 | refine AW.block ?_
 | refine AW.regl QX_ok [0,1,2,3,4,5,6,7,8,18,19,20,21,22,23,24,25,26,67,108,109] ?_
 | refine then_n ?_
 | refine then_r ?_
 | refine then_x ?_
 | refine block_x ?_
 | refine block_o (by decide) ?_
 | refine block_n ?_
 | refine block_r ?_
 | refine AW.skip ?_
 | refine AW.ret ?_
 | refine AW.exit ?_
 | refine AW.cond rfl ?_ ?_
 | refine awl_none rfl ?_
 | refine awl_nil2 ?_
 | refine awl_some rfl rfl (Nat.le_of_ble_eq_true rfl) rfl rfl ?_ ?_
 | (refine awl_skip rfl rfl (Nat.le_of_ble_eq_true rfl) rfl rfl ?_;simp only [stU])
 | (refine fun (hc : _ = _)=>?_;first|cases hc|((try rw [hc]);(try simp only [stH] at hc);(try (exfalso;omega)));(try (show Awl _ _ _ _ _;simp only [stU])))
 | ((first|refine fun (K : V → List _ → _) hK=>?_|refine fun (_ : V → V)=>?_);simp (disch:=omega) only [go_sem,Int.reduceEq,↓reduceIte,reduceCtorEq,Nat.reduceEqDiff,Nat.reduceLT,Nat.reduceLeDiff,Nat.reduceAdd,Nat.reduceSub,Nat.reduceMul,Int.reduceToNat,Int.reduceLE,Int.reduceLT,QX,Sp_overdublaw20_parts,Sp_node_PackNode,Sp_overdubref20_PackNode,Sp_overdubkeep_Same_byte,Sp_overdublaw20_read,Sp_overdublaw20_spoilt,Sp_overdublaw20_lines,Sp_node_PackDir,Sp_overdubref20_PackDir,Sp_overdubkeep_Within,Sp_overdublaw20_sectors,Sp_node_PackRoot,Sp_overdubref20_PackRoot,Sp_overdublaw20_wakes,stX3,tU,tR,p1,hPl,hPy,hPt,dP,hYy,hYl,hYt,mI_inj,mB_inj];(try (revert hK;intro hK;(repeat' first|(refine And.intro ?_ ?_)|(intro hc;first|cases hc|((try rw [hc]);(try simp only [stH] at hc);(try (exfalso;omega)))));all_goals first|(refine hK _ _ ?_;clear hK K;simp only [stU])|exact hK|omega)))
  (refine Ends.of (nm []) (by first|exact .inl rfl|exact .inr rfl) ?_;simp (disch:=omega) only [go_sem,Int.reduceEq,↓reduceIte,reduceCtorEq,Nat.reduceEqDiff,Nat.reduceLT,Nat.reduceLeDiff,Nat.reduceAdd,Nat.reduceSub,Nat.reduceMul,Int.reduceToNat,Int.reduceLE,Int.reduceLT,QX,Sp_overdublaw20_parts,Sp_node_PackNode,Sp_overdubref20_PackNode,Sp_overdubkeep_Same_byte,Sp_overdublaw20_read,Sp_overdublaw20_spoilt,Sp_overdublaw20_lines,Sp_node_PackDir,Sp_overdubref20_PackDir,Sp_overdubkeep_Within,Sp_overdublaw20_sectors,Sp_node_PackRoot,Sp_overdubref20_PackRoot,Sp_overdublaw20_wakes])
end Go.Proofs.Ytigkcigoiinkpaa.Am
