import Derived.Test.YtaiaackeljlbfaaZS1
import Derived.Test.YtaiaackeljlbfaaZD1
import Derived.Test.YtaiaackeljlbfaaZRj
import Derived.Test.YtaiaackeljlbfaaZZm
set_option linter.unusedVariables false
set_option linter.unusedSimpArgs false
set_option maxRecDepth 10000
set_option maxHeartbeats 0
namespace Go.Proofs.Ytaiaackeljlbfaa.Am
open Go Go.RowKit Go.Proofs
def mayC (lf nu pt ps : Int) (n : Nat) : Prop := (1 ≤ lf ∧ lf < 2147483648) ∧ (1 ≤ nu ∧ nu < 2147483648) ∧ (1 ≤ ps ∧ ps ≤ 64) ∧ (0 ≤ pt ∧ pt < ps) ∧ n ≤ 112
instance (lf nu pt ps : Int) (n : Nat) : Decidable (mayC lf nu pt ps n) := by unfold mayC; infer_instance
def celL (lf nu pt ps : Int) (dt : List Int) : List Int := putB (max 0 lf) 4 ++ (putB (max 0 nu) 4 ++ (putB (max 0 pt) 1 ++ (putB (max 0 ps) 1 ++ (putB (max 0 (dt.length : Int)) 1 ++ ([206] ++ dt)))))
theorem celL_len (lf nu pt ps : Int) (dt : List Int) : (celL lf nu pt ps dt).length = 12 + dt.length := by simp [celL, putB_len]; omega
theorem celL_byt {lf nu pt ps : Int} {dt : List Int} (h : Byt dt) : Byt (celL lf nu pt ps dt) := by
  unfold celL; simp only [putB_leB]
  exact byt_append (leB_byt _ _) (byt_append (leB_byt _ _) (byt_append (leB_byt _ _) (byt_append (leB_byt _ _) (byt_append (leB_byt _ _) (byt_append (fun x hx => by simp at hx; omega) h)))))
def celP (lf nu pt ps : Int) (dt : List Int) : List Int := sealL (celL lf nu pt ps dt)
theorem celP_len (lf nu pt ps : Int) (dt : List Int) : (celP lf nu pt ps dt).length = 128 := sealL_len _
theorem celP_byt {lf nu pt ps : Int} {dt : List Int} (h : Byt dt) : Byt (celP lf nu pt ps dt) := sealL_byt (celL_byt h)
theorem wd_4c : wd 4 = 4 := rfl
theorem wd_1c : wd 1 = 1 := rfl
theorem putB_takec (n : Int) (m : Nat) : ((putB n m).map mB).take m = (putB n m).map mB := List.take_of_length_le (by simp [putB])
theorem YC (a b c d e dt : List Int) (l : List (List Int)) : ([D.list (a.map mB), D.list (b.map mB), D.list (c.map mB), D.list (d.map mB), D.list (e.map mB), D.list [D.v (.int .u8 206)], D.list (dt.map mB)] = l.map bys) = (l = [a, b, c, d, e, [206], dt]) := by
  rw [show [D.list (a.map mB), D.list (b.map mB), D.list (c.map mB), D.list (d.map mB), D.list (e.map mB), D.list [D.v (.int .u8 206)], D.list (dt.map mB)] = [a, b, c, d, e, [206], dt].map bys from rfl, Y_inj]
  exact propext eq_comm
theorem celL_fold (lf nu pt ps : Int) (dt : List Int) : putB (max 0 lf) 4 ++ (putB (max 0 nu) 4 ++ (putB (max 0 pt) 1 ++ (putB (max 0 ps) 1 ++ (putB (max 0 (dt.length : Int)) 1 ++ ([206] ++ dt))))) = celL lf nu pt ps dt := rfl
theorem celL_fold' (lf nu pt ps : Int) (dt : List Int) : putB (max 0 lf) 4 ++ (putB (max 0 nu) 4 ++ (putB (max 0 pt) 1 ++ (putB (max 0 ps) 1 ++ (putB (max 0 (dt.length : Int)) 1 ++ (206 :: dt))))) = celL lf nu pt ps dt := rfl
def packCOut (lf nu pt ps : Int) (dt : List Int) : Out := if mayC lf nu pt ps dt.length then ⟨.tup [.sl 0 1 0 128 true, .d (.v (.bool true))], [(0, .row 5 1 ((celP lf nu pt ps dt).map mB))]⟩ else ⟨.tup [.nil, .d (.v (.bool false))], []⟩
noncomputable def C1 : Env := ⟨Try.prog, fun f ds out => (f = 30 ∧ Sp_field_Put ds out) ∨ (f = 29 ∧ Sp_field_Join ds out) ∨ (f = 28 ∧ Sp_sealed_Seal ds out), Es, fun _ => false⟩
theorem C1_sp : ∀ f ds out, C1.Sp f ds out → Ent C1.P f ∧ Good C1.P f (fun a b => a = ds ∧ b = out) := by
  rintro f ds out (⟨rfl, h⟩ | ⟨rfl, h⟩ | ⟨rfl, h⟩)
  · exact ⟨ent_field_Put, good_field_Put.one h⟩
  · exact ⟨ent_field_Join, good_field_Join.one h⟩
  · exact ⟨ent_sealed_Seal, good_sealed_Seal.one h⟩
theorem C1_ok : C1.Ok := ⟨C1_sp, Es_ok⟩
def Sp_cells_Pack (ds : List D) (out : Out) : Prop := ∃ (lf nu pt ps : Int) (dt : List Int), ds = [.agg [.v (.int .i64 lf), .v (.int .i64 nu), .v (.int .i64 pt), .v (.int .i64 ps), .list (dt.map mB)]] ∧ dt.length ≤ 9223372036854775807 ∧ out = packCOut lf nu pt ps dt
def cc_cells_Pack_3 : List (List (Option Bool)) := [[some false, some false, some false, none, none, some false, none, none, some false, none, none, some false, none, none, none, some false, none, none, none, some false, some false, some false, some false, some false], [some true, some false, some false, none, none, some false, none, none, some false, none, none, some false, none, none, none, some false, none, none, none, some false, some false, some false, some false, some false], [some true, some true, some false, none, none, some false, none, none, some false, none, none, some false, none, none, none, some false, none, none, none, some false, some false, some false, some false, some false], [none, none, none, some false, some false, some false, none, none, some false, none, none, some false, none, none, none, some false, none, none, none, some false, some false, some false, some false, some false], [none, none, none, some true, some false, some false, none, none, some false, none, none, some false, none, none, none, some false, none, none, none, some false, some false, some false, some false, some false], [some true, some true, some true, some true, some true, some false, none, none, some false, none, none, some false, none, none, none, some false, none, none, none, some false, some false, some false, some false, some false], [none, none, none, none, none, none, some false, some false, some false, none, none, some false, none, none, none, some false, none, none, none, some false, some false, some false, some false, some false], [none, none, none, none, none, none, some true, some false, some false, none, none, some false, none, none, none, some false, none, none, none, some false, some false, some false, some false, some false], [some true, some true, some true, some true, some true, some true, some true, some true, some false, none, none, some false, none, none, none, some false, none, none, none, some false, some false, some false, some false, some false], [none, none, none, none, none, none, none, none, none, some false, some false, some false, none, none, none, some false, none, none, none, some false, some false, some false, some false, some false], [none, none, none, none, none, none, none, none, none, some true, some false, some false, none, none, none, some false, none, none, none, some false, some false, some false, some false, some false], [some true, some true, some true, some true, some true, some true, some true, some true, some true, some true, some true, some false, none, none, none, some false, none, none, none, some false, some false, some false, some false, some false], [none, none, none, none, none, none, none, none, none, none, none, none, some false, some false, some false, some false, none, none, none, some false, some false, some false, some false, some false], [none, none, none, none, none, none, none, none, none, none, none, none, some true, some false, some false, some false, none, none, none, some false, some false, some false, some false, some false], [none, none, none, none, none, none, none, none, none, none, none, none, some true, some true, some false, some false, none, none, none, some false, some false, some false, some false, some false], [some true, some true, some true, some true, some true, some true, some true, some true, some true, some true, some true, some true, some true, some true, some true, some false, none, none, none, some false, some false, some false, some false, some false], [none, none, none, none, none, none, none, none, none, none, none, none, none, none, none, none, some false, none, none, some false, some false, some false, some false, some false], [none, none, none, none, none, none, none, none, none, none, none, none, none, none, none, none, none, some false, some false, some false, some false, some false, some false, some false], [none, none, none, none, none, none, none, none, none, none, none, none, none, none, none, none, none, some true, some false, some false, some false, some false, some false, some false], [some true, some true, some true, some true, some true, some true, some true, some true, some true, some true, some true, some true, some true, some true, some true, some true, some true, some true, some true, some false, some false, some false, some false, some false], [some true, some true, some true, some true, some true, some true, some true, some true, some true, some true, some true, some true, some true, some true, some true, some true, some true, some true, some true, some true, some false, some false, some false, some false], [some true, some true, some true, some true, some true, some true, some true, some true, some true, some true, some true, some true, some true, some true, some true, some true, some true, some true, some true, some true, some true, some false, some false, some false], [some true, some true, some true, some true, some true, some true, some true, some true, some true, some true, some true, some true, some true, some true, some true, some true, some true, some true, some true, some true, some true, some true, some false, some false], [some true, some true, some true, some true, some true, some true, some true, some true, some true, some true, some true, some true, some true, some true, some true, some true, some true, some true, some true, some true, some true, some true, some true, some false]]
theorem good_cells_Pack : Good Try.prog 21 Sp_cells_Pack := by
  refine good_body (E := C1) (nt := 72) (rs := #[.tmp 2, .tmp 3]) Try.func21 rfl rfl rfl ?_
  rintro ds out ⟨lf, nu, pt, ps, dt, rfl, hl, rfl⟩
  refine ⟨by simp, ?_⟩
  by_cases h : mayC lf nu pt ps dt.length
  · have hz : packCOut lf nu pt ps dt = ⟨.tup [.sl 0 1 0 128 true, .d (.v (.bool true))], [(0, .row 5 1 ((celP lf nu pt ps dt).map mB))]⟩ := if_pos h
    unfold mayC at h
    obtain ⟨⟨a1, a2⟩, ⟨a3, a4⟩, ⟨a5, a6⟩, ⟨a7, a8⟩, a9⟩ := h
    have hcl := celL_len lf nu pt ps dt
    have hdt : (dt.map mB).take dt.length = dt.map mB := List.take_of_length_le (by simp)
    have hct : ((celL lf nu pt ps dt).map mB).take (12 + dt.length) = (celL lf nu pt ps dt).map mB := List.take_of_length_le (by simp [hcl])
    repeat' first
                    | (refine AW.seq ?_)
                    | (refine AW.block ?_)
                    | (refine AW.regl C1_ok [0, 1, 2, 3, 49] ?_)
                    | (refine AW.regc (id := 3) C1_ok follows [0, 1, 3, 0, 8, 31, 0, 64, 255, 0, 512, 2047, 0, 4096, 12288, 32767, 0, 0, 131072, 524287, 1048575, 2097151, 4194303, 8388607] (by kernel_rfl) [0, 1, 2, 3, 49] ?_)
                    | (refine then_n ?_)
                    | (refine then_r ?_)
                    | (refine then_x ?_)
                    | (refine block_x ?_)
                    | (refine block_o (by decide) ?_)
                    | (refine block_n ?_)
                    | (refine block_r ?_)
                    | (refine AW.skip ?_)
                    | (refine AW.ret ?_)
                    | (refine AW.exit ?_)
                    | (refine AW.cond rfl ?_ ?_ <;> (intro hc; first | cases hc | ((try rw [hc]); (try simp only [stH] at hc); (try (exfalso; omega)))))
                    | ((first
                          | (refine awl_none rfl fun K hK => ?_)
                          | (refine awl_nil ?_)
                          | (refine awl_some rfl rfl (Nat.le_of_ble_eq_true rfl) rfl rfl ?_ ?_ <;> (intro hc; first | cases hc | ((try rw [hc]); (try simp only [stH] at hc); (try (exfalso; omega)))) <;> (try intro K hK))
                          | (refine awl_skip rfl rfl (Nat.le_of_ble_eq_true rfl) rfl rfl ?_)
                          | (refine awc_none rfl fun K hK => ?_)
                          | (refine awc_some rfl rfl (Nat.le_of_ble_eq_true rfl) rfl rfl ?_ ?_ <;> (intro hc; first | cases hc | ((try rw [hc]); (try simp only [stH] at hc); (try (exfalso; omega)))) <;> (try intro K hK))
                          | exact each_nil
                          | (refine each_none rfl ?_ ?_ <;> (try intro bb K hK))
                          | (refine awc_leaf [some 50, some 51, some 52, some 53, some 54, some 55, some 56, some 57, some 58, some 59, some 60, some 61, some 62, some 63, some 64, some 65, some 66, some 67, some 68, some 69, some 70, some 71, some 2, some 3] cc_cells_Pack_3 rfl (by kernel_rfl) (by kernel_rfl) ?_ ?_))
                       all_goals first
                         | (show Awl _ _ _ _ _; simp only [St.upd, St.put, List.nil_append, List.cons_append, List.singleton_append, List.append_nil])
                         | (show Awc _ _ _ _ _ _; simp only [St.upd, St.put, List.nil_append, List.cons_append, List.singleton_append, List.append_nil])
                         | (show Each _ _ _ _ _ _ _ _; skip)
                         | (simp (disch := omega) only [awl, ev1, evk, evc, gv, e_move, e_pick, e_bin, binW, e_un, e_cnv, e_conv, e_str, e_mark, e_copy, e_extract, e_len, e_mm, e_nil, e_index, e_field, e_load, e_fld, e_cut, e_alloc, e_box, e_make, e_build, e_lit, e_store, e_app, e_call, e_callF, idsA, killL, so, args, pus, pu, pu1, toDL, toD, toD1, toDs, elems, idsW, idsV, lenV, oint, cutOk, ldV, subD, newD, fillV, cellsV, one1, one0, zD, cD0, scs, St.upd, St.put, St.ev, St.keep, gt, go, tmOf, ofD, dOk, cV, cV0, renM, Value.oneCell', keepL, freshL, vaOL, outB, wkTm, subL, ninL, injL, nm, resW, resL, resV, shift, ren, ren2, ren1, renO, va, va2, va1, vaO, inDom, stA, Int.reduceEq, ↓reduceIte, reduceCtorEq, Nat.reduceEqDiff, Nat.reduceLT, Nat.reduceLeDiff, Nat.reduceAdd, Nat.reduceSub, Nat.reduceMul, Int.reduceToNat, Int.reduceLE, Int.reduceLT, C1, Sp_field_Put, Sp_field_Join, Sp_sealed_Seal, x_bt3, x_el27, x_el63, x_fo29_0, x_fo29_1, x_fo29_2, x_fo29_3, x_fo29_4, x_pt3, x_slt27, x_tk27, x_tk29, x_tk3, x_tk5, x_zc27, x_zc5, wd_4c, wd_1c, putB_takec, YC, putB_len, celL_fold, celL_fold', hcl, hdt, hct, List.flatten_cons, List.flatten_nil, mB_inj, Sg3, St.updIf, ifc_nil, gt_ifc, go_ifc, ite_self, Option.none_or, Option.some_or]
                            (try ((repeat' first | (refine And.intro ?_ ?_) | (intro hc; first | cases hc | ((try rw [hc]); (try simp only [stH] at hc); (try (exfalso; omega)))))
                                  all_goals first | (refine hK _ _ ?_; clear hK K; simp only [St.upd, St.put, List.nil_append, List.cons_append, List.singleton_append, List.append_nil]) | exact hK | omega))))
    (refine Ends.of (nm [(0, 71)]) (by first | exact .inl rfl | exact .inr rfl) ?_; simp (disch := omega) only [awl, ev1, evk, evc, gv, e_move, e_pick, e_bin, binW, e_un, e_cnv, e_conv, e_str, e_mark, e_copy, e_extract, e_len, e_mm, e_nil, e_index, e_field, e_load, e_fld, e_cut, e_alloc, e_box, e_make, e_build, e_lit, e_store, e_app, e_call, e_callF, idsA, killL, so, args, pus, pu, pu1, toDL, toD, toD1, toDs, elems, idsW, idsV, lenV, oint, cutOk, ldV, subD, newD, fillV, cellsV, one1, one0, zD, cD0, scs, St.upd, St.put, St.ev, St.keep, gt, go, tmOf, ofD, dOk, cV, cV0, renM, Value.oneCell', keepL, freshL, vaOL, outB, wkTm, subL, ninL, injL, nm, resW, resL, resV, shift, ren, ren2, ren1, renO, va, va2, va1, vaO, inDom, stA, Int.reduceEq, ↓reduceIte, reduceCtorEq, Nat.reduceEqDiff, Nat.reduceLT, Nat.reduceLeDiff, Nat.reduceAdd, Nat.reduceSub, Nat.reduceMul, Int.reduceToNat, Int.reduceLE, Int.reduceLT, C1, Sp_field_Put, Sp_field_Join, Sp_sealed_Seal, x_bt3, x_el27, x_el63, x_fo29_0, x_fo29_1, x_fo29_2, x_fo29_3, x_fo29_4, x_pt3, x_slt27, x_tk27, x_tk29, x_tk3, x_tk5, x_zc27, x_zc5, hz, celP])
  · have hz : packCOut lf nu pt ps dt = ⟨.tup [.nil, .d (.v (.bool false))], []⟩ := if_neg h
    unfold mayC at h
    repeat' first
                    | (refine AW.seq ?_)
                    | (refine AW.block ?_)
                    | (refine AW.regl C1_ok [0, 1, 2, 3, 49] ?_)
                    | (refine AW.regc (id := 3) C1_ok follows [0, 1, 3, 0, 8, 31, 0, 64, 255, 0, 512, 2047, 0, 4096, 12288, 32767, 0, 0, 131072, 524287, 1048575, 2097151, 4194303, 8388607] (by kernel_rfl) [0, 1, 2, 3, 49] ?_)
                    | (refine then_n ?_)
                    | (refine then_r ?_)
                    | (refine then_x ?_)
                    | (refine block_x ?_)
                    | (refine block_o (by decide) ?_)
                    | (refine block_n ?_)
                    | (refine block_r ?_)
                    | (refine AW.skip ?_)
                    | (refine AW.ret ?_)
                    | (refine AW.exit ?_)
                    | (refine AW.cond rfl ?_ ?_ <;> (intro hc; first | cases hc | ((try rw [hc]); (try simp only [stH] at hc); (try (exfalso; omega)))))
                    | ((first
                          | (refine awl_none rfl fun K hK => ?_)
                          | (refine awl_nil ?_)
                          | (refine awl_some rfl rfl (Nat.le_of_ble_eq_true rfl) rfl rfl ?_ ?_ <;> (intro hc; first | cases hc | ((try rw [hc]); (try simp only [stH] at hc); (try (exfalso; omega)))) <;> (try intro K hK))
                          | (refine awl_skip rfl rfl (Nat.le_of_ble_eq_true rfl) rfl rfl ?_)
                          | (refine awc_none rfl fun K hK => ?_)
                          | (refine awc_some rfl rfl (Nat.le_of_ble_eq_true rfl) rfl rfl ?_ ?_ <;> (intro hc; first | cases hc | ((try rw [hc]); (try simp only [stH] at hc); (try (exfalso; omega)))) <;> (try intro K hK))
                          | exact each_nil
                          | (refine each_none rfl ?_ ?_ <;> (try intro bb K hK))
                          | (refine awc_leaf [some 50, some 51, some 52, some 53, some 54, some 55, some 56, some 57, some 58, some 59, some 60, some 61, some 62, some 63, some 64, some 65, some 66, some 67, some 68, some 69, some 70, some 71, some 2, some 3] cc_cells_Pack_3 rfl (by kernel_rfl) (by kernel_rfl) ?_ ?_))
                       all_goals first
                         | (show Awl _ _ _ _ _; simp only [St.upd, St.put, List.nil_append, List.cons_append, List.singleton_append, List.append_nil])
                         | (show Awc _ _ _ _ _ _; simp only [St.upd, St.put, List.nil_append, List.cons_append, List.singleton_append, List.append_nil])
                         | (show Each _ _ _ _ _ _ _ _; skip)
                         | (simp (disch := omega) only [awl, ev1, evk, evc, gv, e_move, e_pick, e_bin, binW, e_un, e_cnv, e_conv, e_str, e_mark, e_copy, e_extract, e_len, e_mm, e_nil, e_index, e_field, e_load, e_fld, e_cut, e_alloc, e_box, e_make, e_build, e_lit, e_store, e_app, e_call, e_callF, idsA, killL, so, args, pus, pu, pu1, toDL, toD, toD1, toDs, elems, idsW, idsV, lenV, oint, cutOk, ldV, subD, newD, fillV, cellsV, one1, one0, zD, cD0, scs, St.upd, St.put, St.ev, St.keep, gt, go, tmOf, ofD, dOk, cV, cV0, renM, Value.oneCell', keepL, freshL, vaOL, outB, wkTm, subL, ninL, injL, nm, resW, resL, resV, shift, ren, ren2, ren1, renO, va, va2, va1, vaO, inDom, stA, Int.reduceEq, ↓reduceIte, reduceCtorEq, Nat.reduceEqDiff, Nat.reduceLT, Nat.reduceLeDiff, Nat.reduceAdd, Nat.reduceSub, Nat.reduceMul, Int.reduceToNat, Int.reduceLE, Int.reduceLT, C1, Sp_field_Put, Sp_field_Join, Sp_sealed_Seal, x_bt3, x_el27, x_el63, x_fo29_0, x_fo29_1, x_fo29_2, x_fo29_3, x_fo29_4, x_pt3, x_slt27, x_tk27, x_tk29, x_tk3, x_tk5, x_zc27, x_zc5, Sg3, St.updIf, ifc_nil, gt_ifc, go_ifc, ite_self, Option.none_or, Option.some_or]
                            (try ((repeat' first | (refine And.intro ?_ ?_) | (intro hc; first | cases hc | ((try rw [hc]); (try simp only [stH] at hc); (try (exfalso; omega)))))
                                  all_goals first | (refine hK _ _ ?_; clear hK K; simp only [St.upd, St.put, List.nil_append, List.cons_append, List.singleton_append, List.append_nil]) | exact hK | omega))))
    all_goals (refine Ends.of (nm []) (by first | exact .inl rfl | exact .inr rfl) ?_; simp (disch := omega) only [awl, ev1, evk, evc, gv, e_move, e_pick, e_bin, binW, e_un, e_cnv, e_conv, e_str, e_mark, e_copy, e_extract, e_len, e_mm, e_nil, e_index, e_field, e_load, e_fld, e_cut, e_alloc, e_box, e_make, e_build, e_lit, e_store, e_app, e_call, e_callF, idsA, killL, so, args, pus, pu, pu1, toDL, toD, toD1, toDs, elems, idsW, idsV, lenV, oint, cutOk, ldV, subD, newD, fillV, cellsV, one1, one0, zD, cD0, scs, St.upd, St.put, St.ev, St.keep, gt, go, tmOf, ofD, dOk, cV, cV0, renM, Value.oneCell', keepL, freshL, vaOL, outB, wkTm, subL, ninL, injL, nm, resW, resL, resV, shift, ren, ren2, ren1, renO, va, va2, va1, vaO, inDom, stA, Int.reduceEq, ↓reduceIte, reduceCtorEq, Nat.reduceEqDiff, Nat.reduceLT, Nat.reduceLeDiff, Nat.reduceAdd, Nat.reduceSub, Nat.reduceMul, Int.reduceToNat, Int.reduceLE, Int.reduceLT, C1, Sp_field_Put, Sp_field_Join, Sp_sealed_Seal, x_bt3, x_el27, x_el63, x_fo29_0, x_fo29_1, x_fo29_2, x_fo29_3, x_fo29_4, x_pt3, x_slt27, x_tk27, x_tk29, x_tk3, x_tk5, x_zc27, x_zc5, hz])
theorem ent_cells_Pack : Ent Try.prog 21 := ⟨_, Try.func21, rfl, by decide⟩
def Sp_overdubref14_mayCell (ds : List D) (out : Out) : Prop := ∃ (lf nu pt ps : Int) (dt : List Int), ds = [.agg [.v (.int .i64 lf), .v (.int .i64 nu), .v (.int .i64 pt), .v (.int .i64 ps), .list (dt.map mB)]] ∧ dt.length ≤ 9223372036854775807 ∧ out = ⟨.d (.v (.bool (decide (mayC lf nu pt ps dt.length)))), []⟩
theorem good_overdubref14_mayCell : Good Try.prog 31 Sp_overdubref14_mayCell := by
  refine good_body (E := E0) (nt := 49) (rs := #[.tmp 2]) Try.func31 rfl rfl rfl ?_
  rintro ds out ⟨lf, nu, pt, ps, dt, rfl, hl, rfl⟩
  refine ⟨by simp, ?_⟩
  by_cases h : mayC lf nu pt ps dt.length
  · have hz : decide (mayC lf nu pt ps dt.length) = true := decide_eq_true h
    unfold mayC at h
    obtain ⟨⟨a1, a2⟩, ⟨a3, a4⟩, ⟨a5, a6⟩, ⟨a7, a8⟩, a9⟩ := h
    have d9 : decide ((dt.length : Int) ≤ 112) = true := decide_eq_true (by omega)
    repeat' first
                    | (refine AW.seq ?_)
                    | (refine AW.block ?_)
                    | (refine AW.regl E0_ok [0, 1, 2] ?_)
                    | (refine then_n ?_)
                    | (refine then_r ?_)
                    | (refine then_x ?_)
                    | (refine block_x ?_)
                    | (refine block_o (by decide) ?_)
                    | (refine block_n ?_)
                    | (refine block_r ?_)
                    | (refine AW.skip ?_)
                    | (refine AW.ret ?_)
                    | (refine AW.exit ?_)
                    | (refine AW.cond rfl ?_ ?_ <;> (intro hc; first | cases hc | ((try rw [hc]); (try simp only [stH] at hc); (try (exfalso; omega)))))
                    | ((first
                          | (refine awl_none rfl fun K hK => ?_)
                          | (refine awl_nil ?_)
                          | (refine awl_some rfl rfl (Nat.le_of_ble_eq_true rfl) rfl rfl ?_ ?_ <;> (intro hc; first | cases hc | ((try rw [hc]); (try simp only [stH] at hc); (try (exfalso; omega)))) <;> (try intro K hK))
                          | (refine awl_skip rfl rfl (Nat.le_of_ble_eq_true rfl) rfl rfl ?_))
                       all_goals first
                         | (show Awl _ _ _ _ _; simp only [St.upd, St.put, List.nil_append, List.cons_append, List.singleton_append, List.append_nil])
                         | (simp (disch := omega) only [awl, ev1, evk, evc, gv, e_move, e_pick, e_bin, binW, e_un, e_cnv, e_conv, e_str, e_mark, e_copy, e_extract, e_len, e_mm, e_nil, e_index, e_field, e_load, e_fld, e_cut, e_alloc, e_box, e_make, e_build, e_lit, e_store, e_app, e_call, e_callF, idsA, killL, so, args, pus, pu, pu1, toDL, toD, toD1, toDs, elems, idsW, idsV, lenV, oint, cutOk, ldV, subD, newD, fillV, cellsV, one1, one0, zD, cD0, scs, St.upd, St.put, St.ev, St.keep, gt, go, tmOf, ofD, dOk, cV, cV0, renM, Value.oneCell', keepL, freshL, vaOL, outB, wkTm, subL, ninL, injL, nm, resW, resL, resV, shift, ren, ren2, ren1, renO, va, va2, va1, vaO, inDom, stA, Int.reduceEq, ↓reduceIte, reduceCtorEq, Nat.reduceEqDiff, Nat.reduceLT, Nat.reduceLeDiff, Nat.reduceAdd, Nat.reduceSub, Nat.reduceMul, Int.reduceToNat, Int.reduceLE, Int.reduceLT, E0, x_bt3, x_fo29_0, x_fo29_1, x_fo29_2, x_fo29_3, x_fo29_4, x_pt3, x_slt27, x_tk27, x_tk29, x_tk3, d9]
                            (try ((repeat' first | (refine And.intro ?_ ?_) | (intro hc; first | cases hc | ((try rw [hc]); (try simp only [stH] at hc); (try (exfalso; omega)))))
                                  all_goals first | (refine hK _ _ ?_; clear hK K; simp only [St.upd, St.put, List.nil_append, List.cons_append, List.singleton_append, List.append_nil]) | exact hK | omega))))
    (refine Ends.of (nm []) (by first | exact .inl rfl | exact .inr rfl) ?_; simp (disch := omega) only [awl, ev1, evk, evc, gv, e_move, e_pick, e_bin, binW, e_un, e_cnv, e_conv, e_str, e_mark, e_copy, e_extract, e_len, e_mm, e_nil, e_index, e_field, e_load, e_fld, e_cut, e_alloc, e_box, e_make, e_build, e_lit, e_store, e_app, e_call, e_callF, idsA, killL, so, args, pus, pu, pu1, toDL, toD, toD1, toDs, elems, idsW, idsV, lenV, oint, cutOk, ldV, subD, newD, fillV, cellsV, one1, one0, zD, cD0, scs, St.upd, St.put, St.ev, St.keep, gt, go, tmOf, ofD, dOk, cV, cV0, renM, Value.oneCell', keepL, freshL, vaOL, outB, wkTm, subL, ninL, injL, nm, resW, resL, resV, shift, ren, ren2, ren1, renO, va, va2, va1, vaO, inDom, stA, Int.reduceEq, ↓reduceIte, reduceCtorEq, Nat.reduceEqDiff, Nat.reduceLT, Nat.reduceLeDiff, Nat.reduceAdd, Nat.reduceSub, Nat.reduceMul, Int.reduceToNat, Int.reduceLE, Int.reduceLT, E0, x_bt3, x_fo29_0, x_fo29_1, x_fo29_2, x_fo29_3, x_fo29_4, x_pt3, x_slt27, x_tk27, x_tk29, x_tk3, hz])
  · have hz : decide (mayC lf nu pt ps dt.length) = false := decide_eq_false h
    unfold mayC at h
    by_cases h9 : dt.length ≤ 112
    · have d9 : decide ((dt.length : Int) ≤ 112) = true := decide_eq_true (by omega)
      repeat' first
                    | (refine AW.seq ?_)
                    | (refine AW.block ?_)
                    | (refine AW.regl E0_ok [0, 1, 2] ?_)
                    | (refine then_n ?_)
                    | (refine then_r ?_)
                    | (refine then_x ?_)
                    | (refine block_x ?_)
                    | (refine block_o (by decide) ?_)
                    | (refine block_n ?_)
                    | (refine block_r ?_)
                    | (refine AW.skip ?_)
                    | (refine AW.ret ?_)
                    | (refine AW.exit ?_)
                    | (refine AW.cond rfl ?_ ?_ <;> (intro hc; first | cases hc | ((try rw [hc]); (try simp only [stH] at hc); (try (exfalso; omega)))))
                    | ((first
                          | (refine awl_none rfl fun K hK => ?_)
                          | (refine awl_nil ?_)
                          | (refine awl_some rfl rfl (Nat.le_of_ble_eq_true rfl) rfl rfl ?_ ?_ <;> (intro hc; first | cases hc | ((try rw [hc]); (try simp only [stH] at hc); (try (exfalso; omega)))) <;> (try intro K hK))
                          | (refine awl_skip rfl rfl (Nat.le_of_ble_eq_true rfl) rfl rfl ?_))
                       all_goals first
                         | (show Awl _ _ _ _ _; simp only [St.upd, St.put, List.nil_append, List.cons_append, List.singleton_append, List.append_nil])
                         | (simp (disch := omega) only [awl, ev1, evk, evc, gv, e_move, e_pick, e_bin, binW, e_un, e_cnv, e_conv, e_str, e_mark, e_copy, e_extract, e_len, e_mm, e_nil, e_index, e_field, e_load, e_fld, e_cut, e_alloc, e_box, e_make, e_build, e_lit, e_store, e_app, e_call, e_callF, idsA, killL, so, args, pus, pu, pu1, toDL, toD, toD1, toDs, elems, idsW, idsV, lenV, oint, cutOk, ldV, subD, newD, fillV, cellsV, one1, one0, zD, cD0, scs, St.upd, St.put, St.ev, St.keep, gt, go, tmOf, ofD, dOk, cV, cV0, renM, Value.oneCell', keepL, freshL, vaOL, outB, wkTm, subL, ninL, injL, nm, resW, resL, resV, shift, ren, ren2, ren1, renO, va, va2, va1, vaO, inDom, stA, Int.reduceEq, ↓reduceIte, reduceCtorEq, Nat.reduceEqDiff, Nat.reduceLT, Nat.reduceLeDiff, Nat.reduceAdd, Nat.reduceSub, Nat.reduceMul, Int.reduceToNat, Int.reduceLE, Int.reduceLT, E0, x_bt3, x_fo29_0, x_fo29_1, x_fo29_2, x_fo29_3, x_fo29_4, x_pt3, x_slt27, x_tk27, x_tk29, x_tk3, d9]
                            (try ((repeat' first | (refine And.intro ?_ ?_) | (intro hc; first | cases hc | ((try rw [hc]); (try simp only [stH] at hc); (try (exfalso; omega)))))
                                  all_goals first | (refine hK _ _ ?_; clear hK K; simp only [St.upd, St.put, List.nil_append, List.cons_append, List.singleton_append, List.append_nil]) | exact hK | omega))))
      all_goals first | (exfalso; omega) | (refine Ends.of (nm []) (by first | exact .inl rfl | exact .inr rfl) ?_; simp (disch := omega) only [awl, ev1, evk, evc, gv, e_move, e_pick, e_bin, binW, e_un, e_cnv, e_conv, e_str, e_mark, e_copy, e_extract, e_len, e_mm, e_nil, e_index, e_field, e_load, e_fld, e_cut, e_alloc, e_box, e_make, e_build, e_lit, e_store, e_app, e_call, e_callF, idsA, killL, so, args, pus, pu, pu1, toDL, toD, toD1, toDs, elems, idsW, idsV, lenV, oint, cutOk, ldV, subD, newD, fillV, cellsV, one1, one0, zD, cD0, scs, St.upd, St.put, St.ev, St.keep, gt, go, tmOf, ofD, dOk, cV, cV0, renM, Value.oneCell', keepL, freshL, vaOL, outB, wkTm, subL, ninL, injL, nm, resW, resL, resV, shift, ren, ren2, ren1, renO, va, va2, va1, vaO, inDom, stA, Int.reduceEq, ↓reduceIte, reduceCtorEq, Nat.reduceEqDiff, Nat.reduceLT, Nat.reduceLeDiff, Nat.reduceAdd, Nat.reduceSub, Nat.reduceMul, Int.reduceToNat, Int.reduceLE, Int.reduceLT, E0, x_bt3, x_fo29_0, x_fo29_1, x_fo29_2, x_fo29_3, x_fo29_4, x_pt3, x_slt27, x_tk27, x_tk29, x_tk3, hz])
    · have d9 : decide ((dt.length : Int) ≤ 112) = false := decide_eq_false (by omega)
      repeat' first
                    | (refine AW.seq ?_)
                    | (refine AW.block ?_)
                    | (refine AW.regl E0_ok [0, 1, 2] ?_)
                    | (refine then_n ?_)
                    | (refine then_r ?_)
                    | (refine then_x ?_)
                    | (refine block_x ?_)
                    | (refine block_o (by decide) ?_)
                    | (refine block_n ?_)
                    | (refine block_r ?_)
                    | (refine AW.skip ?_)
                    | (refine AW.ret ?_)
                    | (refine AW.exit ?_)
                    | (refine AW.cond rfl ?_ ?_ <;> (intro hc; first | cases hc | ((try rw [hc]); (try simp only [stH] at hc); (try (exfalso; omega)))))
                    | ((first
                          | (refine awl_none rfl fun K hK => ?_)
                          | (refine awl_nil ?_)
                          | (refine awl_some rfl rfl (Nat.le_of_ble_eq_true rfl) rfl rfl ?_ ?_ <;> (intro hc; first | cases hc | ((try rw [hc]); (try simp only [stH] at hc); (try (exfalso; omega)))) <;> (try intro K hK))
                          | (refine awl_skip rfl rfl (Nat.le_of_ble_eq_true rfl) rfl rfl ?_))
                       all_goals first
                         | (show Awl _ _ _ _ _; simp only [St.upd, St.put, List.nil_append, List.cons_append, List.singleton_append, List.append_nil])
                         | (simp (disch := omega) only [awl, ev1, evk, evc, gv, e_move, e_pick, e_bin, binW, e_un, e_cnv, e_conv, e_str, e_mark, e_copy, e_extract, e_len, e_mm, e_nil, e_index, e_field, e_load, e_fld, e_cut, e_alloc, e_box, e_make, e_build, e_lit, e_store, e_app, e_call, e_callF, idsA, killL, so, args, pus, pu, pu1, toDL, toD, toD1, toDs, elems, idsW, idsV, lenV, oint, cutOk, ldV, subD, newD, fillV, cellsV, one1, one0, zD, cD0, scs, St.upd, St.put, St.ev, St.keep, gt, go, tmOf, ofD, dOk, cV, cV0, renM, Value.oneCell', keepL, freshL, vaOL, outB, wkTm, subL, ninL, injL, nm, resW, resL, resV, shift, ren, ren2, ren1, renO, va, va2, va1, vaO, inDom, stA, Int.reduceEq, ↓reduceIte, reduceCtorEq, Nat.reduceEqDiff, Nat.reduceLT, Nat.reduceLeDiff, Nat.reduceAdd, Nat.reduceSub, Nat.reduceMul, Int.reduceToNat, Int.reduceLE, Int.reduceLT, E0, x_bt3, x_fo29_0, x_fo29_1, x_fo29_2, x_fo29_3, x_fo29_4, x_pt3, x_slt27, x_tk27, x_tk29, x_tk3, d9]
                            (try ((repeat' first | (refine And.intro ?_ ?_) | (intro hc; first | cases hc | ((try rw [hc]); (try simp only [stH] at hc); (try (exfalso; omega)))))
                                  all_goals first | (refine hK _ _ ?_; clear hK K; simp only [St.upd, St.put, List.nil_append, List.cons_append, List.singleton_append, List.append_nil]) | exact hK | omega))))
      all_goals (refine Ends.of (nm []) (by first | exact .inl rfl | exact .inr rfl) ?_; simp (disch := omega) only [awl, ev1, evk, evc, gv, e_move, e_pick, e_bin, binW, e_un, e_cnv, e_conv, e_str, e_mark, e_copy, e_extract, e_len, e_mm, e_nil, e_index, e_field, e_load, e_fld, e_cut, e_alloc, e_box, e_make, e_build, e_lit, e_store, e_app, e_call, e_callF, idsA, killL, so, args, pus, pu, pu1, toDL, toD, toD1, toDs, elems, idsW, idsV, lenV, oint, cutOk, ldV, subD, newD, fillV, cellsV, one1, one0, zD, cD0, scs, St.upd, St.put, St.ev, St.keep, gt, go, tmOf, ofD, dOk, cV, cV0, renM, Value.oneCell', keepL, freshL, vaOL, outB, wkTm, subL, ninL, injL, nm, resW, resL, resV, shift, ren, ren2, ren1, renO, va, va2, va1, vaO, inDom, stA, Int.reduceEq, ↓reduceIte, reduceCtorEq, Nat.reduceEqDiff, Nat.reduceLT, Nat.reduceLeDiff, Nat.reduceAdd, Nat.reduceSub, Nat.reduceMul, Int.reduceToNat, Int.reduceLE, Int.reduceLT, E0, x_bt3, x_fo29_0, x_fo29_1, x_fo29_2, x_fo29_3, x_fo29_4, x_pt3, x_slt27, x_tk27, x_tk29, x_tk3, hz])
theorem ent_overdubref14_mayCell : Ent Try.prog 31 := ⟨_, Try.func31, rfl, by decide⟩
noncomputable def C2 : Env := ⟨Try.prog, fun f ds out => (f = 31 ∧ Sp_overdubref14_mayCell ds out) ∨ (f = 33 ∧ Sp_overdubref01_Put ds out) ∨ (f = 32 ∧ Sp_overdubref14_join ds out) ∨ (f = 24 ∧ Sp_overdubref01_Summed ds out), Es, fun _ => false⟩
theorem C2_sp : ∀ f ds out, C2.Sp f ds out → Ent C2.P f ∧ Good C2.P f (fun a b => a = ds ∧ b = out) := by
  rintro f ds out (⟨rfl, h⟩ | ⟨rfl, h⟩ | ⟨rfl, h⟩ | ⟨rfl, h⟩)
  · exact ⟨ent_overdubref14_mayCell, good_overdubref14_mayCell.one h⟩
  · exact ⟨ent_overdubref01_Put, good_overdubref01_Put.one h⟩
  · exact ⟨ent_overdubref14_join, good_overdubref14_join.one h⟩
  · exact ⟨ent_overdubref01_Summed, good_overdubref01_Summed.one h⟩
theorem C2_ok : C2.Ok := ⟨C2_sp, Es_ok⟩
theorem sumd_padc {l : List Int} (h : l.length ≤ 124) : sumdL l 124 = sealL l := by
  unfold sumdL sealL toL padL
  rw [show min l.length 124 = l.length by omega, List.take_length, List.drop_replicate]; rfl
def Sp_overdubref14_PackCell (ds : List D) (out : Out) : Prop := ∃ (lf nu pt ps : Int) (dt : List Int), ds = [.agg [.v (.int .i64 lf), .v (.int .i64 nu), .v (.int .i64 pt), .v (.int .i64 ps), .list (dt.map mB)]] ∧ Byt dt ∧ dt.length ≤ 9223372036854775807 ∧ out = packCOut lf nu pt ps dt
def cc_overdubref14_PackCell_3 : List (List (Option Bool)) := [[some false, some false, some false, none, none, some false, none, none, some false, none, none, some false, none, none, none, some false, none, none, none, some false, some false, some false], [some true, some false, some false, none, none, some false, none, none, some false, none, none, some false, none, none, none, some false, none, none, none, some false, some false, some false], [some true, some true, some false, none, none, some false, none, none, some false, none, none, some false, none, none, none, some false, none, none, none, some false, some false, some false], [none, none, none, some false, some false, some false, none, none, some false, none, none, some false, none, none, none, some false, none, none, none, some false, some false, some false], [none, none, none, some true, some false, some false, none, none, some false, none, none, some false, none, none, none, some false, none, none, none, some false, some false, some false], [some true, some true, some true, some true, some true, some false, none, none, some false, none, none, some false, none, none, none, some false, none, none, none, some false, some false, some false], [none, none, none, none, none, none, some false, some false, some false, none, none, some false, none, none, none, some false, none, none, none, some false, some false, some false], [none, none, none, none, none, none, some true, some false, some false, none, none, some false, none, none, none, some false, none, none, none, some false, some false, some false], [some true, some true, some true, some true, some true, some true, some true, some true, some false, none, none, some false, none, none, none, some false, none, none, none, some false, some false, some false], [none, none, none, none, none, none, none, none, none, some false, some false, some false, none, none, none, some false, none, none, none, some false, some false, some false], [none, none, none, none, none, none, none, none, none, some true, some false, some false, none, none, none, some false, none, none, none, some false, some false, some false], [some true, some true, some true, some true, some true, some true, some true, some true, some true, some true, some true, some false, none, none, none, some false, none, none, none, some false, some false, some false], [none, none, none, none, none, none, none, none, none, none, none, none, some false, some false, some false, some false, none, none, none, some false, some false, some false], [none, none, none, none, none, none, none, none, none, none, none, none, some true, some false, some false, some false, none, none, none, some false, some false, some false], [none, none, none, none, none, none, none, none, none, none, none, none, some true, some true, some false, some false, none, none, none, some false, some false, some false], [some true, some true, some true, some true, some true, some true, some true, some true, some true, some true, some true, some true, some true, some true, some true, some false, none, none, none, some false, some false, some false], [none, none, none, none, none, none, none, none, none, none, none, none, none, none, none, none, some false, none, none, some false, some false, some false], [none, none, none, none, none, none, none, none, none, none, none, none, none, none, none, none, none, some false, some false, some false, some false, some false], [none, none, none, none, none, none, none, none, none, none, none, none, none, none, none, none, none, some true, some false, some false, some false, some false], [some true, some true, some true, some true, some true, some true, some true, some true, some true, some true, some true, some true, some true, some true, some true, some true, some true, some true, some true, some false, some false, some false], [some true, some true, some true, some true, some true, some true, some true, some true, some true, some true, some true, some true, some true, some true, some true, some true, some true, some true, some true, some true, some false, some false], [some true, some true, some true, some true, some true, some true, some true, some true, some true, some true, some true, some true, some true, some true, some true, some true, some true, some true, some true, some true, some true, some false]]
theorem good_overdubref14_PackCell : Good Try.prog 22 Sp_overdubref14_PackCell := by
  refine good_body (E := C2) (nt := 31) (rs := #[.tmp 2, .tmp 3]) Try.func22 rfl rfl rfl ?_
  rintro ds out ⟨lf, nu, pt, ps, dt, rfl, hb, hl, rfl⟩
  refine ⟨by simp, ?_⟩
  by_cases h : mayC lf nu pt ps dt.length
  · have hz : packCOut lf nu pt ps dt = ⟨.tup [.sl 0 1 0 128 true, .d (.v (.bool true))], [(0, .row 5 1 ((celP lf nu pt ps dt).map mB))]⟩ := if_pos h
    have hd : decide (mayC lf nu pt ps dt.length) = true := decide_eq_true h
    unfold mayC at h
    obtain ⟨⟨a1, a2⟩, ⟨a3, a4⟩, ⟨a5, a6⟩, ⟨a7, a8⟩, a9⟩ := h
    have hcl := celL_len lf nu pt ps dt
    have hcb : Byt (celL lf nu pt ps dt) = True := eq_true (celL_byt hb)
    have hdt : (dt.map mB).take dt.length = dt.map mB := List.take_of_length_le (by simp)
    have hct : ((celL lf nu pt ps dt).map mB).take (12 + dt.length) = (celL lf nu pt ps dt).map mB := List.take_of_length_le (by simp [hcl])
    have hsu : sumdL (celL lf nu pt ps dt) 124 = celP lf nu pt ps dt := sumd_padc (by rw [hcl]; omega)
    have hpl := celP_len lf nu pt ps dt
    repeat' first
                    | (refine AW.seq ?_)
                    | (refine AW.block ?_)
                    | (refine AW.regl C2_ok [0, 1, 2, 3, 4, 7] ?_)
                    | (refine AW.regc (id := 3) C2_ok follows [0, 1, 3, 0, 8, 31, 0, 64, 255, 0, 512, 2047, 0, 4096, 12288, 32767, 0, 0, 131072, 524287, 1048575, 2097151] (by kernel_rfl) [0, 1, 2, 3, 4, 7] ?_)
                    | (refine then_n ?_)
                    | (refine then_r ?_)
                    | (refine then_x ?_)
                    | (refine block_x ?_)
                    | (refine block_o (by decide) ?_)
                    | (refine block_n ?_)
                    | (refine block_r ?_)
                    | (refine AW.skip ?_)
                    | (refine AW.ret ?_)
                    | (refine AW.exit ?_)
                    | (refine AW.cond rfl ?_ ?_ <;> (intro hc; first | cases hc | ((try rw [hc]); (try simp only [stH] at hc); (try (exfalso; omega)))))
                    | ((first
                          | (refine awl_none rfl fun K hK => ?_)
                          | (refine awl_nil ?_)
                          | (refine awl_some rfl rfl (Nat.le_of_ble_eq_true rfl) rfl rfl ?_ ?_ <;> (intro hc; first | cases hc | ((try rw [hc]); (try simp only [stH] at hc); (try (exfalso; omega)))) <;> (try intro K hK))
                          | (refine awl_skip rfl rfl (Nat.le_of_ble_eq_true rfl) rfl rfl ?_)
                          | (refine awc_none rfl fun K hK => ?_)
                          | (refine awc_some rfl rfl (Nat.le_of_ble_eq_true rfl) rfl rfl ?_ ?_ <;> (intro hc; first | cases hc | ((try rw [hc]); (try simp only [stH] at hc); (try (exfalso; omega)))) <;> (try intro K hK))
                          | exact each_nil
                          | (refine each_none rfl ?_ ?_ <;> (try intro bb K hK))
                          | (refine awc_leaf [some 8, some 9, some 10, some 11, some 12, some 13, some 14, some 15, some 16, some 17, some 18, some 19, some 20, some 21, some 22, some 23, some 24, some 25, some 26, some 27, some 28, some 4] cc_overdubref14_PackCell_3 rfl (by kernel_rfl) (by kernel_rfl) ?_ ?_))
                       all_goals first
                         | (show Awl _ _ _ _ _; simp only [St.upd, St.put, List.nil_append, List.cons_append, List.singleton_append, List.append_nil])
                         | (show Awc _ _ _ _ _ _; simp only [St.upd, St.put, List.nil_append, List.cons_append, List.singleton_append, List.append_nil])
                         | (show Each _ _ _ _ _ _ _ _; skip)
                         | (simp (disch := omega) only [awl, ev1, evk, evc, gv, e_move, e_pick, e_bin, binW, e_un, e_cnv, e_conv, e_str, e_mark, e_copy, e_extract, e_len, e_mm, e_nil, e_index, e_field, e_load, e_fld, e_cut, e_alloc, e_box, e_make, e_build, e_lit, e_store, e_app, e_call, e_callF, idsA, killL, so, args, pus, pu, pu1, toDL, toD, toD1, toDs, elems, idsW, idsV, lenV, oint, cutOk, ldV, subD, newD, fillV, cellsV, one1, one0, zD, cD0, scs, St.upd, St.put, St.ev, St.keep, gt, go, tmOf, ofD, dOk, cV, cV0, renM, Value.oneCell', keepL, freshL, vaOL, outB, wkTm, subL, ninL, injL, nm, resW, resL, resV, shift, ren, ren2, ren1, renO, va, va2, va1, vaO, inDom, stA, Int.reduceEq, ↓reduceIte, reduceCtorEq, Nat.reduceEqDiff, Nat.reduceLT, Nat.reduceLeDiff, Nat.reduceAdd, Nat.reduceSub, Nat.reduceMul, Int.reduceToNat, Int.reduceLE, Int.reduceLT, C2, Sp_overdubref14_mayCell, Sp_overdubref01_Put, Sp_overdubref14_join, Sp_overdubref01_Summed, x_el27, x_el63, x_fo29_0, x_fo29_1, x_fo29_2, x_fo29_3, x_fo29_4, x_slt27, x_tk27, x_tk29, x_tk3, x_tk5, x_zc27, x_zc5, wd_4c, wd_1c, putB_takec, YC, putB_len, celL_fold, celL_fold', hcl, hcb, hdt, hct, hsu, hpl, hd, List.flatten_cons, List.flatten_nil, mB_inj, Sg3, St.updIf, ifc_nil, gt_ifc, go_ifc, ite_self, Option.none_or, Option.some_or]
                            (try ((repeat' first | (refine And.intro ?_ ?_) | (intro hc; first | cases hc | ((try rw [hc]); (try simp only [stH] at hc); (try (exfalso; omega)))))
                                  all_goals first | (refine hK _ _ ?_; clear hK K; simp only [St.upd, St.put, List.nil_append, List.cons_append, List.singleton_append, List.append_nil]) | exact hK | omega))))
    (refine Ends.of (nm [(0, 30)]) (by first | exact .inl rfl | exact .inr rfl) ?_; simp (disch := omega) only [awl, ev1, evk, evc, gv, e_move, e_pick, e_bin, binW, e_un, e_cnv, e_conv, e_str, e_mark, e_copy, e_extract, e_len, e_mm, e_nil, e_index, e_field, e_load, e_fld, e_cut, e_alloc, e_box, e_make, e_build, e_lit, e_store, e_app, e_call, e_callF, idsA, killL, so, args, pus, pu, pu1, toDL, toD, toD1, toDs, elems, idsW, idsV, lenV, oint, cutOk, ldV, subD, newD, fillV, cellsV, one1, one0, zD, cD0, scs, St.upd, St.put, St.ev, St.keep, gt, go, tmOf, ofD, dOk, cV, cV0, renM, Value.oneCell', keepL, freshL, vaOL, outB, wkTm, subL, ninL, injL, nm, resW, resL, resV, shift, ren, ren2, ren1, renO, va, va2, va1, vaO, inDom, stA, Int.reduceEq, ↓reduceIte, reduceCtorEq, Nat.reduceEqDiff, Nat.reduceLT, Nat.reduceLeDiff, Nat.reduceAdd, Nat.reduceSub, Nat.reduceMul, Int.reduceToNat, Int.reduceLE, Int.reduceLT, C2, Sp_overdubref14_mayCell, Sp_overdubref01_Put, Sp_overdubref14_join, Sp_overdubref01_Summed, x_el27, x_el63, x_fo29_0, x_fo29_1, x_fo29_2, x_fo29_3, x_fo29_4, x_slt27, x_tk27, x_tk29, x_tk3, x_tk5, x_zc27, x_zc5, hz])
  · have hz : packCOut lf nu pt ps dt = ⟨.tup [.nil, .d (.v (.bool false))], []⟩ := if_neg h
    have hd : decide (mayC lf nu pt ps dt.length) = false := decide_eq_false h
    repeat' first
                    | (refine AW.seq ?_)
                    | (refine AW.block ?_)
                    | (refine AW.regl C2_ok [0, 1, 2, 3, 4, 7] ?_)
                    | (refine AW.regc (id := 3) C2_ok follows [0, 1, 3, 0, 8, 31, 0, 64, 255, 0, 512, 2047, 0, 4096, 12288, 32767, 0, 0, 131072, 524287, 1048575, 2097151] (by kernel_rfl) [0, 1, 2, 3, 4, 7] ?_)
                    | (refine then_n ?_)
                    | (refine then_r ?_)
                    | (refine then_x ?_)
                    | (refine block_x ?_)
                    | (refine block_o (by decide) ?_)
                    | (refine block_n ?_)
                    | (refine block_r ?_)
                    | (refine AW.skip ?_)
                    | (refine AW.ret ?_)
                    | (refine AW.exit ?_)
                    | (refine AW.cond rfl ?_ ?_ <;> (intro hc; first | cases hc | ((try rw [hc]); (try simp only [stH] at hc); (try (exfalso; omega)))))
                    | ((first
                          | (refine awl_none rfl fun K hK => ?_)
                          | (refine awl_nil ?_)
                          | (refine awl_some rfl rfl (Nat.le_of_ble_eq_true rfl) rfl rfl ?_ ?_ <;> (intro hc; first | cases hc | ((try rw [hc]); (try simp only [stH] at hc); (try (exfalso; omega)))) <;> (try intro K hK))
                          | (refine awl_skip rfl rfl (Nat.le_of_ble_eq_true rfl) rfl rfl ?_)
                          | (refine awc_none rfl fun K hK => ?_)
                          | (refine awc_some rfl rfl (Nat.le_of_ble_eq_true rfl) rfl rfl ?_ ?_ <;> (intro hc; first | cases hc | ((try rw [hc]); (try simp only [stH] at hc); (try (exfalso; omega)))) <;> (try intro K hK))
                          | exact each_nil
                          | (refine each_none rfl ?_ ?_ <;> (try intro bb K hK))
                          | (refine awc_leaf [some 8, some 9, some 10, some 11, some 12, some 13, some 14, some 15, some 16, some 17, some 18, some 19, some 20, some 21, some 22, some 23, some 24, some 25, some 26, some 27, some 28, some 4] cc_overdubref14_PackCell_3 rfl (by kernel_rfl) (by kernel_rfl) ?_ ?_))
                       all_goals first
                         | (show Awl _ _ _ _ _; simp only [St.upd, St.put, List.nil_append, List.cons_append, List.singleton_append, List.append_nil])
                         | (show Awc _ _ _ _ _ _; simp only [St.upd, St.put, List.nil_append, List.cons_append, List.singleton_append, List.append_nil])
                         | (show Each _ _ _ _ _ _ _ _; skip)
                         | (simp (disch := omega) only [awl, ev1, evk, evc, gv, e_move, e_pick, e_bin, binW, e_un, e_cnv, e_conv, e_str, e_mark, e_copy, e_extract, e_len, e_mm, e_nil, e_index, e_field, e_load, e_fld, e_cut, e_alloc, e_box, e_make, e_build, e_lit, e_store, e_app, e_call, e_callF, idsA, killL, so, args, pus, pu, pu1, toDL, toD, toD1, toDs, elems, idsW, idsV, lenV, oint, cutOk, ldV, subD, newD, fillV, cellsV, one1, one0, zD, cD0, scs, St.upd, St.put, St.ev, St.keep, gt, go, tmOf, ofD, dOk, cV, cV0, renM, Value.oneCell', keepL, freshL, vaOL, outB, wkTm, subL, ninL, injL, nm, resW, resL, resV, shift, ren, ren2, ren1, renO, va, va2, va1, vaO, inDom, stA, Int.reduceEq, ↓reduceIte, reduceCtorEq, Nat.reduceEqDiff, Nat.reduceLT, Nat.reduceLeDiff, Nat.reduceAdd, Nat.reduceSub, Nat.reduceMul, Int.reduceToNat, Int.reduceLE, Int.reduceLT, C2, Sp_overdubref14_mayCell, Sp_overdubref01_Put, Sp_overdubref14_join, Sp_overdubref01_Summed, x_el27, x_el63, x_fo29_0, x_fo29_1, x_fo29_2, x_fo29_3, x_fo29_4, x_slt27, x_tk27, x_tk29, x_tk3, x_tk5, x_zc27, x_zc5, hd, Sg3, St.updIf, ifc_nil, gt_ifc, go_ifc, ite_self, Option.none_or, Option.some_or]
                            (try ((repeat' first | (refine And.intro ?_ ?_) | (intro hc; first | cases hc | ((try rw [hc]); (try simp only [stH] at hc); (try (exfalso; omega)))))
                                  all_goals first | (refine hK _ _ ?_; clear hK K; simp only [St.upd, St.put, List.nil_append, List.cons_append, List.singleton_append, List.append_nil]) | exact hK | omega))))
    (refine Ends.of (nm []) (by first | exact .inl rfl | exact .inr rfl) ?_; simp (disch := omega) only [awl, ev1, evk, evc, gv, e_move, e_pick, e_bin, binW, e_un, e_cnv, e_conv, e_str, e_mark, e_copy, e_extract, e_len, e_mm, e_nil, e_index, e_field, e_load, e_fld, e_cut, e_alloc, e_box, e_make, e_build, e_lit, e_store, e_app, e_call, e_callF, idsA, killL, so, args, pus, pu, pu1, toDL, toD, toD1, toDs, elems, idsW, idsV, lenV, oint, cutOk, ldV, subD, newD, fillV, cellsV, one1, one0, zD, cD0, scs, St.upd, St.put, St.ev, St.keep, gt, go, tmOf, ofD, dOk, cV, cV0, renM, Value.oneCell', keepL, freshL, vaOL, outB, wkTm, subL, ninL, injL, nm, resW, resL, resV, shift, ren, ren2, ren1, renO, va, va2, va1, vaO, inDom, stA, Int.reduceEq, ↓reduceIte, reduceCtorEq, Nat.reduceEqDiff, Nat.reduceLT, Nat.reduceLeDiff, Nat.reduceAdd, Nat.reduceSub, Nat.reduceMul, Int.reduceToNat, Int.reduceLE, Int.reduceLT, C2, Sp_overdubref14_mayCell, Sp_overdubref01_Put, Sp_overdubref14_join, Sp_overdubref01_Summed, x_el27, x_el63, x_fo29_0, x_fo29_1, x_fo29_2, x_fo29_3, x_fo29_4, x_slt27, x_tk27, x_tk29, x_tk3, x_tk5, x_zc27, x_zc5, hz])
theorem ent_overdubref14_PackCell : Ent Try.prog 22 := ⟨_, Try.func22, rfl, by decide⟩
end Go.Proofs.Ytaiaackeljlbfaa.Am
