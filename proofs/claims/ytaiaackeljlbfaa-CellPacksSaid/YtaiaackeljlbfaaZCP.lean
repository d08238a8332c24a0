import Derived.Test.YtaiaackeljlbfaaZC3
set_option linter.unusedVariables false
set_option linter.unusedSimpArgs false
set_option maxRecDepth 10000
set_option maxHeartbeats 0
namespace Go.Proofs.Ytaiaackeljlbfaa.Am
open Go Go.RowKit Go.Proofs
noncomputable def CP : Env := ⟨Try.prog, fun f ds out => (f = 16 ∧ Sp_overdubkeep_Cut_byte ds out) ∨ (f = 17 ∧ Sp_overdublaw15_small ds out) ∨ (f = 21 ∧ Sp_cells_Pack ds out) ∨ (f = 22 ∧ Sp_overdubref14_PackCell ds out) ∨ (f = 20 ∧ Sp_overdubkeep_Same_byte ds out) ∨ (f = 23 ∧ Sp_overdubkeep_Copy_byte ds out) ∨ (f = 10 ∧ Sp_overdubkeep_Within ds out) ∨ (f = 24 ∧ Sp_overdubref01_Summed ds out) ∨ (f = 25 ∧ Sp_cells_Unpack ds out) ∨ (f = 26 ∧ Sp_overdubref14_UnpackCell ds out) ∨ (f = 15 ∧ Sp_overdubkeep_Cell ds out) ∨ (f = 12 ∧ Sp_overdublaw15_wakes ds out), Es, fun _ => false⟩
theorem CP_sp : ∀ f ds out, CP.Sp f ds out → Ent CP.P f ∧ Good CP.P f (fun a b => a = ds ∧ b = out) := by
  rintro f ds out (⟨rfl, h⟩ | ⟨rfl, h⟩ | ⟨rfl, h⟩ | ⟨rfl, h⟩ | ⟨rfl, h⟩ | ⟨rfl, h⟩ | ⟨rfl, h⟩ | ⟨rfl, h⟩ | ⟨rfl, h⟩ | ⟨rfl, h⟩ | ⟨rfl, h⟩ | ⟨rfl, h⟩)
  · exact ⟨ent_overdubkeep_Cut_byte, good_overdubkeep_Cut_byte.one h⟩
  · exact ⟨ent_overdublaw15_small, good_overdublaw15_small.one h⟩
  · exact ⟨ent_cells_Pack, good_cells_Pack.one h⟩
  · exact ⟨ent_overdubref14_PackCell, good_overdubref14_PackCell.one h⟩
  · exact ⟨ent_overdubkeep_Same_byte, good_overdubkeep_Same_byte.one h⟩
  · exact ⟨ent_overdubkeep_Copy_byte, good_overdubkeep_Copy_byte.one h⟩
  · exact ⟨ent_overdubkeep_Within, good_overdubkeep_Within.one h⟩
  · exact ⟨ent_overdubref01_Summed, good_overdubref01_Summed.one h⟩
  · exact ⟨ent_cells_Unpack, good_cells_Unpack.one h⟩
  · exact ⟨ent_overdubref14_UnpackCell, good_overdubref14_UnpackCell.one h⟩
  · exact ⟨ent_overdubkeep_Cell, good_overdubkeep_Cell.one h⟩
  · exact ⟨ent_overdublaw15_wakes, good_overdublaw15_wakes.one h⟩
theorem CP_ok : CP.Ok := ⟨CP_sp, Es_ok⟩
def rsmC (b : List Int) : List Int := b.take 124 ++ sumL (b.take 124)
theorem rsmC_len {b : List Int} (h : 124 ≤ b.length) : (rsmC b).length = 128 := by
  unfold rsmC; rw [List.length_append, List.length_take, sumL_len]; omega
theorem rsmC_byt {b : List Int} (h : Byt b) : Byt (rsmC b) := byt_append (byt_take h _) (sumL_byt _)
theorem sumd_resC (b : List Int) : sumdL (b.take 124) 0 = rsmC b := by
  have e : toL (b.take 124) 0 = b.take 124 := by unfold toL; simp
  unfold sumdL rsmC; rw [e]
theorem nil_B (l : List Int) : (([] : List D) = l.map mB) = (l = []) := by
  cases l with
  | nil => simp
  | cons a r => simp
theorem cel_nil : celOut [] = celFail := by
  unfold celOut
  rw [if_neg fun h => by have := h.1.1; simp at this]
structure Ce where
  lf : Int
  nu : Int
  pt : Int
  ps : Int
  dt : List Int
def wfCe (c : Ce) : Prop := Byt c.dt ∧ c.dt.length ≤ 120
def bxC (c : Ce) : List V := [.d (.v (.int .i64 c.lf)), .d (.v (.int .i64 c.nu)), .d (.v (.int .i64 c.pt)), .d (.v (.int .i64 c.ps)), .d (.list (c.dt.map mB))]
def stC (b : List Int) (at' x : Int) (sm : Bool) (c : Ce) : St := ⟨[(2, .d (.list (b.map mB))), (3, .d (.v (.int .i64 at'))), (4, .d (.v (.int .u8 x))), (5, .d (.v (.bool sm))), (6, .ptr 6 0), (12, .d (.v (.bool false)))], [(6, .box (bxC c))], 113⟩
def stY (c : Ce) (P Y : List Int) : St := ⟨[(2, .sl 900 1 0 128 true), (6, .ptr 6 0), (12, .d (.v (.bool false))), (15, .sl 37 1 0 128 true), (16, .d (.v (.bool true)))], [(6, .box (bxC c)), (37, .row 5 1 (P.map mB)), (900, .row 5 1 (Y.map mB))], 113⟩
def Sp_overdublaw15_CellPacks (ds : List D) (out : Out) : Prop := ∃ (lf nu pt ps : Int) (dt : List Int) (rt : Bool) (b : List Int) (at' x : Int) (sm : Bool), ds = [.agg [.v (.int .i64 lf), .v (.int .i64 nu), .v (.int .i64 pt), .v (.int .i64 ps), .list (dt.map mB)], .v (.bool rt), .list (b.map mB), .v (.int .i64 at'), .v (.int .u8 x), .v (.bool sm)] ∧ Byt dt ∧ dt.length ≤ 9223372036854775807 ∧ (0 ≤ x ∧ x < 256) ∧ Byt b ∧ b.length ≤ 9223372036854775807 ∧ out = ⟨.d (.v (.bool true)), []⟩
theorem good_overdublaw15_CellPacks : Good Try.prog 9 Sp_overdublaw15_CellPacks := by
  refine good_body (E := CP) (nt := 113) (rs := #[.tmp 12]) Try.func9 rfl rfl rfl ?_
  rintro ds out ⟨lf, nu, pt, ps, dt, rt, b, at', x, sm, rfl, hdb, hdl, hx, hb, hbl, rfl⟩
  refine ⟨by simp, ?_⟩
  have n120 : (120 : Int).toNat = 120 := rfl
  have hd1 : (dt.map mB).take dt.length = dt.map mB := List.take_of_length_le (by simp)
  have hd2 : ((dt.take 120).map mB).take (dt.take 120).length = (dt.take 120).map mB := List.take_of_length_le (by simp)
  have h120 : (dt.take 120).length ≤ 120 := List.length_take_le ..
  refine AW.mx3 (stC b at' x sm) wfCe ?_ ?_
  · cases rt
    · repeat' first
                    | (refine AW.seq ?_)
                    | (refine AW.block ?_)
                    | (refine AW.regl CP_ok [0, 1, 2, 3, 4, 5, 6, 12, 13, 14, 15, 16, 17, 18, 19, 20, 21, 22, 27, 48, 56, 69] ?_)
                    | (refine then_n ?_)
                    | (refine then_r ?_)
                    | (refine then_x ?_)
                    | (refine block_x ?_)
                    | (refine block_o (by decide) ?_)
                    | (refine block_n ?_)
                    | (refine block_r ?_)
                    | (refine AW.skip ?_)
                    | (refine AW.ret ?_)
                    | (refine AW.exit ?_)
                    | (refine AW.cond rfl ?_ ?_ <;> (intro hc; first | cases hc | ((try rw [hc]); (try simp only [stH] at hc); (try (exfalso; omega)))))
                    | ((first
                          | (refine awl_none rfl fun K hK => ?_)
                          | (refine awl_nil ?_)
                          | (refine awl_some rfl rfl (Nat.le_of_ble_eq_true rfl) rfl rfl ?_ ?_ <;> (intro hc; first | cases hc | ((try rw [hc]); (try simp only [stH] at hc); (try (exfalso; omega)))) <;> (try intro K hK))
                          | (refine awl_skip rfl rfl (Nat.le_of_ble_eq_true rfl) rfl rfl ?_))
                       all_goals first
                         | (show Awl _ _ _ _ _; simp only [St.upd, St.put, List.nil_append, List.cons_append, List.singleton_append, List.append_nil])
                         | (simp (disch := omega) only [awl, ev1, evk, evc, gv, e_move, e_pick, e_bin, binW, e_un, e_cnv, e_conv, e_str, e_mark, e_copy, e_extract, e_len, e_mm, e_nil, e_index, e_field, e_load, e_fld, e_cut, e_alloc, e_box, e_make, e_build, e_lit, e_store, e_app, e_call, e_callF, idsA, killL, so, args, pus, pu, pu1, toDL, toD, toD1, toDs, elems, idsW, idsV, lenV, oint, cutOk, ldV, subD, newD, fillV, cellsV, one1, one0, zD, cD0, scs, St.upd, St.put, St.ev, St.keep, gt, go, tmOf, ofD, dOk, cV, cV0, renM, Value.oneCell', keepL, freshL, vaOL, outB, wkTm, subL, ninL, injL, nm, resW, resL, resV, shift, ren, ren2, ren1, renO, va, va2, va1, vaO, inDom, stA, Int.reduceEq, ↓reduceIte, reduceCtorEq, Nat.reduceEqDiff, Nat.reduceLT, Nat.reduceLeDiff, Nat.reduceAdd, Nat.reduceSub, Nat.reduceMul, Int.reduceToNat, Int.reduceLE, Int.reduceLT, CP, Sp_overdubkeep_Cut_byte, Sp_overdublaw15_small, Sp_cells_Pack, Sp_overdubref14_PackCell, Sp_overdubkeep_Same_byte, Sp_overdubkeep_Copy_byte, Sp_overdubkeep_Within, Sp_overdubref01_Summed, Sp_cells_Unpack, Sp_overdubref14_UnpackCell, Sp_overdubkeep_Cell, Sp_overdublaw15_wakes, x_ar27, x_bt3, x_bt4, x_bt5, x_el27, x_fo29_4, x_pt3, x_pt4, x_pt5, x_slt27, x_tk27, x_tk29, x_tk5, x_zc29, n120, hd1, hd2, mB_inj]
                            (try ((repeat' first | (refine And.intro ?_ ?_) | (intro hc; first | cases hc | ((try rw [hc]); (try simp only [stH] at hc); (try (exfalso; omega)))))
                                  all_goals first | (refine hK _ _ ?_; clear hK K; simp only [St.upd, St.put, List.nil_append, List.cons_append, List.singleton_append, List.append_nil]) | exact hK | omega))))
      refine ⟨⟨lf, nu, pt, ps, dt.take 120⟩, ⟨byt_take hdb _, h120⟩, nm [], Wk.of ?_⟩
      simp (disch := omega) only [awl, ev1, evk, evc, gv, e_move, e_pick, e_bin, binW, e_un, e_cnv, e_conv, e_str, e_mark, e_copy, e_extract, e_len, e_mm, e_nil, e_index, e_field, e_load, e_fld, e_cut, e_alloc, e_box, e_make, e_build, e_lit, e_store, e_app, e_call, e_callF, idsA, killL, so, args, pus, pu, pu1, toDL, toD, toD1, toDs, elems, idsW, idsV, lenV, oint, cutOk, ldV, subD, newD, fillV, cellsV, one1, one0, zD, cD0, scs, St.upd, St.put, St.ev, St.keep, gt, go, tmOf, ofD, dOk, cV, cV0, renM, Value.oneCell', keepL, freshL, vaOL, outB, wkTm, subL, ninL, injL, nm, resW, resL, resV, shift, ren, ren2, ren1, renO, va, va2, va1, vaO, inDom, stA, Int.reduceEq, ↓reduceIte, reduceCtorEq, Nat.reduceEqDiff, Nat.reduceLT, Nat.reduceLeDiff, Nat.reduceAdd, Nat.reduceSub, Nat.reduceMul, Int.reduceToNat, Int.reduceLE, Int.reduceLT, CP, Sp_overdubkeep_Cut_byte, Sp_overdublaw15_small, Sp_cells_Pack, Sp_overdubref14_PackCell, Sp_overdubkeep_Same_byte, Sp_overdubkeep_Copy_byte, Sp_overdubkeep_Within, Sp_overdubref01_Summed, Sp_cells_Unpack, Sp_overdubref14_UnpackCell, Sp_overdubkeep_Cell, Sp_overdublaw15_wakes, x_ar27, x_bt3, x_bt4, x_bt5, x_el27, x_fo29_4, x_pt3, x_pt4, x_pt5, x_slt27, x_tk27, x_tk29, x_tk5, x_zc29, bxC, stC]
    · repeat' first
                    | (refine AW.seq ?_)
                    | (refine AW.block ?_)
                    | (refine AW.regl CP_ok [0, 1, 2, 3, 4, 5, 6, 12, 13, 14, 15, 16, 17, 18, 19, 20, 21, 22, 27, 48, 56, 69] ?_)
                    | (refine then_n ?_)
                    | (refine then_r ?_)
                    | (refine then_x ?_)
                    | (refine block_x ?_)
                    | (refine block_o (by decide) ?_)
                    | (refine block_n ?_)
                    | (refine block_r ?_)
                    | (refine AW.skip ?_)
                    | (refine AW.ret ?_)
                    | (refine AW.exit ?_)
                    | (refine AW.cond rfl ?_ ?_ <;> (intro hc; first | cases hc | ((try rw [hc]); (try simp only [stH] at hc); (try (exfalso; omega)))))
                    | ((first
                          | (refine awl_none rfl fun K hK => ?_)
                          | (refine awl_nil ?_)
                          | (refine awl_some rfl rfl (Nat.le_of_ble_eq_true rfl) rfl rfl ?_ ?_ <;> (intro hc; first | cases hc | ((try rw [hc]); (try simp only [stH] at hc); (try (exfalso; omega)))) <;> (try intro K hK))
                          | (refine awl_skip rfl rfl (Nat.le_of_ble_eq_true rfl) rfl rfl ?_))
                       all_goals first
                         | (show Awl _ _ _ _ _; simp only [St.upd, St.put, List.nil_append, List.cons_append, List.singleton_append, List.append_nil])
                         | (simp (disch := omega) only [awl, ev1, evk, evc, gv, e_move, e_pick, e_bin, binW, e_un, e_cnv, e_conv, e_str, e_mark, e_copy, e_extract, e_len, e_mm, e_nil, e_index, e_field, e_load, e_fld, e_cut, e_alloc, e_box, e_make, e_build, e_lit, e_store, e_app, e_call, e_callF, idsA, killL, so, args, pus, pu, pu1, toDL, toD, toD1, toDs, elems, idsW, idsV, lenV, oint, cutOk, ldV, subD, newD, fillV, cellsV, one1, one0, zD, cD0, scs, St.upd, St.put, St.ev, St.keep, gt, go, tmOf, ofD, dOk, cV, cV0, renM, Value.oneCell', keepL, freshL, vaOL, outB, wkTm, subL, ninL, injL, nm, resW, resL, resV, shift, ren, ren2, ren1, renO, va, va2, va1, vaO, inDom, stA, Int.reduceEq, ↓reduceIte, reduceCtorEq, Nat.reduceEqDiff, Nat.reduceLT, Nat.reduceLeDiff, Nat.reduceAdd, Nat.reduceSub, Nat.reduceMul, Int.reduceToNat, Int.reduceLE, Int.reduceLT, CP, Sp_overdubkeep_Cut_byte, Sp_overdublaw15_small, Sp_cells_Pack, Sp_overdubref14_PackCell, Sp_overdubkeep_Same_byte, Sp_overdubkeep_Copy_byte, Sp_overdubkeep_Within, Sp_overdubref01_Summed, Sp_cells_Unpack, Sp_overdubref14_UnpackCell, Sp_overdubkeep_Cell, Sp_overdublaw15_wakes, x_ar27, x_bt3, x_bt4, x_bt5, x_el27, x_fo29_4, x_pt3, x_pt4, x_pt5, x_slt27, x_tk27, x_tk29, x_tk5, x_zc29, n120, hd1, hd2, smallC, mB_inj]
                            (try ((repeat' first | (refine And.intro ?_ ?_) | (intro hc; first | cases hc | ((try rw [hc]); (try simp only [stH] at hc); (try (exfalso; omega)))))
                                  all_goals first | (refine hK _ _ ?_; clear hK K; simp only [St.upd, St.put, List.nil_append, List.cons_append, List.singleton_append, List.append_nil]) | exact hK | omega))))
      refine ⟨⟨1 + within lf 3, 1 + within nu 4, within pt (1 + within ps 5), 1 + within ps 5, (dt.take 120).take 112⟩, ⟨byt_take (byt_take hdb _) _, by dsimp only; rw [List.length_take]; omega⟩, nm [], Wk.of ?_⟩
      simp (disch := omega) only [awl, ev1, evk, evc, gv, e_move, e_pick, e_bin, binW, e_un, e_cnv, e_conv, e_str, e_mark, e_copy, e_extract, e_len, e_mm, e_nil, e_index, e_field, e_load, e_fld, e_cut, e_alloc, e_box, e_make, e_build, e_lit, e_store, e_app, e_call, e_callF, idsA, killL, so, args, pus, pu, pu1, toDL, toD, toD1, toDs, elems, idsW, idsV, lenV, oint, cutOk, ldV, subD, newD, fillV, cellsV, one1, one0, zD, cD0, scs, St.upd, St.put, St.ev, St.keep, gt, go, tmOf, ofD, dOk, cV, cV0, renM, Value.oneCell', keepL, freshL, vaOL, outB, wkTm, subL, ninL, injL, nm, resW, resL, resV, shift, ren, ren2, ren1, renO, va, va2, va1, vaO, inDom, stA, Int.reduceEq, ↓reduceIte, reduceCtorEq, Nat.reduceEqDiff, Nat.reduceLT, Nat.reduceLeDiff, Nat.reduceAdd, Nat.reduceSub, Nat.reduceMul, Int.reduceToNat, Int.reduceLE, Int.reduceLT, CP, Sp_overdubkeep_Cut_byte, Sp_overdublaw15_small, Sp_cells_Pack, Sp_overdubref14_PackCell, Sp_overdubkeep_Same_byte, Sp_overdubkeep_Copy_byte, Sp_overdubkeep_Within, Sp_overdubref01_Summed, Sp_cells_Unpack, Sp_overdubref14_UnpackCell, Sp_overdubkeep_Cell, Sp_overdublaw15_wakes, x_ar27, x_bt3, x_bt4, x_bt5, x_el27, x_fo29_4, x_pt3, x_pt4, x_pt5, x_slt27, x_tk27, x_tk29, x_tk5, x_zc29, bxC, stC]
  clear hd1 hd2 h120 hdb hdl n120 lf nu pt ps dt
  rintro ⟨lf, nu, pt, ps, dt⟩ ⟨hdb, hdl⟩
  dsimp only at hdb hdl
  have hdy : Byt dt = True := eq_true hdb
  have hdt : (dt.map mB).take dt.length = dt.map mB := List.take_of_length_le (by simp)
  have n140 : (140 : Int).toNat = 140 := rfl
  have hby : Byt (b.take 140) = True := eq_true (byt_take hb _)
  have hbt : ((b.take 140).map mB).take (b.take 140).length = (b.take 140).map mB := List.take_of_length_le (by simp)
  have hb140 : (b.take 140).length ≤ 140 := List.length_take_le ..
  by_cases hm : mayC lf nu pt ps dt.length
  case neg =>
    have hp : packCOut lf nu pt ps dt = ⟨.tup [.nil, .d (.v (.bool false))], []⟩ := if_neg hm
    clear hm
    rcases cel_form (b.take 140) with hc' | ⟨p, q, r, s, dd, hdd, hc'⟩
    · repeat' first
                    | (refine AW.seq ?_)
                    | (refine AW.block ?_)
                    | (refine AW.regl CP_ok [0, 1, 2, 3, 4, 5, 6, 12, 13, 14, 15, 16, 17, 18, 19, 20, 21, 22, 27, 48, 56, 69] ?_)
                    | (refine then_n ?_)
                    | (refine then_r ?_)
                    | (refine then_x ?_)
                    | (refine block_x ?_)
                    | (refine block_o (by decide) ?_)
                    | (refine block_n ?_)
                    | (refine block_r ?_)
                    | (refine AW.skip ?_)
                    | (refine AW.ret ?_)
                    | (refine AW.exit ?_)
                    | (refine AW.cond rfl ?_ ?_ <;> (intro hc; first | cases hc | ((try rw [hc]); (try simp only [stH] at hc); (try (exfalso; omega)))))
                    | ((first
                          | (refine awl_none rfl fun K hK => ?_)
                          | (refine awl_nil ?_)
                          | (refine awl_some rfl rfl (Nat.le_of_ble_eq_true rfl) rfl rfl ?_ ?_ <;> (intro hc; first | cases hc | ((try rw [hc]); (try simp only [stH] at hc); (try (exfalso; omega)))) <;> (try intro K hK))
                          | (refine awl_skip rfl rfl (Nat.le_of_ble_eq_true rfl) rfl rfl ?_))
                       all_goals first
                         | (show Awl _ _ _ _ _; simp only [St.upd, St.put, List.nil_append, List.cons_append, List.singleton_append, List.append_nil])
                         | (simp (disch := omega) only [awl, ev1, evk, evc, gv, e_move, e_pick, e_bin, binW, e_un, e_cnv, e_conv, e_str, e_mark, e_copy, e_extract, e_len, e_mm, e_nil, e_index, e_field, e_load, e_fld, e_cut, e_alloc, e_box, e_make, e_build, e_lit, e_store, e_app, e_call, e_callF, idsA, killL, so, args, pus, pu, pu1, toDL, toD, toD1, toDs, elems, idsW, idsV, lenV, oint, cutOk, ldV, subD, newD, fillV, cellsV, one1, one0, zD, cD0, scs, St.upd, St.put, St.ev, St.keep, gt, go, tmOf, ofD, dOk, cV, cV0, renM, Value.oneCell', keepL, freshL, vaOL, outB, wkTm, subL, ninL, injL, nm, resW, resL, resV, shift, ren, ren2, ren1, renO, va, va2, va1, vaO, inDom, stA, Int.reduceEq, ↓reduceIte, reduceCtorEq, Nat.reduceEqDiff, Nat.reduceLT, Nat.reduceLeDiff, Nat.reduceAdd, Nat.reduceSub, Nat.reduceMul, Int.reduceToNat, Int.reduceLE, Int.reduceLT, CP, Sp_overdubkeep_Cut_byte, Sp_overdublaw15_small, Sp_cells_Pack, Sp_overdubref14_PackCell, Sp_overdubkeep_Same_byte, Sp_overdubkeep_Copy_byte, Sp_overdubkeep_Within, Sp_overdubref01_Summed, Sp_cells_Unpack, Sp_overdubref14_UnpackCell, Sp_overdubkeep_Cell, Sp_overdublaw15_wakes, x_ar27, x_bt3, x_bt4, x_bt5, x_el27, x_fo29_4, x_pt3, x_pt4, x_pt5, x_slt27, x_tk27, x_tk29, x_tk5, x_zc29, bxC, stC, hdy, hdt, n140, hby, hbt, hp, hc', cel_nil, celFail, nil_B, mB_inj]
                            (try ((repeat' first | (refine And.intro ?_ ?_) | (intro hc; first | cases hc | ((try rw [hc]); (try simp only [stH] at hc); (try (exfalso; omega)))))
                                  all_goals first | (refine hK _ _ ?_; clear hK K; simp only [St.upd, St.put, List.nil_append, List.cons_append, List.singleton_append, List.append_nil]) | exact hK | omega))))
      (refine Ends.of (nm []) (by first | exact .inl rfl | exact .inr rfl) ?_; simp (disch := omega) only [awl, ev1, evk, evc, gv, e_move, e_pick, e_bin, binW, e_un, e_cnv, e_conv, e_str, e_mark, e_copy, e_extract, e_len, e_mm, e_nil, e_index, e_field, e_load, e_fld, e_cut, e_alloc, e_box, e_make, e_build, e_lit, e_store, e_app, e_call, e_callF, idsA, killL, so, args, pus, pu, pu1, toDL, toD, toD1, toDs, elems, idsW, idsV, lenV, oint, cutOk, ldV, subD, newD, fillV, cellsV, one1, one0, zD, cD0, scs, St.upd, St.put, St.ev, St.keep, gt, go, tmOf, ofD, dOk, cV, cV0, renM, Value.oneCell', keepL, freshL, vaOL, outB, wkTm, subL, ninL, injL, nm, resW, resL, resV, shift, ren, ren2, ren1, renO, va, va2, va1, vaO, inDom, stA, Int.reduceEq, ↓reduceIte, reduceCtorEq, Nat.reduceEqDiff, Nat.reduceLT, Nat.reduceLeDiff, Nat.reduceAdd, Nat.reduceSub, Nat.reduceMul, Int.reduceToNat, Int.reduceLE, Int.reduceLT, CP, Sp_overdubkeep_Cut_byte, Sp_overdublaw15_small, Sp_cells_Pack, Sp_overdubref14_PackCell, Sp_overdubkeep_Same_byte, Sp_overdubkeep_Copy_byte, Sp_overdubkeep_Within, Sp_overdubref01_Summed, Sp_cells_Unpack, Sp_overdubref14_UnpackCell, Sp_overdubkeep_Cell, Sp_overdublaw15_wakes, x_ar27, x_bt3, x_bt4, x_bt5, x_el27, x_fo29_4, x_pt3, x_pt4, x_pt5, x_slt27, x_tk27, x_tk29, x_tk5, x_zc29])
    · have hddt : (dd.map mB).take dd.length = dd.map mB := List.take_of_length_le (by simp)
      repeat' first
                    | (refine AW.seq ?_)
                    | (refine AW.block ?_)
                    | (refine AW.regl CP_ok [0, 1, 2, 3, 4, 5, 6, 12, 13, 14, 15, 16, 17, 18, 19, 20, 21, 22, 27, 48, 56, 69] ?_)
                    | (refine then_n ?_)
                    | (refine then_r ?_)
                    | (refine then_x ?_)
                    | (refine block_x ?_)
                    | (refine block_o (by decide) ?_)
                    | (refine block_n ?_)
                    | (refine block_r ?_)
                    | (refine AW.skip ?_)
                    | (refine AW.ret ?_)
                    | (refine AW.exit ?_)
                    | (refine AW.cond rfl ?_ ?_ <;> (intro hc; first | cases hc | ((try rw [hc]); (try simp only [stH] at hc); (try (exfalso; omega)))))
                    | ((first
                          | (refine awl_none rfl fun K hK => ?_)
                          | (refine awl_nil ?_)
                          | (refine awl_some rfl rfl (Nat.le_of_ble_eq_true rfl) rfl rfl ?_ ?_ <;> (intro hc; first | cases hc | ((try rw [hc]); (try simp only [stH] at hc); (try (exfalso; omega)))) <;> (try intro K hK))
                          | (refine awl_skip rfl rfl (Nat.le_of_ble_eq_true rfl) rfl rfl ?_))
                       all_goals first
                         | (show Awl _ _ _ _ _; simp only [St.upd, St.put, List.nil_append, List.cons_append, List.singleton_append, List.append_nil])
                         | (simp (disch := omega) only [awl, ev1, evk, evc, gv, e_move, e_pick, e_bin, binW, e_un, e_cnv, e_conv, e_str, e_mark, e_copy, e_extract, e_len, e_mm, e_nil, e_index, e_field, e_load, e_fld, e_cut, e_alloc, e_box, e_make, e_build, e_lit, e_store, e_app, e_call, e_callF, idsA, killL, so, args, pus, pu, pu1, toDL, toD, toD1, toDs, elems, idsW, idsV, lenV, oint, cutOk, ldV, subD, newD, fillV, cellsV, one1, one0, zD, cD0, scs, St.upd, St.put, St.ev, St.keep, gt, go, tmOf, ofD, dOk, cV, cV0, renM, Value.oneCell', keepL, freshL, vaOL, outB, wkTm, subL, ninL, injL, nm, resW, resL, resV, shift, ren, ren2, ren1, renO, va, va2, va1, vaO, inDom, stA, Int.reduceEq, ↓reduceIte, reduceCtorEq, Nat.reduceEqDiff, Nat.reduceLT, Nat.reduceLeDiff, Nat.reduceAdd, Nat.reduceSub, Nat.reduceMul, Int.reduceToNat, Int.reduceLE, Int.reduceLT, CP, Sp_overdubkeep_Cut_byte, Sp_overdublaw15_small, Sp_cells_Pack, Sp_overdubref14_PackCell, Sp_overdubkeep_Same_byte, Sp_overdubkeep_Copy_byte, Sp_overdubkeep_Within, Sp_overdubref01_Summed, Sp_cells_Unpack, Sp_overdubref14_UnpackCell, Sp_overdubkeep_Cell, Sp_overdublaw15_wakes, x_ar27, x_bt3, x_bt4, x_bt5, x_el27, x_fo29_4, x_pt3, x_pt4, x_pt5, x_slt27, x_tk27, x_tk29, x_tk5, x_zc29, bxC, stC, hdy, hdt, n140, hby, hbt, hp, hc', cel_nil, celFail, celYes, hddt, nil_B, mB_inj]
                            (try ((repeat' first | (refine And.intro ?_ ?_) | (intro hc; first | cases hc | ((try rw [hc]); (try simp only [stH] at hc); (try (exfalso; omega)))))
                                  all_goals first | (refine hK _ _ ?_; clear hK K; simp only [St.upd, St.put, List.nil_append, List.cons_append, List.singleton_append, List.append_nil]) | exact hK | omega))))
      (refine Ends.of (nm []) (by first | exact .inl rfl | exact .inr rfl) ?_; simp (disch := omega) only [awl, ev1, evk, evc, gv, e_move, e_pick, e_bin, binW, e_un, e_cnv, e_conv, e_str, e_mark, e_copy, e_extract, e_len, e_mm, e_nil, e_index, e_field, e_load, e_fld, e_cut, e_alloc, e_box, e_make, e_build, e_lit, e_store, e_app, e_call, e_callF, idsA, killL, so, args, pus, pu, pu1, toDL, toD, toD1, toDs, elems, idsW, idsV, lenV, oint, cutOk, ldV, subD, newD, fillV, cellsV, one1, one0, zD, cD0, scs, St.upd, St.put, St.ev, St.keep, gt, go, tmOf, ofD, dOk, cV, cV0, renM, Value.oneCell', keepL, freshL, vaOL, outB, wkTm, subL, ninL, injL, nm, resW, resL, resV, shift, ren, ren2, ren1, renO, va, va2, va1, vaO, inDom, stA, Int.reduceEq, ↓reduceIte, reduceCtorEq, Nat.reduceEqDiff, Nat.reduceLT, Nat.reduceLeDiff, Nat.reduceAdd, Nat.reduceSub, Nat.reduceMul, Int.reduceToNat, Int.reduceLE, Int.reduceLT, CP, Sp_overdubkeep_Cut_byte, Sp_overdublaw15_small, Sp_cells_Pack, Sp_overdubref14_PackCell, Sp_overdubkeep_Same_byte, Sp_overdubkeep_Copy_byte, Sp_overdubkeep_Within, Sp_overdubref01_Summed, Sp_cells_Unpack, Sp_overdubref14_UnpackCell, Sp_overdubkeep_Cell, Sp_overdublaw15_wakes, x_ar27, x_bt3, x_bt4, x_bt5, x_el27, x_fo29_4, x_pt3, x_pt4, x_pt5, x_slt27, x_tk27, x_tk29, x_tk5, x_zc29])
  obtain ⟨P, eP⟩ : ∃ P, celP lf nu pt ps dt = P := ⟨_, rfl⟩
  have hp : packCOut lf nu pt ps dt = ⟨.tup [.sl 0 1 0 128 true, .d (.v (.bool true))], [(0, .row 5 1 (P.map mB))]⟩ := by rw [packCOut, if_pos hm, eP]
  have hq : celOut P = celYes lf nu pt ps dt := eP ▸ cel_back hm
  have hPb : Byt P := eP ▸ celP_byt hdb
  have hPl : P.length = 128 := eP ▸ celP_len _ _ _ _ _
  have hPy : Byt P = True := eq_true hPb
  have hPt : (P.map mB).take 128 = P.map mB := List.take_of_length_le (by rw [List.length_map, hPl]; omega)
  clear hm eP
  by_cases h3 : at'.tmod 3 = 0
  · have d3 : decide (at'.tmod 3 = 0) = true := decide_eq_true h3
    have d3' : decide (¬ at'.tmod 3 = 0) = false := decide_eq_false (fun h => h h3)
    clear h3
    rcases cel_form (b.take 140) with hc' | ⟨p, q, r, s, dd, hdd, hc'⟩
    · repeat' first
                    | (refine AW.seq ?_)
                    | (refine AW.block ?_)
                    | (refine AW.regl CP_ok [0, 1, 2, 3, 4, 5, 6, 12, 13, 14, 15, 16, 17, 18, 19, 20, 21, 22, 27, 48, 56, 69] ?_)
                    | (refine then_n ?_)
                    | (refine then_r ?_)
                    | (refine then_x ?_)
                    | (refine block_x ?_)
                    | (refine block_o (by decide) ?_)
                    | (refine block_n ?_)
                    | (refine block_r ?_)
                    | (refine AW.skip ?_)
                    | (refine AW.ret ?_)
                    | (refine AW.exit ?_)
                    | (refine AW.cond rfl ?_ ?_ <;> (intro hc; first | cases hc | ((try rw [hc]); (try simp only [stH] at hc); (try (exfalso; omega)))))
                    | ((first
                          | (refine awl_none rfl fun K hK => ?_)
                          | (refine awl_nil ?_)
                          | (refine awl_some rfl rfl (Nat.le_of_ble_eq_true rfl) rfl rfl ?_ ?_ <;> (intro hc; first | cases hc | ((try rw [hc]); (try simp only [stH] at hc); (try (exfalso; omega)))) <;> (try intro K hK))
                          | (refine awl_skip rfl rfl (Nat.le_of_ble_eq_true rfl) rfl rfl ?_))
                       all_goals first
                         | (show Awl _ _ _ _ _; simp only [St.upd, St.put, List.nil_append, List.cons_append, List.singleton_append, List.append_nil])
                         | (simp (disch := omega) only [awl, ev1, evk, evc, gv, e_move, e_pick, e_bin, binW, e_un, e_cnv, e_conv, e_str, e_mark, e_copy, e_extract, e_len, e_mm, e_nil, e_index, e_field, e_load, e_fld, e_cut, e_alloc, e_box, e_make, e_build, e_lit, e_store, e_app, e_call, e_callF, idsA, killL, so, args, pus, pu, pu1, toDL, toD, toD1, toDs, elems, idsW, idsV, lenV, oint, cutOk, ldV, subD, newD, fillV, cellsV, one1, one0, zD, cD0, scs, St.upd, St.put, St.ev, St.keep, gt, go, tmOf, ofD, dOk, cV, cV0, renM, Value.oneCell', keepL, freshL, vaOL, outB, wkTm, subL, ninL, injL, nm, resW, resL, resV, shift, ren, ren2, ren1, renO, va, va2, va1, vaO, inDom, stA, Int.reduceEq, ↓reduceIte, reduceCtorEq, Nat.reduceEqDiff, Nat.reduceLT, Nat.reduceLeDiff, Nat.reduceAdd, Nat.reduceSub, Nat.reduceMul, Int.reduceToNat, Int.reduceLE, Int.reduceLT, CP, Sp_overdubkeep_Cut_byte, Sp_overdublaw15_small, Sp_cells_Pack, Sp_overdubref14_PackCell, Sp_overdubkeep_Same_byte, Sp_overdubkeep_Copy_byte, Sp_overdubkeep_Within, Sp_overdubref01_Summed, Sp_cells_Unpack, Sp_overdubref14_UnpackCell, Sp_overdubkeep_Cell, Sp_overdublaw15_wakes, x_ar27, x_bt3, x_bt4, x_bt5, x_el27, x_fo29_4, x_pt3, x_pt4, x_pt5, x_slt27, x_tk27, x_tk29, x_tk5, x_zc29, bxC, stC, hdy, hdt, n140, hby, hbt, hp, hq, hPl, hPy, hPt, d3, d3', hc', celFail, celYes, nil_B, mB_inj]
                            (try ((repeat' first | (refine And.intro ?_ ?_) | (intro hc; first | cases hc | ((try rw [hc]); (try simp only [stH] at hc); (try (exfalso; omega)))))
                                  all_goals first | (refine hK _ _ ?_; clear hK K; simp only [St.upd, St.put, List.nil_append, List.cons_append, List.singleton_append, List.append_nil]) | exact hK | omega))))
      (refine Ends.of (nm []) (by first | exact .inl rfl | exact .inr rfl) ?_; simp (disch := omega) only [awl, ev1, evk, evc, gv, e_move, e_pick, e_bin, binW, e_un, e_cnv, e_conv, e_str, e_mark, e_copy, e_extract, e_len, e_mm, e_nil, e_index, e_field, e_load, e_fld, e_cut, e_alloc, e_box, e_make, e_build, e_lit, e_store, e_app, e_call, e_callF, idsA, killL, so, args, pus, pu, pu1, toDL, toD, toD1, toDs, elems, idsW, idsV, lenV, oint, cutOk, ldV, subD, newD, fillV, cellsV, one1, one0, zD, cD0, scs, St.upd, St.put, St.ev, St.keep, gt, go, tmOf, ofD, dOk, cV, cV0, renM, Value.oneCell', keepL, freshL, vaOL, outB, wkTm, subL, ninL, injL, nm, resW, resL, resV, shift, ren, ren2, ren1, renO, va, va2, va1, vaO, inDom, stA, Int.reduceEq, ↓reduceIte, reduceCtorEq, Nat.reduceEqDiff, Nat.reduceLT, Nat.reduceLeDiff, Nat.reduceAdd, Nat.reduceSub, Nat.reduceMul, Int.reduceToNat, Int.reduceLE, Int.reduceLT, CP, Sp_overdubkeep_Cut_byte, Sp_overdublaw15_small, Sp_cells_Pack, Sp_overdubref14_PackCell, Sp_overdubkeep_Same_byte, Sp_overdubkeep_Copy_byte, Sp_overdubkeep_Within, Sp_overdubref01_Summed, Sp_cells_Unpack, Sp_overdubref14_UnpackCell, Sp_overdubkeep_Cell, Sp_overdublaw15_wakes, x_ar27, x_bt3, x_bt4, x_bt5, x_el27, x_fo29_4, x_pt3, x_pt4, x_pt5, x_slt27, x_tk27, x_tk29, x_tk5, x_zc29])
    · have hddt : (dd.map mB).take dd.length = dd.map mB := List.take_of_length_le (by simp)
      repeat' first
                    | (refine AW.seq ?_)
                    | (refine AW.block ?_)
                    | (refine AW.regl CP_ok [0, 1, 2, 3, 4, 5, 6, 12, 13, 14, 15, 16, 17, 18, 19, 20, 21, 22, 27, 48, 56, 69] ?_)
                    | (refine then_n ?_)
                    | (refine then_r ?_)
                    | (refine then_x ?_)
                    | (refine block_x ?_)
                    | (refine block_o (by decide) ?_)
                    | (refine block_n ?_)
                    | (refine block_r ?_)
                    | (refine AW.skip ?_)
                    | (refine AW.ret ?_)
                    | (refine AW.exit ?_)
                    | (refine AW.cond rfl ?_ ?_ <;> (intro hc; first | cases hc | ((try rw [hc]); (try simp only [stH] at hc); (try (exfalso; omega)))))
                    | ((first
                          | (refine awl_none rfl fun K hK => ?_)
                          | (refine awl_nil ?_)
                          | (refine awl_some rfl rfl (Nat.le_of_ble_eq_true rfl) rfl rfl ?_ ?_ <;> (intro hc; first | cases hc | ((try rw [hc]); (try simp only [stH] at hc); (try (exfalso; omega)))) <;> (try intro K hK))
                          | (refine awl_skip rfl rfl (Nat.le_of_ble_eq_true rfl) rfl rfl ?_))
                       all_goals first
                         | (show Awl _ _ _ _ _; simp only [St.upd, St.put, List.nil_append, List.cons_append, List.singleton_append, List.append_nil])
                         | (simp (disch := omega) only [awl, ev1, evk, evc, gv, e_move, e_pick, e_bin, binW, e_un, e_cnv, e_conv, e_str, e_mark, e_copy, e_extract, e_len, e_mm, e_nil, e_index, e_field, e_load, e_fld, e_cut, e_alloc, e_box, e_make, e_build, e_lit, e_store, e_app, e_call, e_callF, idsA, killL, so, args, pus, pu, pu1, toDL, toD, toD1, toDs, elems, idsW, idsV, lenV, oint, cutOk, ldV, subD, newD, fillV, cellsV, one1, one0, zD, cD0, scs, St.upd, St.put, St.ev, St.keep, gt, go, tmOf, ofD, dOk, cV, cV0, renM, Value.oneCell', keepL, freshL, vaOL, outB, wkTm, subL, ninL, injL, nm, resW, resL, resV, shift, ren, ren2, ren1, renO, va, va2, va1, vaO, inDom, stA, Int.reduceEq, ↓reduceIte, reduceCtorEq, Nat.reduceEqDiff, Nat.reduceLT, Nat.reduceLeDiff, Nat.reduceAdd, Nat.reduceSub, Nat.reduceMul, Int.reduceToNat, Int.reduceLE, Int.reduceLT, CP, Sp_overdubkeep_Cut_byte, Sp_overdublaw15_small, Sp_cells_Pack, Sp_overdubref14_PackCell, Sp_overdubkeep_Same_byte, Sp_overdubkeep_Copy_byte, Sp_overdubkeep_Within, Sp_overdubref01_Summed, Sp_cells_Unpack, Sp_overdubref14_UnpackCell, Sp_overdubkeep_Cell, Sp_overdublaw15_wakes, x_ar27, x_bt3, x_bt4, x_bt5, x_el27, x_fo29_4, x_pt3, x_pt4, x_pt5, x_slt27, x_tk27, x_tk29, x_tk5, x_zc29, bxC, stC, hdy, hdt, n140, hby, hbt, hp, hq, hPl, hPy, hPt, d3, d3', hc', celFail, celYes, hddt, mB_inj]
                            (try ((repeat' first | (refine And.intro ?_ ?_) | (intro hc; first | cases hc | ((try rw [hc]); (try simp only [stH] at hc); (try (exfalso; omega)))))
                                  all_goals first | (refine hK _ _ ?_; clear hK K; simp only [St.upd, St.put, List.nil_append, List.cons_append, List.singleton_append, List.append_nil]) | exact hK | omega))))
      (refine Ends.of (nm []) (by first | exact .inl rfl | exact .inr rfl) ?_; simp (disch := omega) only [awl, ev1, evk, evc, gv, e_move, e_pick, e_bin, binW, e_un, e_cnv, e_conv, e_str, e_mark, e_copy, e_extract, e_len, e_mm, e_nil, e_index, e_field, e_load, e_fld, e_cut, e_alloc, e_box, e_make, e_build, e_lit, e_store, e_app, e_call, e_callF, idsA, killL, so, args, pus, pu, pu1, toDL, toD, toD1, toDs, elems, idsW, idsV, lenV, oint, cutOk, ldV, subD, newD, fillV, cellsV, one1, one0, zD, cD0, scs, St.upd, St.put, St.ev, St.keep, gt, go, tmOf, ofD, dOk, cV, cV0, renM, Value.oneCell', keepL, freshL, vaOL, outB, wkTm, subL, ninL, injL, nm, resW, resL, resV, shift, ren, ren2, ren1, renO, va, va2, va1, vaO, inDom, stA, Int.reduceEq, ↓reduceIte, reduceCtorEq, Nat.reduceEqDiff, Nat.reduceLT, Nat.reduceLeDiff, Nat.reduceAdd, Nat.reduceSub, Nat.reduceMul, Int.reduceToNat, Int.reduceLE, Int.reduceLT, CP, Sp_overdubkeep_Cut_byte, Sp_overdublaw15_small, Sp_cells_Pack, Sp_overdubref14_PackCell, Sp_overdubkeep_Same_byte, Sp_overdubkeep_Copy_byte, Sp_overdubkeep_Within, Sp_overdubref01_Summed, Sp_cells_Unpack, Sp_overdubref14_UnpackCell, Sp_overdubkeep_Cell, Sp_overdublaw15_wakes, x_ar27, x_bt3, x_bt4, x_bt5, x_el27, x_fo29_4, x_pt3, x_pt4, x_pt5, x_slt27, x_tk27, x_tk29, x_tk5, x_zc29])
  have d3 : decide (at'.tmod 3 = 0) = false := decide_eq_false h3
  have d3' : decide (¬ at'.tmod 3 = 0) = true := decide_eq_true h3
  clear h3
  refine AW.mx5 (stY ⟨lf, nu, pt, ps, dt⟩ P) (fun Y => Byt Y ∧ Y.length = 128) ?_ ?_
  · have wa := within_rngc (v := at') (n := 128) (by omega)
    obtain ⟨i, hi⟩ : ∃ i : Nat, within at' 128 = i := ⟨(within at' 128).toNat, by omega⟩
    have hi8 : i < 128 := by omega
    have e2 := getD_byt hPb i
    have e6 : nth (P.map mB) i = .v (.int .u8 (P.getD i 0)) := nth_B P i (by omega)
    obtain ⟨y, hy⟩ : ∃ y, Go.bits .xor .u8 (P.getD i 0) x = y := ⟨_, rfl⟩
    have hyr : 0 ≤ y ∧ y < 256 := hy ▸ QC.xor8_rng _ _
    have hst : (P.map mB).set i (.v (.int .u8 y)) = (P.set i y).map mB := by rw [List.map_set]; rfl
    have hXb : Byt (P.set i y) := fun z hz => by
      rcases List.mem_or_eq_of_mem_set hz with h | rfl
      · exact hPb z h
      · exact hyr
    have hXl : (P.set i y).length = 128 := by rw [List.length_set, hPl]
    clear wa
    cases sm
    · repeat' first
                    | (refine AW.seq ?_)
                    | (refine AW.block ?_)
                    | (refine AW.regl CP_ok [0, 1, 2, 3, 4, 5, 6, 12, 13, 14, 15, 16, 17, 18, 19, 20, 21, 22, 27, 48, 56, 69] ?_)
                    | (refine then_n ?_)
                    | (refine then_r ?_)
                    | (refine then_x ?_)
                    | (refine block_x ?_)
                    | (refine block_o (by decide) ?_)
                    | (refine block_n ?_)
                    | (refine block_r ?_)
                    | (refine AW.skip ?_)
                    | (refine AW.ret ?_)
                    | (refine AW.exit ?_)
                    | (refine AW.cond rfl ?_ ?_ <;> (intro hc; first | cases hc | ((try rw [hc]); (try simp only [stH] at hc); (try (exfalso; omega)))))
                    | ((first
                          | (refine awl_none rfl fun K hK => ?_)
                          | (refine awl_nil ?_)
                          | (refine awl_some rfl rfl (Nat.le_of_ble_eq_true rfl) rfl rfl ?_ ?_ <;> (intro hc; first | cases hc | ((try rw [hc]); (try simp only [stH] at hc); (try (exfalso; omega)))) <;> (try intro K hK))
                          | (refine awl_skip rfl rfl (Nat.le_of_ble_eq_true rfl) rfl rfl ?_))
                       all_goals first
                         | (show Awl _ _ _ _ _; simp only [St.upd, St.put, List.nil_append, List.cons_append, List.singleton_append, List.append_nil])
                         | (simp (disch := omega) only [awl, ev1, evk, evc, gv, e_move, e_pick, e_bin, binW, e_un, e_cnv, e_conv, e_str, e_mark, e_copy, e_extract, e_len, e_mm, e_nil, e_index, e_field, e_load, e_fld, e_cut, e_alloc, e_box, e_make, e_build, e_lit, e_store, e_app, e_call, e_callF, idsA, killL, so, args, pus, pu, pu1, toDL, toD, toD1, toDs, elems, idsW, idsV, lenV, oint, cutOk, ldV, subD, newD, fillV, cellsV, one1, one0, zD, cD0, scs, St.upd, St.put, St.ev, St.keep, gt, go, tmOf, ofD, dOk, cV, cV0, renM, Value.oneCell', keepL, freshL, vaOL, outB, wkTm, subL, ninL, injL, nm, resW, resL, resV, shift, ren, ren2, ren1, renO, va, va2, va1, vaO, inDom, stA, Int.reduceEq, ↓reduceIte, reduceCtorEq, Nat.reduceEqDiff, Nat.reduceLT, Nat.reduceLeDiff, Nat.reduceAdd, Nat.reduceSub, Nat.reduceMul, Int.reduceToNat, Int.reduceLE, Int.reduceLT, CP, Sp_overdubkeep_Cut_byte, Sp_overdublaw15_small, Sp_cells_Pack, Sp_overdubref14_PackCell, Sp_overdubkeep_Same_byte, Sp_overdubkeep_Copy_byte, Sp_overdubkeep_Within, Sp_overdubref01_Summed, Sp_cells_Unpack, Sp_overdubref14_UnpackCell, Sp_overdubkeep_Cell, Sp_overdublaw15_wakes, x_ar27, x_bt3, x_bt4, x_bt5, x_el27, x_fo29_4, x_pt3, x_pt4, x_pt5, x_slt27, x_tk27, x_tk29, x_tk5, x_zc29, bxC, stC, hdy, hdt, n140, hp, hPl, hPy, hPt, d3, d3', hi, e6, hy, hst, mB_inj]
                            (try ((repeat' first | (refine And.intro ?_ ?_) | (intro hc; first | cases hc | ((try rw [hc]); (try simp only [stH] at hc); (try (exfalso; omega)))))
                                  all_goals first | (refine hK _ _ ?_; clear hK K; simp only [St.upd, St.put, List.nil_append, List.cons_append, List.singleton_append, List.append_nil]) | exact hK | omega))))
      refine ⟨P.set i y, ⟨hXb, hXl⟩, nm [(900, 58)], Wk.of ?_⟩
      simp (disch := omega) only [awl, ev1, evk, evc, gv, e_move, e_pick, e_bin, binW, e_un, e_cnv, e_conv, e_str, e_mark, e_copy, e_extract, e_len, e_mm, e_nil, e_index, e_field, e_load, e_fld, e_cut, e_alloc, e_box, e_make, e_build, e_lit, e_store, e_app, e_call, e_callF, idsA, killL, so, args, pus, pu, pu1, toDL, toD, toD1, toDs, elems, idsW, idsV, lenV, oint, cutOk, ldV, subD, newD, fillV, cellsV, one1, one0, zD, cD0, scs, St.upd, St.put, St.ev, St.keep, gt, go, tmOf, ofD, dOk, cV, cV0, renM, Value.oneCell', keepL, freshL, vaOL, outB, wkTm, subL, ninL, injL, nm, resW, resL, resV, shift, ren, ren2, ren1, renO, va, va2, va1, vaO, inDom, stA, Int.reduceEq, ↓reduceIte, reduceCtorEq, Nat.reduceEqDiff, Nat.reduceLT, Nat.reduceLeDiff, Nat.reduceAdd, Nat.reduceSub, Nat.reduceMul, Int.reduceToNat, Int.reduceLE, Int.reduceLT, CP, Sp_overdubkeep_Cut_byte, Sp_overdublaw15_small, Sp_cells_Pack, Sp_overdubref14_PackCell, Sp_overdubkeep_Same_byte, Sp_overdubkeep_Copy_byte, Sp_overdubkeep_Within, Sp_overdubref01_Summed, Sp_cells_Unpack, Sp_overdubref14_UnpackCell, Sp_overdubkeep_Cell, Sp_overdublaw15_wakes, x_ar27, x_bt3, x_bt4, x_bt5, x_el27, x_fo29_4, x_pt3, x_pt4, x_pt5, x_slt27, x_tk27, x_tk29, x_tk5, x_zc29, bxC, stY]
    · have hXm : ((P.set i y).map mB).take 124 = ((P.set i y).take 124).map mB := List.map_take.symm
      have hXk : ((P.set i y).take 124).length = 124 := by rw [List.length_take]; omega
      have hXy : Byt ((P.set i y).take 124) = True := eq_true (byt_take hXb _)
      have hsu := sumd_resC (P.set i y)
      have hrl := rsmC_len (b := P.set i y) (by omega)
      repeat' first
                    | (refine AW.seq ?_)
                    | (refine AW.block ?_)
                    | (refine AW.regl CP_ok [0, 1, 2, 3, 4, 5, 6, 12, 13, 14, 15, 16, 17, 18, 19, 20, 21, 22, 27, 48, 56, 69] ?_)
                    | (refine then_n ?_)
                    | (refine then_r ?_)
                    | (refine then_x ?_)
                    | (refine block_x ?_)
                    | (refine block_o (by decide) ?_)
                    | (refine block_n ?_)
                    | (refine block_r ?_)
                    | (refine AW.skip ?_)
                    | (refine AW.ret ?_)
                    | (refine AW.exit ?_)
                    | (refine AW.cond rfl ?_ ?_ <;> (intro hc; first | cases hc | ((try rw [hc]); (try simp only [stH] at hc); (try (exfalso; omega)))))
                    | ((first
                          | (refine awl_none rfl fun K hK => ?_)
                          | (refine awl_nil ?_)
                          | (refine awl_some rfl rfl (Nat.le_of_ble_eq_true rfl) rfl rfl ?_ ?_ <;> (intro hc; first | cases hc | ((try rw [hc]); (try simp only [stH] at hc); (try (exfalso; omega)))) <;> (try intro K hK))
                          | (refine awl_skip rfl rfl (Nat.le_of_ble_eq_true rfl) rfl rfl ?_))
                       all_goals first
                         | (show Awl _ _ _ _ _; simp only [St.upd, St.put, List.nil_append, List.cons_append, List.singleton_append, List.append_nil])
                         | (simp (disch := omega) only [awl, ev1, evk, evc, gv, e_move, e_pick, e_bin, binW, e_un, e_cnv, e_conv, e_str, e_mark, e_copy, e_extract, e_len, e_mm, e_nil, e_index, e_field, e_load, e_fld, e_cut, e_alloc, e_box, e_make, e_build, e_lit, e_store, e_app, e_call, e_callF, idsA, killL, so, args, pus, pu, pu1, toDL, toD, toD1, toDs, elems, idsW, idsV, lenV, oint, cutOk, ldV, subD, newD, fillV, cellsV, one1, one0, zD, cD0, scs, St.upd, St.put, St.ev, St.keep, gt, go, tmOf, ofD, dOk, cV, cV0, renM, Value.oneCell', keepL, freshL, vaOL, outB, wkTm, subL, ninL, injL, nm, resW, resL, resV, shift, ren, ren2, ren1, renO, va, va2, va1, vaO, inDom, stA, Int.reduceEq, ↓reduceIte, reduceCtorEq, Nat.reduceEqDiff, Nat.reduceLT, Nat.reduceLeDiff, Nat.reduceAdd, Nat.reduceSub, Nat.reduceMul, Int.reduceToNat, Int.reduceLE, Int.reduceLT, CP, Sp_overdubkeep_Cut_byte, Sp_overdublaw15_small, Sp_cells_Pack, Sp_overdubref14_PackCell, Sp_overdubkeep_Same_byte, Sp_overdubkeep_Copy_byte, Sp_overdubkeep_Within, Sp_overdubref01_Summed, Sp_cells_Unpack, Sp_overdubref14_UnpackCell, Sp_overdubkeep_Cell, Sp_overdublaw15_wakes, x_ar27, x_bt3, x_bt4, x_bt5, x_el27, x_fo29_4, x_pt3, x_pt4, x_pt5, x_slt27, x_tk27, x_tk29, x_tk5, x_zc29, bxC, stC, hdy, hdt, n140, hp, hPl, hPy, hPt, d3, d3', hi, e6, hy, hst, hXl, hXm, hXk, hXy, hsu, hrl, mB_inj]
                            (try ((repeat' first | (refine And.intro ?_ ?_) | (intro hc; first | cases hc | ((try rw [hc]); (try simp only [stH] at hc); (try (exfalso; omega)))))
                                  all_goals first | (refine hK _ _ ?_; clear hK K; simp only [St.upd, St.put, List.nil_append, List.cons_append, List.singleton_append, List.append_nil]) | exact hK | omega))))
      refine ⟨rsmC (P.set i y), ⟨rsmC_byt hXb, hrl⟩, nm [(900, 72)], Wk.of ?_⟩
      simp (disch := omega) only [awl, ev1, evk, evc, gv, e_move, e_pick, e_bin, binW, e_un, e_cnv, e_conv, e_str, e_mark, e_copy, e_extract, e_len, e_mm, e_nil, e_index, e_field, e_load, e_fld, e_cut, e_alloc, e_box, e_make, e_build, e_lit, e_store, e_app, e_call, e_callF, idsA, killL, so, args, pus, pu, pu1, toDL, toD, toD1, toDs, elems, idsW, idsV, lenV, oint, cutOk, ldV, subD, newD, fillV, cellsV, one1, one0, zD, cD0, scs, St.upd, St.put, St.ev, St.keep, gt, go, tmOf, ofD, dOk, cV, cV0, renM, Value.oneCell', keepL, freshL, vaOL, outB, wkTm, subL, ninL, injL, nm, resW, resL, resV, shift, ren, ren2, ren1, renO, va, va2, va1, vaO, inDom, stA, Int.reduceEq, ↓reduceIte, reduceCtorEq, Nat.reduceEqDiff, Nat.reduceLT, Nat.reduceLeDiff, Nat.reduceAdd, Nat.reduceSub, Nat.reduceMul, Int.reduceToNat, Int.reduceLE, Int.reduceLT, CP, Sp_overdubkeep_Cut_byte, Sp_overdublaw15_small, Sp_cells_Pack, Sp_overdubref14_PackCell, Sp_overdubkeep_Same_byte, Sp_overdubkeep_Copy_byte, Sp_overdubkeep_Within, Sp_overdubref01_Summed, Sp_cells_Unpack, Sp_overdubref14_UnpackCell, Sp_overdubkeep_Cell, Sp_overdublaw15_wakes, x_ar27, x_bt3, x_bt4, x_bt5, x_el27, x_fo29_4, x_pt3, x_pt4, x_pt5, x_slt27, x_tk27, x_tk29, x_tk5, x_zc29, bxC, stY]
  · rintro Y ⟨hYb, hYl⟩
    have hYy : Byt Y = True := eq_true hYb
    have hYt : (Y.map mB).take 128 = Y.map mB := List.take_of_length_le (by rw [List.length_map, hYl]; omega)
    clear d3 d3' hp
    rcases cel_form Y with hc' | ⟨p, q, r, s, dd, hdd, hc'⟩
    · repeat' first
                    | (refine AW.seq ?_)
                    | (refine AW.block ?_)
                    | (refine AW.regl CP_ok [0, 1, 2, 3, 4, 5, 6, 12, 13, 14, 15, 16, 17, 18, 19, 20, 21, 22, 27, 48, 56, 69] ?_)
                    | (refine then_n ?_)
                    | (refine then_r ?_)
                    | (refine then_x ?_)
                    | (refine block_x ?_)
                    | (refine block_o (by decide) ?_)
                    | (refine block_n ?_)
                    | (refine block_r ?_)
                    | (refine AW.skip ?_)
                    | (refine AW.ret ?_)
                    | (refine AW.exit ?_)
                    | (refine AW.cond rfl ?_ ?_ <;> (intro hc; first | cases hc | ((try rw [hc]); (try simp only [stH] at hc); (try (exfalso; omega)))))
                    | ((first
                          | (refine awl_none rfl fun K hK => ?_)
                          | (refine awl_nil ?_)
                          | (refine awl_some rfl rfl (Nat.le_of_ble_eq_true rfl) rfl rfl ?_ ?_ <;> (intro hc; first | cases hc | ((try rw [hc]); (try simp only [stH] at hc); (try (exfalso; omega)))) <;> (try intro K hK))
                          | (refine awl_skip rfl rfl (Nat.le_of_ble_eq_true rfl) rfl rfl ?_))
                       all_goals first
                         | (show Awl _ _ _ _ _; simp only [St.upd, St.put, List.nil_append, List.cons_append, List.singleton_append, List.append_nil])
                         | (simp (disch := omega) only [awl, ev1, evk, evc, gv, e_move, e_pick, e_bin, binW, e_un, e_cnv, e_conv, e_str, e_mark, e_copy, e_extract, e_len, e_mm, e_nil, e_index, e_field, e_load, e_fld, e_cut, e_alloc, e_box, e_make, e_build, e_lit, e_store, e_app, e_call, e_callF, idsA, killL, so, args, pus, pu, pu1, toDL, toD, toD1, toDs, elems, idsW, idsV, lenV, oint, cutOk, ldV, subD, newD, fillV, cellsV, one1, one0, zD, cD0, scs, St.upd, St.put, St.ev, St.keep, gt, go, tmOf, ofD, dOk, cV, cV0, renM, Value.oneCell', keepL, freshL, vaOL, outB, wkTm, subL, ninL, injL, nm, resW, resL, resV, shift, ren, ren2, ren1, renO, va, va2, va1, vaO, inDom, stA, Int.reduceEq, ↓reduceIte, reduceCtorEq, Nat.reduceEqDiff, Nat.reduceLT, Nat.reduceLeDiff, Nat.reduceAdd, Nat.reduceSub, Nat.reduceMul, Int.reduceToNat, Int.reduceLE, Int.reduceLT, CP, Sp_overdubkeep_Cut_byte, Sp_overdublaw15_small, Sp_cells_Pack, Sp_overdubref14_PackCell, Sp_overdubkeep_Same_byte, Sp_overdubkeep_Copy_byte, Sp_overdubkeep_Within, Sp_overdubref01_Summed, Sp_cells_Unpack, Sp_overdubref14_UnpackCell, Sp_overdubkeep_Cell, Sp_overdublaw15_wakes, x_ar27, x_bt3, x_bt4, x_bt5, x_el27, x_fo29_4, x_pt3, x_pt4, x_pt5, x_slt27, x_tk27, x_tk29, x_tk5, x_zc29, bxC, stY, hdy, hdt, hq, hPl, hPy, hPt, hYl, hYy, hYt, hc', celFail, celYes, nil_B, mB_inj]
                            (try ((repeat' first | (refine And.intro ?_ ?_) | (intro hc; first | cases hc | ((try rw [hc]); (try simp only [stH] at hc); (try (exfalso; omega)))))
                                  all_goals first | (refine hK _ _ ?_; clear hK K; simp only [St.upd, St.put, List.nil_append, List.cons_append, List.singleton_append, List.append_nil]) | exact hK | omega))))
      (refine Ends.of (nm []) (by first | exact .inl rfl | exact .inr rfl) ?_; simp (disch := omega) only [awl, ev1, evk, evc, gv, e_move, e_pick, e_bin, binW, e_un, e_cnv, e_conv, e_str, e_mark, e_copy, e_extract, e_len, e_mm, e_nil, e_index, e_field, e_load, e_fld, e_cut, e_alloc, e_box, e_make, e_build, e_lit, e_store, e_app, e_call, e_callF, idsA, killL, so, args, pus, pu, pu1, toDL, toD, toD1, toDs, elems, idsW, idsV, lenV, oint, cutOk, ldV, subD, newD, fillV, cellsV, one1, one0, zD, cD0, scs, St.upd, St.put, St.ev, St.keep, gt, go, tmOf, ofD, dOk, cV, cV0, renM, Value.oneCell', keepL, freshL, vaOL, outB, wkTm, subL, ninL, injL, nm, resW, resL, resV, shift, ren, ren2, ren1, renO, va, va2, va1, vaO, inDom, stA, Int.reduceEq, ↓reduceIte, reduceCtorEq, Nat.reduceEqDiff, Nat.reduceLT, Nat.reduceLeDiff, Nat.reduceAdd, Nat.reduceSub, Nat.reduceMul, Int.reduceToNat, Int.reduceLE, Int.reduceLT, CP, Sp_overdubkeep_Cut_byte, Sp_overdublaw15_small, Sp_cells_Pack, Sp_overdubref14_PackCell, Sp_overdubkeep_Same_byte, Sp_overdubkeep_Copy_byte, Sp_overdubkeep_Within, Sp_overdubref01_Summed, Sp_cells_Unpack, Sp_overdubref14_UnpackCell, Sp_overdubkeep_Cell, Sp_overdublaw15_wakes, x_ar27, x_bt3, x_bt4, x_bt5, x_el27, x_fo29_4, x_pt3, x_pt4, x_pt5, x_slt27, x_tk27, x_tk29, x_tk5, x_zc29])
    · have hddt : (dd.map mB).take dd.length = dd.map mB := List.take_of_length_le (by simp)
      repeat' first
                    | (refine AW.seq ?_)
                    | (refine AW.block ?_)
                    | (refine AW.regl CP_ok [0, 1, 2, 3, 4, 5, 6, 12, 13, 14, 15, 16, 17, 18, 19, 20, 21, 22, 27, 48, 56, 69] ?_)
                    | (refine then_n ?_)
                    | (refine then_r ?_)
                    | (refine then_x ?_)
                    | (refine block_x ?_)
                    | (refine block_o (by decide) ?_)
                    | (refine block_n ?_)
                    | (refine block_r ?_)
                    | (refine AW.skip ?_)
                    | (refine AW.ret ?_)
                    | (refine AW.exit ?_)
                    | (refine AW.cond rfl ?_ ?_ <;> (intro hc; first | cases hc | ((try rw [hc]); (try simp only [stH] at hc); (try (exfalso; omega)))))
                    | ((first
                          | (refine awl_none rfl fun K hK => ?_)
                          | (refine awl_nil ?_)
                          | (refine awl_some rfl rfl (Nat.le_of_ble_eq_true rfl) rfl rfl ?_ ?_ <;> (intro hc; first | cases hc | ((try rw [hc]); (try simp only [stH] at hc); (try (exfalso; omega)))) <;> (try intro K hK))
                          | (refine awl_skip rfl rfl (Nat.le_of_ble_eq_true rfl) rfl rfl ?_))
                       all_goals first
                         | (show Awl _ _ _ _ _; simp only [St.upd, St.put, List.nil_append, List.cons_append, List.singleton_append, List.append_nil])
                         | (simp (disch := omega) only [awl, ev1, evk, evc, gv, e_move, e_pick, e_bin, binW, e_un, e_cnv, e_conv, e_str, e_mark, e_copy, e_extract, e_len, e_mm, e_nil, e_index, e_field, e_load, e_fld, e_cut, e_alloc, e_box, e_make, e_build, e_lit, e_store, e_app, e_call, e_callF, idsA, killL, so, args, pus, pu, pu1, toDL, toD, toD1, toDs, elems, idsW, idsV, lenV, oint, cutOk, ldV, subD, newD, fillV, cellsV, one1, one0, zD, cD0, scs, St.upd, St.put, St.ev, St.keep, gt, go, tmOf, ofD, dOk, cV, cV0, renM, Value.oneCell', keepL, freshL, vaOL, outB, wkTm, subL, ninL, injL, nm, resW, resL, resV, shift, ren, ren2, ren1, renO, va, va2, va1, vaO, inDom, stA, Int.reduceEq, ↓reduceIte, reduceCtorEq, Nat.reduceEqDiff, Nat.reduceLT, Nat.reduceLeDiff, Nat.reduceAdd, Nat.reduceSub, Nat.reduceMul, Int.reduceToNat, Int.reduceLE, Int.reduceLT, CP, Sp_overdubkeep_Cut_byte, Sp_overdublaw15_small, Sp_cells_Pack, Sp_overdubref14_PackCell, Sp_overdubkeep_Same_byte, Sp_overdubkeep_Copy_byte, Sp_overdubkeep_Within, Sp_overdubref01_Summed, Sp_cells_Unpack, Sp_overdubref14_UnpackCell, Sp_overdubkeep_Cell, Sp_overdublaw15_wakes, x_ar27, x_bt3, x_bt4, x_bt5, x_el27, x_fo29_4, x_pt3, x_pt4, x_pt5, x_slt27, x_tk27, x_tk29, x_tk5, x_zc29, bxC, stY, hdy, hdt, hq, hPl, hPy, hPt, hYl, hYy, hYt, hc', celFail, celYes, hddt, mB_inj]
                            (try ((repeat' first | (refine And.intro ?_ ?_) | (intro hc; first | cases hc | ((try rw [hc]); (try simp only [stH] at hc); (try (exfalso; omega)))))
                                  all_goals first | (refine hK _ _ ?_; clear hK K; simp only [St.upd, St.put, List.nil_append, List.cons_append, List.singleton_append, List.append_nil]) | exact hK | omega))))
      (refine Ends.of (nm []) (by first | exact .inl rfl | exact .inr rfl) ?_; simp (disch := omega) only [awl, ev1, evk, evc, gv, e_move, e_pick, e_bin, binW, e_un, e_cnv, e_conv, e_str, e_mark, e_copy, e_extract, e_len, e_mm, e_nil, e_index, e_field, e_load, e_fld, e_cut, e_alloc, e_box, e_make, e_build, e_lit, e_store, e_app, e_call, e_callF, idsA, killL, so, args, pus, pu, pu1, toDL, toD, toD1, toDs, elems, idsW, idsV, lenV, oint, cutOk, ldV, subD, newD, fillV, cellsV, one1, one0, zD, cD0, scs, St.upd, St.put, St.ev, St.keep, gt, go, tmOf, ofD, dOk, cV, cV0, renM, Value.oneCell', keepL, freshL, vaOL, outB, wkTm, subL, ninL, injL, nm, resW, resL, resV, shift, ren, ren2, ren1, renO, va, va2, va1, vaO, inDom, stA, Int.reduceEq, ↓reduceIte, reduceCtorEq, Nat.reduceEqDiff, Nat.reduceLT, Nat.reduceLeDiff, Nat.reduceAdd, Nat.reduceSub, Nat.reduceMul, Int.reduceToNat, Int.reduceLE, Int.reduceLT, CP, Sp_overdubkeep_Cut_byte, Sp_overdublaw15_small, Sp_cells_Pack, Sp_overdubref14_PackCell, Sp_overdubkeep_Same_byte, Sp_overdubkeep_Copy_byte, Sp_overdubkeep_Within, Sp_overdubref01_Summed, Sp_cells_Unpack, Sp_overdubref14_UnpackCell, Sp_overdubkeep_Cell, Sp_overdublaw15_wakes, x_ar27, x_bt3, x_bt4, x_bt5, x_el27, x_fo29_4, x_pt3, x_pt4, x_pt5, x_slt27, x_tk27, x_tk29, x_tk5, x_zc29])
theorem ent_overdublaw15_CellPacks : Ent Try.prog 9 := ⟨_, Try.func9, rfl, by decide⟩
end Go.Proofs.Ytaiaackeljlbfaa.Am
