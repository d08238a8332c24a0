import Derived.Test.YtceoegbljkbgeaaZD3
set_option linter.unusedVariables false
set_option linter.unusedSimpArgs false
set_option maxRecDepth 10000
set_option maxHeartbeats 0
namespace Go.Proofs.Ytceoegbljkbgeaa.Am
open Go Go.RowKit Go.Proofs
noncomputable def Z9 : Env := ⟨Try.prog, fun f ds out => (f = 9 ∧ Sp_overdublaw14_Small ds out) ∨ (f = 10 ∧ Sp_overdubkeep_Within ds out) ∨ (f = 8 ∧ Sp_overdubref14_PackSuper ds out) ∨ (f = 11 ∧ Sp_overdubkeep_Cut_byte ds out) ∨ (f = 12 ∧ Sp_super_Choose ds out) ∨ (f = 13 ∧ Sp_overdubref14_Choose ds out) ∨ (f = 14 ∧ Sp_overdublaw14_wakes ds out), Es⟩
theorem Z9_sp : ∀ f ds out, Z9.Sp f ds out → Ent Z9.P f ∧ Good Z9.P f (fun a b => a = ds ∧ b = out) := by
  rintro f ds out (⟨rfl, h⟩ | ⟨rfl, h⟩ | ⟨rfl, h⟩ | ⟨rfl, h⟩ | ⟨rfl, h⟩ | ⟨rfl, h⟩ | ⟨rfl, h⟩)
  · exact ⟨ent_overdublaw14_Small, good_overdublaw14_Small.one h⟩
  · exact ⟨ent_overdubkeep_Within, good_overdubkeep_Within.one h⟩
  · exact ⟨ent_overdubref14_PackSuper, good_overdubref14_PackSuper.one h⟩
  · exact ⟨ent_overdubkeep_Cut_byte, good_overdubkeep_Cut_byte.one h⟩
  · exact ⟨ent_super_Choose, good_super_Choose.one h⟩
  · exact ⟨ent_overdubref14_Choose, good_overdubref14_Choose.one h⟩
  · exact ⟨ent_overdublaw14_wakes, good_overdublaw14_wakes.one h⟩
theorem Z9_ok : Z9.Ok := ⟨Z9_sp, Es_ok⟩
def Sp_overdublaw14_SuperChooses (ds : List D) (out : Out) : Prop := ∃ (g l d r g' l' d' r' n m how : Int) (b : List Int), ds = [.agg [.v (.int .i64 g), .v (.int .i64 l), .v (.int .i64 d), .v (.int .i64 r)], .agg [.v (.int .i64 g'), .v (.int .i64 l'), .v (.int .i64 d'), .v (.int .i64 r')], .v (.int .i64 n), .v (.int .i64 m), .v (.int .i64 how), .list (b.map mB)] ∧ Byt b ∧ b.length ≤ 9223372036854775807 ∧ out = ⟨.d (.v (.bool true)), []⟩
theorem good_overdublaw14_SuperChooses : Good Try.prog 3 Sp_overdublaw14_SuperChooses := by
  refine good_body (E := Z9) (nt := 85) (rs := #[.tmp 12]) Try.func3 rfl rfl rfl ?_
  rintro ds out ⟨g, l, d, r, g', l', d', r', n, m, how, b, rfl, hb, hbl, rfl⟩
  refine ⟨by simp, ?_⟩
  have w1 := within_rng (v := g) (n := 9) (by omega)
  have w2 := within_rng (v := l) (n := 9) (by omega)
  have w3 := within_rng (v := d) (n := 9) (by omega)
  have w4 := within_rng (v := r) (n := 90) (by omega)
  have w5 := within_rng (v := n) (n := 9) (by omega)
  have v1 := within_rng (v := g') (n := 9) (by omega)
  have v2 := within_rng (v := l') (n := 9) (by omega)
  have v3 := within_rng (v := d') (n := 9) (by omega)
  have v4 := within_rng (v := r') (n := 90) (by omega)
  have v5 := within_rng (v := m) (n := 9) (by omega)
  obtain ⟨X, hX⟩ : ∃ X, supP (1 + within g 9) (1 + within l 9) (within d 9) (within r 90) (1 + within n 9) = X := ⟨_, rfl⟩
  obtain ⟨Y, hY⟩ : ∃ Y, supP (1 + within g' 9) (1 + within l' 9) (within d' 9) (within r' 90) (1 + within m 9) = Y := ⟨_, rfl⟩
  have hXb : Byt X := hX ▸ supP_byt _ _ _ _ _
  have hYb : Byt Y := hY ▸ supP_byt _ _ _ _ _
  have hXl : X.length = 128 := hX ▸ supP_len _ _ _ _ _
  have hYl : Y.length = 128 := hY ▸ supP_len _ _ _ _ _
  refine AW.m3 ⟨[(4, .d (.v (.int .i64 how))), (5, .d (.list (b.map mB))), (6, .ptr 6 0), (7, .ptr 7 0), (12, .d (.v (.bool false))), (13, .sl 28 1 0 128 true), (14, .sl 34 1 0 128 true)], [(28, .row 5 1 (X.map mB)), (34, .row 5 1 (Y.map mB)), (6, .box [.d (.v (.int .i64 g)), .d (.v (.int .i64 l)), .d (.v (.int .i64 d)), .d (.v (.int .i64 r))]), (7, .box [.d (.v (.int .i64 g')), .d (.v (.int .i64 l')), .d (.v (.int .i64 d')), .d (.v (.int .i64 r'))])], 85⟩ ?_ ?_
  · repeat' first
                    | (refine AW.seq ?_)
                    | (refine AW.block ?_)
                    | (refine AW.regl Z9_ok [0, 1, 2, 3, 4, 5, 6, 7, 12, 13, 14, 15, 16, 17, 18, 19, 20, 21, 22, 36, 37, 41, 45] ?_)
                    | (refine then_n ?_)
                    | (refine then_r ?_)
                    | (refine then_x ?_)
                    | (refine block_x ?_)
                    | (refine block_o (by decide) ?_)
                    | (refine block_n ?_)
                    | (refine block_r ?_)
                    | (refine AW.skip ?_)
                    | (refine AW.ret ?_)
                    | (refine AW.exit ?_)
                    | (refine AW.cond rfl ?_ ?_ <;> (intro hc; first | cases hc | ((try rw [hc]); (try simp only [stH] at hc); (try (exfalso; omega)))))
                    | ((first
                          | (refine awl_none rfl fun K hK => ?_)
                          | (refine awl_nil ?_)
                          | (refine awl_some rfl rfl (Nat.le_of_ble_eq_true rfl) rfl rfl ?_ ?_ <;> (intro hc; first | cases hc | ((try rw [hc]); (try simp only [stH] at hc); (try (exfalso; omega)))) <;> (try intro K hK))
                          | (refine awl_skip rfl rfl (Nat.le_of_ble_eq_true rfl) rfl rfl ?_))
                       all_goals first
                         | (show Awl _ _ _ _ _; simp only [St.upd, St.put, List.nil_append, List.cons_append, List.singleton_append, List.append_nil])
                         | (simp (disch := omega) only [awl, ev1, evk, evc, gv, e_move, e_pick, e_bin, binW, e_un, e_cnv, e_conv, e_str, e_mark, e_copy, e_extract, e_len, e_mm, e_nil, e_index, e_field, e_load, e_fld, e_cut, e_alloc, e_box, e_make, e_build, e_lit, e_store, e_app, e_call, args, pus, pu, pu1, toDL, toD, toD1, toDs, elems, idsW, idsV, lenV, oint, cutOk, ldV, subD, newD, fillV, cellsV, one1, one0, zD, cD0, scs, St.upd, St.put, St.ev, St.keep, gt, go, tmOf, ofD, dOk, cV, cV0, renM, Value.oneCell', keepL, freshL, vaOL, outB, wkTm, subL, ninL, injL, nm, resW, resL, resV, shift, ren, ren2, ren1, renO, va, va2, va1, vaO, inDom, stA, Int.reduceEq, ↓reduceIte, reduceCtorEq, Nat.reduceEqDiff, Nat.reduceLT, Nat.reduceLeDiff, Nat.reduceAdd, Nat.reduceSub, Nat.reduceMul, Int.reduceToNat, Int.reduceLE, Int.reduceLT, Z9, Sp_overdublaw14_Small, Sp_overdubkeep_Within, Sp_overdubref14_PackSuper, Sp_overdubkeep_Cut_byte, Sp_super_Choose, Sp_overdubref14_Choose, Sp_overdublaw14_wakes, x_bt23, x_bt3, x_bt4, x_es23, x_pt23, x_pt3, x_pt4, x_tk23, x_zc23, hX, hY]
                            (try ((repeat' first | (refine And.intro ?_ ?_) | (intro hc; first | cases hc | ((try rw [hc]); (try simp only [stH] at hc); (try (exfalso; omega)))))
                                  all_goals first | (refine hK _ _ ?_; clear hK K; simp only [St.upd, St.put, List.nil_append, List.cons_append, List.singleton_append, List.append_nil]) | exact hK | omega))))
    refine ⟨nm [], Wk.of ?_⟩
    simp (disch := omega) only [awl, ev1, evk, evc, gv, e_move, e_pick, e_bin, binW, e_un, e_cnv, e_conv, e_str, e_mark, e_copy, e_extract, e_len, e_mm, e_nil, e_index, e_field, e_load, e_fld, e_cut, e_alloc, e_box, e_make, e_build, e_lit, e_store, e_app, e_call, args, pus, pu, pu1, toDL, toD, toD1, toDs, elems, idsW, idsV, lenV, oint, cutOk, ldV, subD, newD, fillV, cellsV, one1, one0, zD, cD0, scs, St.upd, St.put, St.ev, St.keep, gt, go, tmOf, ofD, dOk, cV, cV0, renM, Value.oneCell', keepL, freshL, vaOL, outB, wkTm, subL, ninL, injL, nm, resW, resL, resV, shift, ren, ren2, ren1, renO, va, va2, va1, vaO, inDom, stA, Int.reduceEq, ↓reduceIte, reduceCtorEq, Nat.reduceEqDiff, Nat.reduceLT, Nat.reduceLeDiff, Nat.reduceAdd, Nat.reduceSub, Nat.reduceMul, Int.reduceToNat, Int.reduceLE, Int.reduceLT, Z9, Sp_overdublaw14_Small, Sp_overdubkeep_Within, Sp_overdubref14_PackSuper, Sp_overdubkeep_Cut_byte, Sp_super_Choose, Sp_overdubref14_Choose, Sp_overdublaw14_wakes, x_bt23, x_bt3, x_bt4, x_es23, x_pt23, x_pt3, x_pt4, x_tk23, x_zc23]
  clear w1 w2 w3 w4 w5 v1 v2 v3 v4 v5 hX hY
  have w5 := within_rng (v := how) (n := 5) (by omega)
  have case5 : within how 5 = 1 ∨ within how 5 = 2 ∨ within how 5 = 3 ∨ (within how 5 = 0 ∨ within how 5 = 4) := by omega
  have hXt : Byt X = True := eq_true hXb
  have hYt : Byt Y = True := eq_true hYb
  have hBt : Byt (b.take 140) = True := eq_true (byt_take hb _)
  have hBl : (b.take 140).length ≤ 140 := List.length_take_le ..
  have tX : (X.map mB).take 128 = X.map mB := List.take_of_length_le (by simp [hXl])
  have tY : (Y.map mB).take 128 = Y.map mB := List.take_of_length_le (by simp [hYl])
  have tB : ((b.take 140).map mB).take (b.take 140).length = (b.take 140).map mB := List.take_of_length_le (by simp)
  have hn : ((140 : Int)).toNat = 140 := rfl
  clear w5
  rcases case5 with hw | hw | hw | hw
  · obtain ⟨p1, p2, p3, p4, p5, p6, p7, hc⟩ := ch_form (b.take 140) Y
    have hpp : (p7 == p7) = true := beq_self_eq_true p7
    repeat' first
                    | (refine AW.seq ?_)
                    | (refine AW.block ?_)
                    | (refine AW.regl Z9_ok [0, 1, 2, 3, 4, 5, 6, 7, 12, 13, 14, 15, 16, 17, 18, 19, 20, 21, 22, 36, 37, 41, 45] ?_)
                    | (refine then_n ?_)
                    | (refine then_r ?_)
                    | (refine then_x ?_)
                    | (refine block_x ?_)
                    | (refine block_o (by decide) ?_)
                    | (refine block_n ?_)
                    | (refine block_r ?_)
                    | (refine AW.skip ?_)
                    | (refine AW.ret ?_)
                    | (refine AW.exit ?_)
                    | (refine AW.cond rfl ?_ ?_ <;> (intro hc; first | cases hc | ((try rw [hc]); (try simp only [stH] at hc); (try (exfalso; omega)))))
                    | ((first
                          | (refine awl_none rfl fun K hK => ?_)
                          | (refine awl_nil ?_)
                          | (refine awl_some rfl rfl (Nat.le_of_ble_eq_true rfl) rfl rfl ?_ ?_ <;> (intro hc; first | cases hc | ((try rw [hc]); (try simp only [stH] at hc); (try (exfalso; omega)))) <;> (try intro K hK))
                          | (refine awl_skip rfl rfl (Nat.le_of_ble_eq_true rfl) rfl rfl ?_))
                       all_goals first
                         | (show Awl _ _ _ _ _; simp only [St.upd, St.put, List.nil_append, List.cons_append, List.singleton_append, List.append_nil])
                         | (simp (disch := omega) only [awl, ev1, evk, evc, gv, e_move, e_pick, e_bin, binW, e_un, e_cnv, e_conv, e_str, e_mark, e_copy, e_extract, e_len, e_mm, e_nil, e_index, e_field, e_load, e_fld, e_cut, e_alloc, e_box, e_make, e_build, e_lit, e_store, e_app, e_call, args, pus, pu, pu1, toDL, toD, toD1, toDs, elems, idsW, idsV, lenV, oint, cutOk, ldV, subD, newD, fillV, cellsV, one1, one0, zD, cD0, scs, St.upd, St.put, St.ev, St.keep, gt, go, tmOf, ofD, dOk, cV, cV0, renM, Value.oneCell', keepL, freshL, vaOL, outB, wkTm, subL, ninL, injL, nm, resW, resL, resV, shift, ren, ren2, ren1, renO, va, va2, va1, vaO, inDom, stA, Int.reduceEq, ↓reduceIte, reduceCtorEq, Nat.reduceEqDiff, Nat.reduceLT, Nat.reduceLeDiff, Nat.reduceAdd, Nat.reduceSub, Nat.reduceMul, Int.reduceToNat, Int.reduceLE, Int.reduceLT, Z9, Sp_overdublaw14_Small, Sp_overdubkeep_Within, Sp_overdubref14_PackSuper, Sp_overdubkeep_Cut_byte, Sp_super_Choose, Sp_overdubref14_Choose, Sp_overdublaw14_wakes, x_bt23, x_bt3, x_bt4, x_es23, x_pt23, x_pt3, x_pt4, x_tk23, x_zc23, hw, hn, hXt, hYt, hBt, tX, tY, tB, hXl, hYl, hc, hpp, mB_inj]
                            (try ((repeat' first | (refine And.intro ?_ ?_) | (intro hc; first | cases hc | ((try rw [hc]); (try simp only [stH] at hc); (try (exfalso; omega)))))
                                  all_goals first | (refine hK _ _ ?_; clear hK K; simp only [St.upd, St.put, List.nil_append, List.cons_append, List.singleton_append, List.append_nil]) | exact hK | omega))))
    (refine Ends.of (nm []) (by first | exact .inl rfl | exact .inr rfl) ?_; simp (disch := omega) only [awl, ev1, evk, evc, gv, e_move, e_pick, e_bin, binW, e_un, e_cnv, e_conv, e_str, e_mark, e_copy, e_extract, e_len, e_mm, e_nil, e_index, e_field, e_load, e_fld, e_cut, e_alloc, e_box, e_make, e_build, e_lit, e_store, e_app, e_call, args, pus, pu, pu1, toDL, toD, toD1, toDs, elems, idsW, idsV, lenV, oint, cutOk, ldV, subD, newD, fillV, cellsV, one1, one0, zD, cD0, scs, St.upd, St.put, St.ev, St.keep, gt, go, tmOf, ofD, dOk, cV, cV0, renM, Value.oneCell', keepL, freshL, vaOL, outB, wkTm, subL, ninL, injL, nm, resW, resL, resV, shift, ren, ren2, ren1, renO, va, va2, va1, vaO, inDom, stA, Int.reduceEq, ↓reduceIte, reduceCtorEq, Nat.reduceEqDiff, Nat.reduceLT, Nat.reduceLeDiff, Nat.reduceAdd, Nat.reduceSub, Nat.reduceMul, Int.reduceToNat, Int.reduceLE, Int.reduceLT, Z9, Sp_overdublaw14_Small, Sp_overdubkeep_Within, Sp_overdubref14_PackSuper, Sp_overdubkeep_Cut_byte, Sp_super_Choose, Sp_overdubref14_Choose, Sp_overdublaw14_wakes, x_bt23, x_bt3, x_bt4, x_es23, x_pt23, x_pt3, x_pt4, x_tk23, x_zc23])
  · obtain ⟨p1, p2, p3, p4, p5, p6, p7, hc⟩ := ch_form X (b.take 140)
    have hpp : (p7 == p7) = true := beq_self_eq_true p7
    repeat' first
                    | (refine AW.seq ?_)
                    | (refine AW.block ?_)
                    | (refine AW.regl Z9_ok [0, 1, 2, 3, 4, 5, 6, 7, 12, 13, 14, 15, 16, 17, 18, 19, 20, 21, 22, 36, 37, 41, 45] ?_)
                    | (refine then_n ?_)
                    | (refine then_r ?_)
                    | (refine then_x ?_)
                    | (refine block_x ?_)
                    | (refine block_o (by decide) ?_)
                    | (refine block_n ?_)
                    | (refine block_r ?_)
                    | (refine AW.skip ?_)
                    | (refine AW.ret ?_)
                    | (refine AW.exit ?_)
                    | (refine AW.cond rfl ?_ ?_ <;> (intro hc; first | cases hc | ((try rw [hc]); (try simp only [stH] at hc); (try (exfalso; omega)))))
                    | ((first
                          | (refine awl_none rfl fun K hK => ?_)
                          | (refine awl_nil ?_)
                          | (refine awl_some rfl rfl (Nat.le_of_ble_eq_true rfl) rfl rfl ?_ ?_ <;> (intro hc; first | cases hc | ((try rw [hc]); (try simp only [stH] at hc); (try (exfalso; omega)))) <;> (try intro K hK))
                          | (refine awl_skip rfl rfl (Nat.le_of_ble_eq_true rfl) rfl rfl ?_))
                       all_goals first
                         | (show Awl _ _ _ _ _; simp only [St.upd, St.put, List.nil_append, List.cons_append, List.singleton_append, List.append_nil])
                         | (simp (disch := omega) only [awl, ev1, evk, evc, gv, e_move, e_pick, e_bin, binW, e_un, e_cnv, e_conv, e_str, e_mark, e_copy, e_extract, e_len, e_mm, e_nil, e_index, e_field, e_load, e_fld, e_cut, e_alloc, e_box, e_make, e_build, e_lit, e_store, e_app, e_call, args, pus, pu, pu1, toDL, toD, toD1, toDs, elems, idsW, idsV, lenV, oint, cutOk, ldV, subD, newD, fillV, cellsV, one1, one0, zD, cD0, scs, St.upd, St.put, St.ev, St.keep, gt, go, tmOf, ofD, dOk, cV, cV0, renM, Value.oneCell', keepL, freshL, vaOL, outB, wkTm, subL, ninL, injL, nm, resW, resL, resV, shift, ren, ren2, ren1, renO, va, va2, va1, vaO, inDom, stA, Int.reduceEq, ↓reduceIte, reduceCtorEq, Nat.reduceEqDiff, Nat.reduceLT, Nat.reduceLeDiff, Nat.reduceAdd, Nat.reduceSub, Nat.reduceMul, Int.reduceToNat, Int.reduceLE, Int.reduceLT, Z9, Sp_overdublaw14_Small, Sp_overdubkeep_Within, Sp_overdubref14_PackSuper, Sp_overdubkeep_Cut_byte, Sp_super_Choose, Sp_overdubref14_Choose, Sp_overdublaw14_wakes, x_bt23, x_bt3, x_bt4, x_es23, x_pt23, x_pt3, x_pt4, x_tk23, x_zc23, hw, hn, hXt, hYt, hBt, tX, tY, tB, hXl, hYl, hc, hpp, mB_inj]
                            (try ((repeat' first | (refine And.intro ?_ ?_) | (intro hc; first | cases hc | ((try rw [hc]); (try simp only [stH] at hc); (try (exfalso; omega)))))
                                  all_goals first | (refine hK _ _ ?_; clear hK K; simp only [St.upd, St.put, List.nil_append, List.cons_append, List.singleton_append, List.append_nil]) | exact hK | omega))))
    (refine Ends.of (nm []) (by first | exact .inl rfl | exact .inr rfl) ?_; simp (disch := omega) only [awl, ev1, evk, evc, gv, e_move, e_pick, e_bin, binW, e_un, e_cnv, e_conv, e_str, e_mark, e_copy, e_extract, e_len, e_mm, e_nil, e_index, e_field, e_load, e_fld, e_cut, e_alloc, e_box, e_make, e_build, e_lit, e_store, e_app, e_call, args, pus, pu, pu1, toDL, toD, toD1, toDs, elems, idsW, idsV, lenV, oint, cutOk, ldV, subD, newD, fillV, cellsV, one1, one0, zD, cD0, scs, St.upd, St.put, St.ev, St.keep, gt, go, tmOf, ofD, dOk, cV, cV0, renM, Value.oneCell', keepL, freshL, vaOL, outB, wkTm, subL, ninL, injL, nm, resW, resL, resV, shift, ren, ren2, ren1, renO, va, va2, va1, vaO, inDom, stA, Int.reduceEq, ↓reduceIte, reduceCtorEq, Nat.reduceEqDiff, Nat.reduceLT, Nat.reduceLeDiff, Nat.reduceAdd, Nat.reduceSub, Nat.reduceMul, Int.reduceToNat, Int.reduceLE, Int.reduceLT, Z9, Sp_overdublaw14_Small, Sp_overdubkeep_Within, Sp_overdubref14_PackSuper, Sp_overdubkeep_Cut_byte, Sp_super_Choose, Sp_overdubref14_Choose, Sp_overdublaw14_wakes, x_bt23, x_bt3, x_bt4, x_es23, x_pt23, x_pt3, x_pt4, x_tk23, x_zc23])
  · obtain ⟨p1, p2, p3, p4, p5, p6, p7, hc⟩ := ch_form X X
    have hpp : (p7 == p7) = true := beq_self_eq_true p7
    repeat' first
                    | (refine AW.seq ?_)
                    | (refine AW.block ?_)
                    | (refine AW.regl Z9_ok [0, 1, 2, 3, 4, 5, 6, 7, 12, 13, 14, 15, 16, 17, 18, 19, 20, 21, 22, 36, 37, 41, 45] ?_)
                    | (refine then_n ?_)
                    | (refine then_r ?_)
                    | (refine then_x ?_)
                    | (refine block_x ?_)
                    | (refine block_o (by decide) ?_)
                    | (refine block_n ?_)
                    | (refine block_r ?_)
                    | (refine AW.skip ?_)
                    | (refine AW.ret ?_)
                    | (refine AW.exit ?_)
                    | (refine AW.cond rfl ?_ ?_ <;> (intro hc; first | cases hc | ((try rw [hc]); (try simp only [stH] at hc); (try (exfalso; omega)))))
                    | ((first
                          | (refine awl_none rfl fun K hK => ?_)
                          | (refine awl_nil ?_)
                          | (refine awl_some rfl rfl (Nat.le_of_ble_eq_true rfl) rfl rfl ?_ ?_ <;> (intro hc; first | cases hc | ((try rw [hc]); (try simp only [stH] at hc); (try (exfalso; omega)))) <;> (try intro K hK))
                          | (refine awl_skip rfl rfl (Nat.le_of_ble_eq_true rfl) rfl rfl ?_))
                       all_goals first
                         | (show Awl _ _ _ _ _; simp only [St.upd, St.put, List.nil_append, List.cons_append, List.singleton_append, List.append_nil])
                         | (simp (disch := omega) only [awl, ev1, evk, evc, gv, e_move, e_pick, e_bin, binW, e_un, e_cnv, e_conv, e_str, e_mark, e_copy, e_extract, e_len, e_mm, e_nil, e_index, e_field, e_load, e_fld, e_cut, e_alloc, e_box, e_make, e_build, e_lit, e_store, e_app, e_call, args, pus, pu, pu1, toDL, toD, toD1, toDs, elems, idsW, idsV, lenV, oint, cutOk, ldV, subD, newD, fillV, cellsV, one1, one0, zD, cD0, scs, St.upd, St.put, St.ev, St.keep, gt, go, tmOf, ofD, dOk, cV, cV0, renM, Value.oneCell', keepL, freshL, vaOL, outB, wkTm, subL, ninL, injL, nm, resW, resL, resV, shift, ren, ren2, ren1, renO, va, va2, va1, vaO, inDom, stA, Int.reduceEq, ↓reduceIte, reduceCtorEq, Nat.reduceEqDiff, Nat.reduceLT, Nat.reduceLeDiff, Nat.reduceAdd, Nat.reduceSub, Nat.reduceMul, Int.reduceToNat, Int.reduceLE, Int.reduceLT, Z9, Sp_overdublaw14_Small, Sp_overdubkeep_Within, Sp_overdubref14_PackSuper, Sp_overdubkeep_Cut_byte, Sp_super_Choose, Sp_overdubref14_Choose, Sp_overdublaw14_wakes, x_bt23, x_bt3, x_bt4, x_es23, x_pt23, x_pt3, x_pt4, x_tk23, x_zc23, hw, hn, hXt, hYt, hBt, tX, tY, tB, hXl, hYl, hc, hpp, mB_inj]
                            (try ((repeat' first | (refine And.intro ?_ ?_) | (intro hc; first | cases hc | ((try rw [hc]); (try simp only [stH] at hc); (try (exfalso; omega)))))
                                  all_goals first | (refine hK _ _ ?_; clear hK K; simp only [St.upd, St.put, List.nil_append, List.cons_append, List.singleton_append, List.append_nil]) | exact hK | omega))))
    (refine Ends.of (nm []) (by first | exact .inl rfl | exact .inr rfl) ?_; simp (disch := omega) only [awl, ev1, evk, evc, gv, e_move, e_pick, e_bin, binW, e_un, e_cnv, e_conv, e_str, e_mark, e_copy, e_extract, e_len, e_mm, e_nil, e_index, e_field, e_load, e_fld, e_cut, e_alloc, e_box, e_make, e_build, e_lit, e_store, e_app, e_call, args, pus, pu, pu1, toDL, toD, toD1, toDs, elems, idsW, idsV, lenV, oint, cutOk, ldV, subD, newD, fillV, cellsV, one1, one0, zD, cD0, scs, St.upd, St.put, St.ev, St.keep, gt, go, tmOf, ofD, dOk, cV, cV0, renM, Value.oneCell', keepL, freshL, vaOL, outB, wkTm, subL, ninL, injL, nm, resW, resL, resV, shift, ren, ren2, ren1, renO, va, va2, va1, vaO, inDom, stA, Int.reduceEq, ↓reduceIte, reduceCtorEq, Nat.reduceEqDiff, Nat.reduceLT, Nat.reduceLeDiff, Nat.reduceAdd, Nat.reduceSub, Nat.reduceMul, Int.reduceToNat, Int.reduceLE, Int.reduceLT, Z9, Sp_overdublaw14_Small, Sp_overdubkeep_Within, Sp_overdubref14_PackSuper, Sp_overdubkeep_Cut_byte, Sp_super_Choose, Sp_overdubref14_Choose, Sp_overdublaw14_wakes, x_bt23, x_bt3, x_bt4, x_es23, x_pt23, x_pt3, x_pt4, x_tk23, x_zc23])
  · obtain ⟨p1, p2, p3, p4, p5, p6, p7, hc⟩ := ch_form X Y
    have hpp : (p7 == p7) = true := beq_self_eq_true p7
    have k1 : decide (within how 5 = 1) = false := decide_eq_false (by omega)
    have k2 : decide (within how 5 = 2) = false := decide_eq_false (by omega)
    have k3 : decide (within how 5 = 3) = false := decide_eq_false (by omega)
    clear hw
    repeat' first
                    | (refine AW.seq ?_)
                    | (refine AW.block ?_)
                    | (refine AW.regl Z9_ok [0, 1, 2, 3, 4, 5, 6, 7, 12, 13, 14, 15, 16, 17, 18, 19, 20, 21, 22, 36, 37, 41, 45] ?_)
                    | (refine then_n ?_)
                    | (refine then_r ?_)
                    | (refine then_x ?_)
                    | (refine block_x ?_)
                    | (refine block_o (by decide) ?_)
                    | (refine block_n ?_)
                    | (refine block_r ?_)
                    | (refine AW.skip ?_)
                    | (refine AW.ret ?_)
                    | (refine AW.exit ?_)
                    | (refine AW.cond rfl ?_ ?_ <;> (intro hc; first | cases hc | ((try rw [hc]); (try simp only [stH] at hc); (try (exfalso; omega)))))
                    | ((first
                          | (refine awl_none rfl fun K hK => ?_)
                          | (refine awl_nil ?_)
                          | (refine awl_some rfl rfl (Nat.le_of_ble_eq_true rfl) rfl rfl ?_ ?_ <;> (intro hc; first | cases hc | ((try rw [hc]); (try simp only [stH] at hc); (try (exfalso; omega)))) <;> (try intro K hK))
                          | (refine awl_skip rfl rfl (Nat.le_of_ble_eq_true rfl) rfl rfl ?_))
                       all_goals first
                         | (show Awl _ _ _ _ _; simp only [St.upd, St.put, List.nil_append, List.cons_append, List.singleton_append, List.append_nil])
                         | (simp (disch := omega) only [awl, ev1, evk, evc, gv, e_move, e_pick, e_bin, binW, e_un, e_cnv, e_conv, e_str, e_mark, e_copy, e_extract, e_len, e_mm, e_nil, e_index, e_field, e_load, e_fld, e_cut, e_alloc, e_box, e_make, e_build, e_lit, e_store, e_app, e_call, args, pus, pu, pu1, toDL, toD, toD1, toDs, elems, idsW, idsV, lenV, oint, cutOk, ldV, subD, newD, fillV, cellsV, one1, one0, zD, cD0, scs, St.upd, St.put, St.ev, St.keep, gt, go, tmOf, ofD, dOk, cV, cV0, renM, Value.oneCell', keepL, freshL, vaOL, outB, wkTm, subL, ninL, injL, nm, resW, resL, resV, shift, ren, ren2, ren1, renO, va, va2, va1, vaO, inDom, stA, Int.reduceEq, ↓reduceIte, reduceCtorEq, Nat.reduceEqDiff, Nat.reduceLT, Nat.reduceLeDiff, Nat.reduceAdd, Nat.reduceSub, Nat.reduceMul, Int.reduceToNat, Int.reduceLE, Int.reduceLT, Z9, Sp_overdublaw14_Small, Sp_overdubkeep_Within, Sp_overdubref14_PackSuper, Sp_overdubkeep_Cut_byte, Sp_super_Choose, Sp_overdubref14_Choose, Sp_overdublaw14_wakes, x_bt23, x_bt3, x_bt4, x_es23, x_pt23, x_pt3, x_pt4, x_tk23, x_zc23, k1, k2, k3, hn, hXt, hYt, hBt, tX, tY, tB, hXl, hYl, hc, hpp, mB_inj]
                            (try ((repeat' first | (refine And.intro ?_ ?_) | (intro hc; first | cases hc | ((try rw [hc]); (try simp only [stH] at hc); (try (exfalso; omega)))))
                                  all_goals first | (refine hK _ _ ?_; clear hK K; simp only [St.upd, St.put, List.nil_append, List.cons_append, List.singleton_append, List.append_nil]) | exact hK | omega))))
    (refine Ends.of (nm []) (by first | exact .inl rfl | exact .inr rfl) ?_; simp (disch := omega) only [awl, ev1, evk, evc, gv, e_move, e_pick, e_bin, binW, e_un, e_cnv, e_conv, e_str, e_mark, e_copy, e_extract, e_len, e_mm, e_nil, e_index, e_field, e_load, e_fld, e_cut, e_alloc, e_box, e_make, e_build, e_lit, e_store, e_app, e_call, args, pus, pu, pu1, toDL, toD, toD1, toDs, elems, idsW, idsV, lenV, oint, cutOk, ldV, subD, newD, fillV, cellsV, one1, one0, zD, cD0, scs, St.upd, St.put, St.ev, St.keep, gt, go, tmOf, ofD, dOk, cV, cV0, renM, Value.oneCell', keepL, freshL, vaOL, outB, wkTm, subL, ninL, injL, nm, resW, resL, resV, shift, ren, ren2, ren1, renO, va, va2, va1, vaO, inDom, stA, Int.reduceEq, ↓reduceIte, reduceCtorEq, Nat.reduceEqDiff, Nat.reduceLT, Nat.reduceLeDiff, Nat.reduceAdd, Nat.reduceSub, Nat.reduceMul, Int.reduceToNat, Int.reduceLE, Int.reduceLT, Z9, Sp_overdublaw14_Small, Sp_overdubkeep_Within, Sp_overdubref14_PackSuper, Sp_overdubkeep_Cut_byte, Sp_super_Choose, Sp_overdubref14_Choose, Sp_overdublaw14_wakes, x_bt23, x_bt3, x_bt4, x_es23, x_pt23, x_pt3, x_pt4, x_tk23, x_zc23])
theorem ent_overdublaw14_SuperChooses : Ent Try.prog 3 := ⟨_, Try.func3, rfl, by decide⟩
end Go.Proofs.Ytceoegbljkbgeaa.Am
