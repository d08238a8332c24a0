import Derived.Test.YtceoegbljkbgeaaZS3
set_option linter.unusedVariables false
set_option linter.unusedSimpArgs false
set_option maxRecDepth 10000
set_option maxHeartbeats 0
namespace Go.Proofs.Ytceoegbljkbgeaa.Am
open Go Go.RowKit Go.Proofs
def sAgg (b : List Int) : V := .agg [.d (.v (.int .i64 (sG b))), .d (.v (.int .i64 (sI b))), .d (.v (.int .i64 (sD b))), .d (.v (.int .i64 (sR b)))]
def chOut (a b : List Int) : Out :=
  if sOk b ∧ (¬ sOk a ∨ sG a < sG b) then ⟨.tup [sAgg b, .d (.v (.int .i64 (sC b))), .d (.v (.int .i64 1)), .d (.v (.bool true))], []⟩
  else if sOk a then ⟨.tup [sAgg a, .d (.v (.int .i64 (sC a))), .d (.v (.int .i64 0)), .d (.v (.bool true))], []⟩
  else ⟨.tup [.agg [.d (.v (.int .i64 0)), .d (.v (.int .i64 0)), .d (.v (.int .i64 0)), .d (.v (.int .i64 0))], .d (.v (.int .i64 0)), .d (.v (.int .i64 0)), .d (.v (.bool false))], []⟩
noncomputable def Z5 : Env := ⟨Try.prog, fun f ds out => (f = 17 ∧ Sp_super_Unpack ds out), Es⟩
theorem Z5_sp : ∀ f ds out, Z5.Sp f ds out → Ent Z5.P f ∧ Good Z5.P f (fun a b => a = ds ∧ b = out) := by
  rintro f ds out ⟨rfl, h⟩
  exact ⟨ent_super_Unpack, good_super_Unpack.one h⟩
theorem Z5_ok : Z5.Ok := ⟨Z5_sp, Es_ok⟩
theorem sup_yes {b : List Int} (h : sOk b) : supOut b = ⟨.tup [.agg [.d (.v (.int .i64 (sG b))), .d (.v (.int .i64 (sI b))), .d (.v (.int .i64 (sD b))), .d (.v (.int .i64 (sR b)))], .d (.v (.int .i64 (sC b))), .d (.v (.bool true))], []⟩ := by rw [supOut, if_pos h]
theorem sup_no {b : List Int} (h : ¬ sOk b) : supOut b = ⟨.tup [.agg [.d (.v (.int .i64 0)), .d (.v (.int .i64 0)), .d (.v (.int .i64 0)), .d (.v (.int .i64 0))], .d (.v (.int .i64 0)), .d (.v (.bool false))], []⟩ := by rw [supOut, if_neg h]; rfl
def Sp_super_Choose (ds : List D) (out : Out) : Prop := ∃ a b : List Int, ds = [.list (a.map mB), .list (b.map mB)] ∧ Byt a ∧ Byt b ∧ a.length ≤ 9223372036854775807 ∧ b.length ≤ 9223372036854775807 ∧ out = chOut a b
theorem good_super_Choose : Good Try.prog 12 Sp_super_Choose := by
  refine good_body (E := Z5) (nt := 40) (rs := #[.cell 4 23, .tmp 5, .tmp 6, .tmp 7]) Try.func12 rfl rfl rfl ?_
  rintro ds out ⟨a, b, rfl, ha, hb, hal, hbl, rfl⟩
  refine ⟨by simp, ?_⟩
  have ha1 : Byt a = True := eq_true ha
  have hb1 : Byt b = True := eq_true hb
  by_cases h1 : sOk a <;> by_cases h2 : sOk b
  · have e1 := sup_yes h1
    have e2 := sup_yes h2
    by_cases h3 : sG a < sG b
    · have hd : decide (sG a < sG b) = true := decide_eq_true h3
      have hz : chOut a b = ⟨.tup [sAgg b, .d (.v (.int .i64 (sC b))), .d (.v (.int .i64 1)), .d (.v (.bool true))], []⟩ := by rw [chOut, if_pos ⟨h2, .inr h3⟩]
      repeat' first
                    | (refine AW.seq ?_)
                    | (refine AW.block ?_)
                    | (refine AW.regl Z5_ok [0, 1, 4, 5, 6, 7, 8, 9, 10, 34] ?_)
                    | (refine then_n ?_)
                    | (refine then_r ?_)
                    | (refine then_x ?_)
                    | (refine block_x ?_)
                    | (refine block_o (by decide) ?_)
                    | (refine block_n ?_)
                    | (refine block_r ?_)
                    | (refine AW.skip ?_)
                    | (refine AW.ret ?_)
                    | (refine AW.exit ?_)
                    | (refine AW.cond rfl ?_ ?_ <;> (intro hc; first | cases hc | ((try rw [hc]); (try simp only [stH] at hc); (try (exfalso; omega)))))
                    | ((first
                          | (refine awl_none rfl fun K hK => ?_)
                          | (refine awl_nil ?_)
                          | (refine awl_some rfl rfl (Nat.le_of_ble_eq_true rfl) rfl rfl ?_ ?_ <;> (intro hc; first | cases hc | ((try rw [hc]); (try simp only [stH] at hc); (try (exfalso; omega)))) <;> (try intro K hK))
                          | (refine awl_skip rfl rfl (Nat.le_of_ble_eq_true rfl) rfl rfl ?_))
                       all_goals first
                         | (show Awl _ _ _ _ _; simp only [St.upd, St.put, List.nil_append, List.cons_append, List.singleton_append, List.append_nil])
                         | (simp (disch := omega) only [awl, ev1, evk, evc, gv, e_move, e_pick, e_bin, binW, e_un, e_cnv, e_conv, e_str, e_mark, e_copy, e_extract, e_len, e_mm, e_nil, e_index, e_field, e_load, e_fld, e_cut, e_alloc, e_box, e_make, e_build, e_lit, e_store, e_app, e_call, args, pus, pu, pu1, toDL, toD, toD1, toDs, elems, idsW, idsV, lenV, oint, cutOk, ldV, subD, newD, fillV, cellsV, one1, one0, zD, cD0, scs, St.upd, St.put, St.ev, St.keep, gt, go, tmOf, ofD, dOk, cV, cV0, renM, Value.oneCell', keepL, freshL, vaOL, outB, wkTm, subL, ninL, injL, nm, resW, resL, resV, shift, ren, ren2, ren1, renO, va, va2, va1, vaO, inDom, stA, Int.reduceEq, ↓reduceIte, reduceCtorEq, Nat.reduceEqDiff, Nat.reduceLT, Nat.reduceLeDiff, Nat.reduceAdd, Nat.reduceSub, Nat.reduceMul, Int.reduceToNat, Int.reduceLE, Int.reduceLT, Z5, Sp_super_Unpack, x_bt3, x_fo23_0, x_pt3, x_tk23, x_tk3, x_zc23, ha1, hb1, e1, e2, hd, mB_inj]
                            (try ((repeat' first | (refine And.intro ?_ ?_) | (intro hc; first | cases hc | ((try rw [hc]); (try simp only [stH] at hc); (try (exfalso; omega)))))
                                  all_goals first | (refine hK _ _ ?_; clear hK K; simp only [St.upd, St.put, List.nil_append, List.cons_append, List.singleton_append, List.append_nil]) | exact hK | omega))))
      (refine Ends.of (nm []) (by first | exact .inl rfl | exact .inr rfl) ?_; simp (disch := omega) only [awl, ev1, evk, evc, gv, e_move, e_pick, e_bin, binW, e_un, e_cnv, e_conv, e_str, e_mark, e_copy, e_extract, e_len, e_mm, e_nil, e_index, e_field, e_load, e_fld, e_cut, e_alloc, e_box, e_make, e_build, e_lit, e_store, e_app, e_call, args, pus, pu, pu1, toDL, toD, toD1, toDs, elems, idsW, idsV, lenV, oint, cutOk, ldV, subD, newD, fillV, cellsV, one1, one0, zD, cD0, scs, St.upd, St.put, St.ev, St.keep, gt, go, tmOf, ofD, dOk, cV, cV0, renM, Value.oneCell', keepL, freshL, vaOL, outB, wkTm, subL, ninL, injL, nm, resW, resL, resV, shift, ren, ren2, ren1, renO, va, va2, va1, vaO, inDom, stA, Int.reduceEq, ↓reduceIte, reduceCtorEq, Nat.reduceEqDiff, Nat.reduceLT, Nat.reduceLeDiff, Nat.reduceAdd, Nat.reduceSub, Nat.reduceMul, Int.reduceToNat, Int.reduceLE, Int.reduceLT, Z5, Sp_super_Unpack, x_bt3, x_fo23_0, x_pt3, x_tk23, x_tk3, x_zc23, hz, sAgg])
    · have hd : decide (sG a < sG b) = false := decide_eq_false h3
      have hz : chOut a b = ⟨.tup [sAgg a, .d (.v (.int .i64 (sC a))), .d (.v (.int .i64 0)), .d (.v (.bool true))], []⟩ := by rw [chOut, if_neg (fun h => h.2.elim (fun h => h h1) h3), if_pos h1]
      repeat' first
                    | (refine AW.seq ?_)
                    | (refine AW.block ?_)
                    | (refine AW.regl Z5_ok [0, 1, 4, 5, 6, 7, 8, 9, 10, 34] ?_)
                    | (refine then_n ?_)
                    | (refine then_r ?_)
                    | (refine then_x ?_)
                    | (refine block_x ?_)
                    | (refine block_o (by decide) ?_)
                    | (refine block_n ?_)
                    | (refine block_r ?_)
                    | (refine AW.skip ?_)
                    | (refine AW.ret ?_)
                    | (refine AW.exit ?_)
                    | (refine AW.cond rfl ?_ ?_ <;> (intro hc; first | cases hc | ((try rw [hc]); (try simp only [stH] at hc); (try (exfalso; omega)))))
                    | ((first
                          | (refine awl_none rfl fun K hK => ?_)
                          | (refine awl_nil ?_)
                          | (refine awl_some rfl rfl (Nat.le_of_ble_eq_true rfl) rfl rfl ?_ ?_ <;> (intro hc; first | cases hc | ((try rw [hc]); (try simp only [stH] at hc); (try (exfalso; omega)))) <;> (try intro K hK))
                          | (refine awl_skip rfl rfl (Nat.le_of_ble_eq_true rfl) rfl rfl ?_))
                       all_goals first
                         | (show Awl _ _ _ _ _; simp only [St.upd, St.put, List.nil_append, List.cons_append, List.singleton_append, List.append_nil])
                         | (simp (disch := omega) only [awl, ev1, evk, evc, gv, e_move, e_pick, e_bin, binW, e_un, e_cnv, e_conv, e_str, e_mark, e_copy, e_extract, e_len, e_mm, e_nil, e_index, e_field, e_load, e_fld, e_cut, e_alloc, e_box, e_make, e_build, e_lit, e_store, e_app, e_call, args, pus, pu, pu1, toDL, toD, toD1, toDs, elems, idsW, idsV, lenV, oint, cutOk, ldV, subD, newD, fillV, cellsV, one1, one0, zD, cD0, scs, St.upd, St.put, St.ev, St.keep, gt, go, tmOf, ofD, dOk, cV, cV0, renM, Value.oneCell', keepL, freshL, vaOL, outB, wkTm, subL, ninL, injL, nm, resW, resL, resV, shift, ren, ren2, ren1, renO, va, va2, va1, vaO, inDom, stA, Int.reduceEq, ↓reduceIte, reduceCtorEq, Nat.reduceEqDiff, Nat.reduceLT, Nat.reduceLeDiff, Nat.reduceAdd, Nat.reduceSub, Nat.reduceMul, Int.reduceToNat, Int.reduceLE, Int.reduceLT, Z5, Sp_super_Unpack, x_bt3, x_fo23_0, x_pt3, x_tk23, x_tk3, x_zc23, ha1, hb1, e1, e2, hd, mB_inj]
                            (try ((repeat' first | (refine And.intro ?_ ?_) | (intro hc; first | cases hc | ((try rw [hc]); (try simp only [stH] at hc); (try (exfalso; omega)))))
                                  all_goals first | (refine hK _ _ ?_; clear hK K; simp only [St.upd, St.put, List.nil_append, List.cons_append, List.singleton_append, List.append_nil]) | exact hK | omega))))
      (refine Ends.of (nm []) (by first | exact .inl rfl | exact .inr rfl) ?_; simp (disch := omega) only [awl, ev1, evk, evc, gv, e_move, e_pick, e_bin, binW, e_un, e_cnv, e_conv, e_str, e_mark, e_copy, e_extract, e_len, e_mm, e_nil, e_index, e_field, e_load, e_fld, e_cut, e_alloc, e_box, e_make, e_build, e_lit, e_store, e_app, e_call, args, pus, pu, pu1, toDL, toD, toD1, toDs, elems, idsW, idsV, lenV, oint, cutOk, ldV, subD, newD, fillV, cellsV, one1, one0, zD, cD0, scs, St.upd, St.put, St.ev, St.keep, gt, go, tmOf, ofD, dOk, cV, cV0, renM, Value.oneCell', keepL, freshL, vaOL, outB, wkTm, subL, ninL, injL, nm, resW, resL, resV, shift, ren, ren2, ren1, renO, va, va2, va1, vaO, inDom, stA, Int.reduceEq, ↓reduceIte, reduceCtorEq, Nat.reduceEqDiff, Nat.reduceLT, Nat.reduceLeDiff, Nat.reduceAdd, Nat.reduceSub, Nat.reduceMul, Int.reduceToNat, Int.reduceLE, Int.reduceLT, Z5, Sp_super_Unpack, x_bt3, x_fo23_0, x_pt3, x_tk23, x_tk3, x_zc23, hz, sAgg])
  · have e1 := sup_yes h1
    have e2 := sup_no h2
    have hz : chOut a b = ⟨.tup [sAgg a, .d (.v (.int .i64 (sC a))), .d (.v (.int .i64 0)), .d (.v (.bool true))], []⟩ := by rw [chOut, if_neg (fun h => h2 h.1), if_pos h1]
    repeat' first
                    | (refine AW.seq ?_)
                    | (refine AW.block ?_)
                    | (refine AW.regl Z5_ok [0, 1, 4, 5, 6, 7, 8, 9, 10, 34] ?_)
                    | (refine then_n ?_)
                    | (refine then_r ?_)
                    | (refine then_x ?_)
                    | (refine block_x ?_)
                    | (refine block_o (by decide) ?_)
                    | (refine block_n ?_)
                    | (refine block_r ?_)
                    | (refine AW.skip ?_)
                    | (refine AW.ret ?_)
                    | (refine AW.exit ?_)
                    | (refine AW.cond rfl ?_ ?_ <;> (intro hc; first | cases hc | ((try rw [hc]); (try simp only [stH] at hc); (try (exfalso; omega)))))
                    | ((first
                          | (refine awl_none rfl fun K hK => ?_)
                          | (refine awl_nil ?_)
                          | (refine awl_some rfl rfl (Nat.le_of_ble_eq_true rfl) rfl rfl ?_ ?_ <;> (intro hc; first | cases hc | ((try rw [hc]); (try simp only [stH] at hc); (try (exfalso; omega)))) <;> (try intro K hK))
                          | (refine awl_skip rfl rfl (Nat.le_of_ble_eq_true rfl) rfl rfl ?_))
                       all_goals first
                         | (show Awl _ _ _ _ _; simp only [St.upd, St.put, List.nil_append, List.cons_append, List.singleton_append, List.append_nil])
                         | (simp (disch := omega) only [awl, ev1, evk, evc, gv, e_move, e_pick, e_bin, binW, e_un, e_cnv, e_conv, e_str, e_mark, e_copy, e_extract, e_len, e_mm, e_nil, e_index, e_field, e_load, e_fld, e_cut, e_alloc, e_box, e_make, e_build, e_lit, e_store, e_app, e_call, args, pus, pu, pu1, toDL, toD, toD1, toDs, elems, idsW, idsV, lenV, oint, cutOk, ldV, subD, newD, fillV, cellsV, one1, one0, zD, cD0, scs, St.upd, St.put, St.ev, St.keep, gt, go, tmOf, ofD, dOk, cV, cV0, renM, Value.oneCell', keepL, freshL, vaOL, outB, wkTm, subL, ninL, injL, nm, resW, resL, resV, shift, ren, ren2, ren1, renO, va, va2, va1, vaO, inDom, stA, Int.reduceEq, ↓reduceIte, reduceCtorEq, Nat.reduceEqDiff, Nat.reduceLT, Nat.reduceLeDiff, Nat.reduceAdd, Nat.reduceSub, Nat.reduceMul, Int.reduceToNat, Int.reduceLE, Int.reduceLT, Z5, Sp_super_Unpack, x_bt3, x_fo23_0, x_pt3, x_tk23, x_tk3, x_zc23, ha1, hb1, e1, e2, mB_inj]
                            (try ((repeat' first | (refine And.intro ?_ ?_) | (intro hc; first | cases hc | ((try rw [hc]); (try simp only [stH] at hc); (try (exfalso; omega)))))
                                  all_goals first | (refine hK _ _ ?_; clear hK K; simp only [St.upd, St.put, List.nil_append, List.cons_append, List.singleton_append, List.append_nil]) | exact hK | omega))))
    (refine Ends.of (nm []) (by first | exact .inl rfl | exact .inr rfl) ?_; simp (disch := omega) only [awl, ev1, evk, evc, gv, e_move, e_pick, e_bin, binW, e_un, e_cnv, e_conv, e_str, e_mark, e_copy, e_extract, e_len, e_mm, e_nil, e_index, e_field, e_load, e_fld, e_cut, e_alloc, e_box, e_make, e_build, e_lit, e_store, e_app, e_call, args, pus, pu, pu1, toDL, toD, toD1, toDs, elems, idsW, idsV, lenV, oint, cutOk, ldV, subD, newD, fillV, cellsV, one1, one0, zD, cD0, scs, St.upd, St.put, St.ev, St.keep, gt, go, tmOf, ofD, dOk, cV, cV0, renM, Value.oneCell', keepL, freshL, vaOL, outB, wkTm, subL, ninL, injL, nm, resW, resL, resV, shift, ren, ren2, ren1, renO, va, va2, va1, vaO, inDom, stA, Int.reduceEq, ↓reduceIte, reduceCtorEq, Nat.reduceEqDiff, Nat.reduceLT, Nat.reduceLeDiff, Nat.reduceAdd, Nat.reduceSub, Nat.reduceMul, Int.reduceToNat, Int.reduceLE, Int.reduceLT, Z5, Sp_super_Unpack, x_bt3, x_fo23_0, x_pt3, x_tk23, x_tk3, x_zc23, hz, sAgg])
  · have e1 := sup_no h1
    have e2 := sup_yes h2
    have hz : chOut a b = ⟨.tup [sAgg b, .d (.v (.int .i64 (sC b))), .d (.v (.int .i64 1)), .d (.v (.bool true))], []⟩ := by rw [chOut, if_pos ⟨h2, .inl h1⟩]
    repeat' first
                    | (refine AW.seq ?_)
                    | (refine AW.block ?_)
                    | (refine AW.regl Z5_ok [0, 1, 4, 5, 6, 7, 8, 9, 10, 34] ?_)
                    | (refine then_n ?_)
                    | (refine then_r ?_)
                    | (refine then_x ?_)
                    | (refine block_x ?_)
                    | (refine block_o (by decide) ?_)
                    | (refine block_n ?_)
                    | (refine block_r ?_)
                    | (refine AW.skip ?_)
                    | (refine AW.ret ?_)
                    | (refine AW.exit ?_)
                    | (refine AW.cond rfl ?_ ?_ <;> (intro hc; first | cases hc | ((try rw [hc]); (try simp only [stH] at hc); (try (exfalso; omega)))))
                    | ((first
                          | (refine awl_none rfl fun K hK => ?_)
                          | (refine awl_nil ?_)
                          | (refine awl_some rfl rfl (Nat.le_of_ble_eq_true rfl) rfl rfl ?_ ?_ <;> (intro hc; first | cases hc | ((try rw [hc]); (try simp only [stH] at hc); (try (exfalso; omega)))) <;> (try intro K hK))
                          | (refine awl_skip rfl rfl (Nat.le_of_ble_eq_true rfl) rfl rfl ?_))
                       all_goals first
                         | (show Awl _ _ _ _ _; simp only [St.upd, St.put, List.nil_append, List.cons_append, List.singleton_append, List.append_nil])
                         | (simp (disch := omega) only [awl, ev1, evk, evc, gv, e_move, e_pick, e_bin, binW, e_un, e_cnv, e_conv, e_str, e_mark, e_copy, e_extract, e_len, e_mm, e_nil, e_index, e_field, e_load, e_fld, e_cut, e_alloc, e_box, e_make, e_build, e_lit, e_store, e_app, e_call, args, pus, pu, pu1, toDL, toD, toD1, toDs, elems, idsW, idsV, lenV, oint, cutOk, ldV, subD, newD, fillV, cellsV, one1, one0, zD, cD0, scs, St.upd, St.put, St.ev, St.keep, gt, go, tmOf, ofD, dOk, cV, cV0, renM, Value.oneCell', keepL, freshL, vaOL, outB, wkTm, subL, ninL, injL, nm, resW, resL, resV, shift, ren, ren2, ren1, renO, va, va2, va1, vaO, inDom, stA, Int.reduceEq, ↓reduceIte, reduceCtorEq, Nat.reduceEqDiff, Nat.reduceLT, Nat.reduceLeDiff, Nat.reduceAdd, Nat.reduceSub, Nat.reduceMul, Int.reduceToNat, Int.reduceLE, Int.reduceLT, Z5, Sp_super_Unpack, x_bt3, x_fo23_0, x_pt3, x_tk23, x_tk3, x_zc23, ha1, hb1, e1, e2, mB_inj]
                            (try ((repeat' first | (refine And.intro ?_ ?_) | (intro hc; first | cases hc | ((try rw [hc]); (try simp only [stH] at hc); (try (exfalso; omega)))))
                                  all_goals first | (refine hK _ _ ?_; clear hK K; simp only [St.upd, St.put, List.nil_append, List.cons_append, List.singleton_append, List.append_nil]) | exact hK | omega))))
    (refine Ends.of (nm []) (by first | exact .inl rfl | exact .inr rfl) ?_; simp (disch := omega) only [awl, ev1, evk, evc, gv, e_move, e_pick, e_bin, binW, e_un, e_cnv, e_conv, e_str, e_mark, e_copy, e_extract, e_len, e_mm, e_nil, e_index, e_field, e_load, e_fld, e_cut, e_alloc, e_box, e_make, e_build, e_lit, e_store, e_app, e_call, args, pus, pu, pu1, toDL, toD, toD1, toDs, elems, idsW, idsV, lenV, oint, cutOk, ldV, subD, newD, fillV, cellsV, one1, one0, zD, cD0, scs, St.upd, St.put, St.ev, St.keep, gt, go, tmOf, ofD, dOk, cV, cV0, renM, Value.oneCell', keepL, freshL, vaOL, outB, wkTm, subL, ninL, injL, nm, resW, resL, resV, shift, ren, ren2, ren1, renO, va, va2, va1, vaO, inDom, stA, Int.reduceEq, ↓reduceIte, reduceCtorEq, Nat.reduceEqDiff, Nat.reduceLT, Nat.reduceLeDiff, Nat.reduceAdd, Nat.reduceSub, Nat.reduceMul, Int.reduceToNat, Int.reduceLE, Int.reduceLT, Z5, Sp_super_Unpack, x_bt3, x_fo23_0, x_pt3, x_tk23, x_tk3, x_zc23, hz, sAgg])
  · have e1 := sup_no h1
    have e2 := sup_no h2
    have hz : chOut a b = ⟨.tup [.agg [.d (.v (.int .i64 0)), .d (.v (.int .i64 0)), .d (.v (.int .i64 0)), .d (.v (.int .i64 0))], .d (.v (.int .i64 0)), .d (.v (.int .i64 0)), .d (.v (.bool false))], []⟩ := by rw [chOut, if_neg (fun h => h2 h.1), if_neg h1]
    repeat' first
                    | (refine AW.seq ?_)
                    | (refine AW.block ?_)
                    | (refine AW.regl Z5_ok [0, 1, 4, 5, 6, 7, 8, 9, 10, 34] ?_)
                    | (refine then_n ?_)
                    | (refine then_r ?_)
                    | (refine then_x ?_)
                    | (refine block_x ?_)
                    | (refine block_o (by decide) ?_)
                    | (refine block_n ?_)
                    | (refine block_r ?_)
                    | (refine AW.skip ?_)
                    | (refine AW.ret ?_)
                    | (refine AW.exit ?_)
                    | (refine AW.cond rfl ?_ ?_ <;> (intro hc; first | cases hc | ((try rw [hc]); (try simp only [stH] at hc); (try (exfalso; omega)))))
                    | ((first
                          | (refine awl_none rfl fun K hK => ?_)
                          | (refine awl_nil ?_)
                          | (refine awl_some rfl rfl (Nat.le_of_ble_eq_true rfl) rfl rfl ?_ ?_ <;> (intro hc; first | cases hc | ((try rw [hc]); (try simp only [stH] at hc); (try (exfalso; omega)))) <;> (try intro K hK))
                          | (refine awl_skip rfl rfl (Nat.le_of_ble_eq_true rfl) rfl rfl ?_))
                       all_goals first
                         | (show Awl _ _ _ _ _; simp only [St.upd, St.put, List.nil_append, List.cons_append, List.singleton_append, List.append_nil])
                         | (simp (disch := omega) only [awl, ev1, evk, evc, gv, e_move, e_pick, e_bin, binW, e_un, e_cnv, e_conv, e_str, e_mark, e_copy, e_extract, e_len, e_mm, e_nil, e_index, e_field, e_load, e_fld, e_cut, e_alloc, e_box, e_make, e_build, e_lit, e_store, e_app, e_call, args, pus, pu, pu1, toDL, toD, toD1, toDs, elems, idsW, idsV, lenV, oint, cutOk, ldV, subD, newD, fillV, cellsV, one1, one0, zD, cD0, scs, St.upd, St.put, St.ev, St.keep, gt, go, tmOf, ofD, dOk, cV, cV0, renM, Value.oneCell', keepL, freshL, vaOL, outB, wkTm, subL, ninL, injL, nm, resW, resL, resV, shift, ren, ren2, ren1, renO, va, va2, va1, vaO, inDom, stA, Int.reduceEq, ↓reduceIte, reduceCtorEq, Nat.reduceEqDiff, Nat.reduceLT, Nat.reduceLeDiff, Nat.reduceAdd, Nat.reduceSub, Nat.reduceMul, Int.reduceToNat, Int.reduceLE, Int.reduceLT, Z5, Sp_super_Unpack, x_bt3, x_fo23_0, x_pt3, x_tk23, x_tk3, x_zc23, ha1, hb1, e1, e2, mB_inj]
                            (try ((repeat' first | (refine And.intro ?_ ?_) | (intro hc; first | cases hc | ((try rw [hc]); (try simp only [stH] at hc); (try (exfalso; omega)))))
                                  all_goals first | (refine hK _ _ ?_; clear hK K; simp only [St.upd, St.put, List.nil_append, List.cons_append, List.singleton_append, List.append_nil]) | exact hK | omega))))
    (refine Ends.of (nm []) (by first | exact .inl rfl | exact .inr rfl) ?_; simp (disch := omega) only [awl, ev1, evk, evc, gv, e_move, e_pick, e_bin, binW, e_un, e_cnv, e_conv, e_str, e_mark, e_copy, e_extract, e_len, e_mm, e_nil, e_index, e_field, e_load, e_fld, e_cut, e_alloc, e_box, e_make, e_build, e_lit, e_store, e_app, e_call, args, pus, pu, pu1, toDL, toD, toD1, toDs, elems, idsW, idsV, lenV, oint, cutOk, ldV, subD, newD, fillV, cellsV, one1, one0, zD, cD0, scs, St.upd, St.put, St.ev, St.keep, gt, go, tmOf, ofD, dOk, cV, cV0, renM, Value.oneCell', keepL, freshL, vaOL, outB, wkTm, subL, ninL, injL, nm, resW, resL, resV, shift, ren, ren2, ren1, renO, va, va2, va1, vaO, inDom, stA, Int.reduceEq, ↓reduceIte, reduceCtorEq, Nat.reduceEqDiff, Nat.reduceLT, Nat.reduceLeDiff, Nat.reduceAdd, Nat.reduceSub, Nat.reduceMul, Int.reduceToNat, Int.reduceLE, Int.reduceLT, Z5, Sp_super_Unpack, x_bt3, x_fo23_0, x_pt3, x_tk23, x_tk3, x_zc23, hz])
theorem ent_super_Choose : Ent Try.prog 12 := ⟨_, Try.func12, rfl, by decide⟩
theorem within_rng {v n : Int} (hn : 1 ≤ n) : 0 ≤ within v n ∧ within v n < n := by
  unfold within
  rw [if_neg (by omega)]
  have h1 := Int.tmod_lt_of_pos v (show 0 < n by omega)
  have h2 := Int.lt_tmod_of_pos v (show 0 < n by omega)
  split <;> omega
noncomputable def Z6 : Env := ⟨Try.prog, fun f ds out => (f = 10 ∧ Sp_overdubkeep_Within ds out), Es⟩
theorem Z6_sp : ∀ f ds out, Z6.Sp f ds out → Ent Z6.P f ∧ Good Z6.P f (fun a b => a = ds ∧ b = out) := by
  rintro f ds out ⟨rfl, h⟩
  exact ⟨ent_overdubkeep_Within, good_overdubkeep_Within.one h⟩
theorem Z6_ok : Z6.Ok := ⟨Z6_sp, Es_ok⟩
def Sp_overdublaw14_Small (ds : List D) (out : Out) : Prop := ∃ g l d r : Int, ds = [.agg [.v (.int .i64 g), .v (.int .i64 l), .v (.int .i64 d), .v (.int .i64 r)]] ∧ out = ⟨.agg [.d (.v (.int .i64 (1 + within g 9))), .d (.v (.int .i64 (1 + within l 9))), .d (.v (.int .i64 (within d 9))), .d (.v (.int .i64 (within r 90)))], []⟩
def cc_overdublaw14_Small_1 : List (List (Option Bool)) := [[some false, some false, some false, some false, none, none, some false, some false, none, none, some false, none, none, some false, some false, some false], [some true, some false, some false, some false, none, none, some false, some false, none, none, some false, none, none, some false, some false, some false], [some true, some true, some false, some false, none, none, some false, some false, none, none, some false, none, none, some false, some false, some false], [some true, some true, some true, some false, none, none, none, none, none, none, none, none, none, none, some false, some false], [none, none, none, none, some false, some false, some false, some false, none, none, some false, none, none, some false, some false, some false], [none, none, none, none, some true, some false, some false, some false, none, none, some false, none, none, some false, some false, some false], [some true, some true, some true, none, some true, some true, some false, some false, none, none, some false, none, none, some false, some false, some false], [some true, some true, some true, none, some true, some true, some true, some false, none, none, none, none, none, none, some false, some false], [none, none, none, none, none, none, none, none, some false, some false, some false, none, none, some false, some false, some false], [none, none, none, none, none, none, none, none, some true, some false, some false, none, none, some false, some false, some false], [some true, some true, some true, none, some true, some true, some true, none, some true, some true, some false, none, none, some false, some false, some false], [none, none, none, none, none, none, none, none, none, none, none, some false, some false, some false, some false, some false], [none, none, none, none, none, none, none, none, none, none, none, some true, some false, some false, some false, some false], [some true, some true, some true, none, some true, some true, some true, none, some true, some true, some true, some true, some true, some false, some false, some false], [some true, some true, some true, some true, some true, some true, some true, some true, some true, some true, some true, some true, some true, some true, some false, some false], [some true, some true, some true, some true, some true, some true, some true, some true, some true, some true, some true, some true, some true, some true, some true, some false]]
theorem good_overdublaw14_Small : Good Try.prog 9 Sp_overdublaw14_Small := by
  refine good_body (E := Z6) (nt := 18) (rs := #[.cell 2 23]) Try.func9 rfl rfl rfl ?_
  rintro ds out ⟨g, l, d, r, rfl, rfl⟩
  refine ⟨by simp, ?_⟩
  have w1 := within_rng (v := g) (n := 9) (by omega)
  have w2 := within_rng (v := l) (n := 9) (by omega)
  have e1 : IntKind.i64.wrap (1 + within g 9) = 1 + within g 9 := wrap_id _ (by omega) (by omega)
  have e2 : IntKind.i64.wrap (1 + within l 9) = 1 + within l 9 := wrap_id _ (by omega) (by omega)
  repeat' first
                    | (refine AW.seq ?_)
                    | (refine AW.block ?_)
                    | (refine AW.regl Z6_ok [0, 1, 2] ?_)
                    | (refine AW.regc (id := 1) Z6_ok follows [0, 1, 3, 7, 0, 16, 55, 119, 0, 256, 887, 0, 2048, 8055, 16383, 32767] (by kernel_rfl) [0, 1, 2] ?_)
                    | (refine then_n ?_)
                    | (refine then_r ?_)
                    | (refine then_x ?_)
                    | (refine block_x ?_)
                    | (refine block_o (by decide) ?_)
                    | (refine block_n ?_)
                    | (refine block_r ?_)
                    | (refine AW.skip ?_)
                    | (refine AW.ret ?_)
                    | (refine AW.exit ?_)
                    | (refine AW.cond rfl ?_ ?_ <;> (intro hc; first | cases hc | ((try rw [hc]); (try simp only [stH] at hc); (try (exfalso; omega)))))
                    | ((first
                          | (refine awl_none rfl fun K hK => ?_)
                          | (refine awl_nil ?_)
                          | (refine awl_some rfl rfl (Nat.le_of_ble_eq_true rfl) rfl rfl ?_ ?_ <;> (intro hc; first | cases hc | ((try rw [hc]); (try simp only [stH] at hc); (try (exfalso; omega)))) <;> (try intro K hK))
                          | (refine awl_skip rfl rfl (Nat.le_of_ble_eq_true rfl) rfl rfl ?_)
                          | (refine awc_none rfl fun K hK => ?_)
                          | (refine awc_some rfl rfl (Nat.le_of_ble_eq_true rfl) rfl rfl ?_ ?_ <;> (intro hc; first | cases hc | ((try rw [hc]); (try simp only [stH] at hc); (try (exfalso; omega)))) <;> (try intro K hK))
                          | exact each_nil
                          | (refine each_none rfl ?_ ?_ <;> (try intro bb K hK))
                          | (refine awc_leaf [some 3, some 4, some 5, some 6, some 7, some 8, some 9, some 10, some 11, some 12, some 13, some 14, some 15, some 16, some 17, none] cc_overdublaw14_Small_1 rfl (by kernel_rfl) (by kernel_rfl) ?_ ?_))
                       all_goals first
                         | (show Awl _ _ _ _ _; simp only [St.upd, St.put, List.nil_append, List.cons_append, List.singleton_append, List.append_nil])
                         | (show Awc _ _ _ _ _ _; simp only [St.upd, St.put, List.nil_append, List.cons_append, List.singleton_append, List.append_nil])
                         | (show Each _ _ _ _ _ _ _ _; skip)
                         | (simp (disch := omega) only [awl, ev1, evk, evc, gv, e_move, e_pick, e_bin, binW, e_un, e_cnv, e_conv, e_str, e_mark, e_copy, e_extract, e_len, e_mm, e_nil, e_index, e_field, e_load, e_fld, e_cut, e_alloc, e_box, e_make, e_build, e_lit, e_store, e_app, e_call, args, pus, pu, pu1, toDL, toD, toD1, toDs, elems, idsW, idsV, lenV, oint, cutOk, ldV, subD, newD, fillV, cellsV, one1, one0, zD, cD0, scs, St.upd, St.put, St.ev, St.keep, gt, go, tmOf, ofD, dOk, cV, cV0, renM, Value.oneCell', keepL, freshL, vaOL, outB, wkTm, subL, ninL, injL, nm, resW, resL, resV, shift, ren, ren2, ren1, renO, va, va2, va1, vaO, inDom, stA, Int.reduceEq, ↓reduceIte, reduceCtorEq, Nat.reduceEqDiff, Nat.reduceLT, Nat.reduceLeDiff, Nat.reduceAdd, Nat.reduceSub, Nat.reduceMul, Int.reduceToNat, Int.reduceLE, Int.reduceLT, Z6, Sp_overdubkeep_Within, x_bt3, x_fo23_0, x_fo23_1, x_fo23_2, x_fo23_3, x_pl23, x_pt3, x_tk23, x_tk3, x_zc23, e1, e2, Sg3, St.updIf, ifc_nil, gt_ifc, go_ifc, ite_self, Option.none_or, Option.some_or]
                            (try ((repeat' first | (refine And.intro ?_ ?_) | (intro hc; first | cases hc | ((try rw [hc]); (try simp only [stH] at hc); (try (exfalso; omega)))))
                                  all_goals first | (refine hK _ _ ?_; clear hK K; simp only [St.upd, St.put, List.nil_append, List.cons_append, List.singleton_append, List.append_nil]) | exact hK | omega))))
  (refine Ends.of (nm []) (by first | exact .inl rfl | exact .inr rfl) ?_; simp (disch := omega) only [awl, ev1, evk, evc, gv, e_move, e_pick, e_bin, binW, e_un, e_cnv, e_conv, e_str, e_mark, e_copy, e_extract, e_len, e_mm, e_nil, e_index, e_field, e_load, e_fld, e_cut, e_alloc, e_box, e_make, e_build, e_lit, e_store, e_app, e_call, args, pus, pu, pu1, toDL, toD, toD1, toDs, elems, idsW, idsV, lenV, oint, cutOk, ldV, subD, newD, fillV, cellsV, one1, one0, zD, cD0, scs, St.upd, St.put, St.ev, St.keep, gt, go, tmOf, ofD, dOk, cV, cV0, renM, Value.oneCell', keepL, freshL, vaOL, outB, wkTm, subL, ninL, injL, nm, resW, resL, resV, shift, ren, ren2, ren1, renO, va, va2, va1, vaO, inDom, stA, Int.reduceEq, ↓reduceIte, reduceCtorEq, Nat.reduceEqDiff, Nat.reduceLT, Nat.reduceLeDiff, Nat.reduceAdd, Nat.reduceSub, Nat.reduceMul, Int.reduceToNat, Int.reduceLE, Int.reduceLT, Z6, Sp_overdubkeep_Within, x_bt3, x_fo23_0, x_fo23_1, x_fo23_2, x_fo23_3, x_pl23, x_pt3, x_tk23, x_tk3, x_zc23])
theorem ent_overdublaw14_Small : Ent Try.prog 9 := ⟨_, Try.func9, rfl, by decide⟩
def Sp_super_Next (ds : List D) (out : Out) : Prop := ∃ g l d r : Int, ds = [.agg [.v (.int .i64 g), .v (.int .i64 l), .v (.int .i64 d), .v (.int .i64 r)]] ∧ out = ⟨.d (.v (.int .i64 (max 0 g % 2))), []⟩
theorem good_super_Next : Good Try.prog 18 Sp_super_Next := by
  refine good_body (E := E0) (nt := 7) (rs := #[.tmp 2]) Try.func18 rfl rfl rfl ?_
  rintro ds out ⟨g, l, d, r, rfl, rfl⟩
  refine ⟨by simp, ?_⟩
  have e1 : (max 0 g).tmod 2 = max 0 g % 2 := Int.tmod_eq_emod_of_nonneg (by omega)
  repeat' first
                    | (refine AW.seq ?_)
                    | (refine AW.block ?_)
                    | (refine AW.regl E0_ok [0, 1, 2] ?_)
                    | (refine then_n ?_)
                    | (refine then_r ?_)
                    | (refine then_x ?_)
                    | (refine block_x ?_)
                    | (refine block_o (by decide) ?_)
                    | (refine block_n ?_)
                    | (refine block_r ?_)
                    | (refine AW.skip ?_)
                    | (refine AW.ret ?_)
                    | (refine AW.exit ?_)
                    | (refine AW.cond rfl ?_ ?_ <;> (intro hc; first | cases hc | ((try rw [hc]); (try simp only [stH] at hc); (try (exfalso; omega)))))
                    | ((first
                          | (refine awl_none rfl fun K hK => ?_)
                          | (refine awl_nil ?_)
                          | (refine awl_some rfl rfl (Nat.le_of_ble_eq_true rfl) rfl rfl ?_ ?_ <;> (intro hc; first | cases hc | ((try rw [hc]); (try simp only [stH] at hc); (try (exfalso; omega)))) <;> (try intro K hK))
                          | (refine awl_skip rfl rfl (Nat.le_of_ble_eq_true rfl) rfl rfl ?_))
                       all_goals first
                         | (show Awl _ _ _ _ _; simp only [St.upd, St.put, List.nil_append, List.cons_append, List.singleton_append, List.append_nil])
                         | (simp (disch := omega) only [awl, ev1, evk, evc, gv, e_move, e_pick, e_bin, binW, e_un, e_cnv, e_conv, e_str, e_mark, e_copy, e_extract, e_len, e_mm, e_nil, e_index, e_field, e_load, e_fld, e_cut, e_alloc, e_box, e_make, e_build, e_lit, e_store, e_app, e_call, args, pus, pu, pu1, toDL, toD, toD1, toDs, elems, idsW, idsV, lenV, oint, cutOk, ldV, subD, newD, fillV, cellsV, one1, one0, zD, cD0, scs, St.upd, St.put, St.ev, St.keep, gt, go, tmOf, ofD, dOk, cV, cV0, renM, Value.oneCell', keepL, freshL, vaOL, outB, wkTm, subL, ninL, injL, nm, resW, resL, resV, shift, ren, ren2, ren1, renO, va, va2, va1, vaO, inDom, stA, Int.reduceEq, ↓reduceIte, reduceCtorEq, Nat.reduceEqDiff, Nat.reduceLT, Nat.reduceLeDiff, Nat.reduceAdd, Nat.reduceSub, Nat.reduceMul, Int.reduceToNat, Int.reduceLE, Int.reduceLT, E0, x_bt3, x_fo23_0, x_pt3, x_tk23, x_tk3, e1]
                            (try ((repeat' first | (refine And.intro ?_ ?_) | (intro hc; first | cases hc | ((try rw [hc]); (try simp only [stH] at hc); (try (exfalso; omega)))))
                                  all_goals first | (refine hK _ _ ?_; clear hK K; simp only [St.upd, St.put, List.nil_append, List.cons_append, List.singleton_append, List.append_nil]) | exact hK | omega))))
  (refine Ends.of (nm []) (by first | exact .inl rfl | exact .inr rfl) ?_; simp (disch := omega) only [awl, ev1, evk, evc, gv, e_move, e_pick, e_bin, binW, e_un, e_cnv, e_conv, e_str, e_mark, e_copy, e_extract, e_len, e_mm, e_nil, e_index, e_field, e_load, e_fld, e_cut, e_alloc, e_box, e_make, e_build, e_lit, e_store, e_app, e_call, args, pus, pu, pu1, toDL, toD, toD1, toDs, elems, idsW, idsV, lenV, oint, cutOk, ldV, subD, newD, fillV, cellsV, one1, one0, zD, cD0, scs, St.upd, St.put, St.ev, St.keep, gt, go, tmOf, ofD, dOk, cV, cV0, renM, Value.oneCell', keepL, freshL, vaOL, outB, wkTm, subL, ninL, injL, nm, resW, resL, resV, shift, ren, ren2, ren1, renO, va, va2, va1, vaO, inDom, stA, Int.reduceEq, ↓reduceIte, reduceCtorEq, Nat.reduceEqDiff, Nat.reduceLT, Nat.reduceLeDiff, Nat.reduceAdd, Nat.reduceSub, Nat.reduceMul, Int.reduceToNat, Int.reduceLE, Int.reduceLT, E0, x_bt3, x_fo23_0, x_pt3, x_tk23, x_tk3])
theorem ent_super_Next : Ent Try.prog 18 := ⟨_, Try.func18, rfl, by decide⟩
noncomputable def Z7 : Env := ⟨Try.prog, fun f ds out => (f = 12 ∧ Sp_super_Choose ds out) ∨ (f = 15 ∧ Sp_super_Pack ds out), Es⟩
theorem Z7_sp : ∀ f ds out, Z7.Sp f ds out → Ent Z7.P f ∧ Good Z7.P f (fun a b => a = ds ∧ b = out) := by
  rintro f ds out (⟨rfl, h⟩ | ⟨rfl, h⟩)
  · exact ⟨ent_super_Choose, good_super_Choose.one h⟩
  · exact ⟨ent_super_Pack, good_super_Pack.one h⟩
theorem Z7_ok : Z7.Ok := ⟨Z7_sp, Es_ok⟩
theorem sOk_zeros (n : Nat) : ¬ sOk (List.replicate n 0) := by
  intro h
  have h1 := h.2.1.1
  have e : sG (List.replicate n 0) = 0 := by
    unfold sG sM
    rw [List.take_replicate, List.drop_replicate, List.take_replicate]
    generalize min 4 (min 124 n - 8) = k
    induction k with
    | zero => rfl
    | succ k ih => rw [List.replicate_succ, leV, ih]; rfl
  rw [e] at h1
  omega
theorem ch_zeros (n m : Nat) : chOut (List.replicate n 0) (List.replicate m 0) = ⟨.tup [.agg [.d (.v (.int .i64 0)), .d (.v (.int .i64 0)), .d (.v (.int .i64 0)), .d (.v (.int .i64 0))], .d (.v (.int .i64 0)), .d (.v (.int .i64 0)), .d (.v (.bool false))], []⟩ := by
  rw [chOut, if_neg (fun h => sOk_zeros _ h.1), if_neg (sOk_zeros _)]
def Sp_overdublaw14_wakes (ds : List D) (out : Out) : Prop := ds = [] ∧ out = ⟨.d (.v (.bool true)), []⟩
def cc_overdublaw14_wakes_1 : List (List (Option Bool)) := [[some false, none, some false, some false, some false, some false, some false, some false, none, some false, some false, some false, some false], [none, some false, some false, some false, some false, some false, some false, some false, none, some false, some false, some false, some false], [some true, some true, some false, some false, some false, some false, some false, some false, none, some false, some false, some false, some false], [some true, some true, some true, some false, some false, some false, some false, some false, none, some false, some false, some false, some false], [some true, some true, some true, some true, some false, none, none, none, none, some false, some false, some false, some false], [some true, some true, some true, some true, none, some false, none, none, none, none, some false, some false, some false], [some true, some true, some true, some true, none, none, some false, none, none, none, none, some false, some false], [some true, some true, some true, some true, none, none, none, some false, none, none, none, none, some false], [none, none, none, none, none, none, none, none, some false, some false, some false, some false, some false], [some true, some true, some true, some true, some true, none, none, none, some true, some false, some false, some false, some false], [some true, some true, some true, some true, some true, some true, none, none, some true, some true, some false, some false, some false], [some true, some true, some true, some true, some true, some true, some true, none, some true, some true, some true, some false, some false], [some true, some true, some true, some true, some true, some true, some true, some true, some true, some true, some true, some true, some false]]
theorem good_overdublaw14_wakes : Good Try.prog 14 Sp_overdublaw14_wakes := by
  refine good_body (E := Z7) (nt := 21) (rs := #[.tmp 0]) Try.func14 rfl rfl rfl ?_
  rintro ds out ⟨rfl, rfl⟩
  refine ⟨by simp, ?_⟩
  have hb : Byt (List.replicate 128 0) = True := eq_true (byt_replicate _)
  have ht : ((List.replicate 128 (0 : Int)).map mB).take 128 = (List.replicate 128 0).map mB := List.take_of_length_le (by simp)
  have hr : List.replicate 128 (D.v (.int .u8 0)) = (List.replicate 128 (0 : Int)).map mB := by rw [List.map_replicate]; rfl
  repeat' first
                    | (refine AW.seq ?_)
                    | (refine AW.block ?_)
                    | (refine AW.regl Z7_ok [0, 4] ?_)
                    | (refine AW.regc (id := 1) Z7_ok follows [0, 0, 3, 7, 15, 15, 15, 15, 0, 287, 831, 1919, 4095] (by kernel_rfl) [0, 4] ?_)
                    | (refine then_n ?_)
                    | (refine then_r ?_)
                    | (refine then_x ?_)
                    | (refine block_x ?_)
                    | (refine block_o (by decide) ?_)
                    | (refine block_n ?_)
                    | (refine block_r ?_)
                    | (refine AW.skip ?_)
                    | (refine AW.ret ?_)
                    | (refine AW.exit ?_)
                    | (refine AW.cond rfl ?_ ?_ <;> (intro hc; first | cases hc | ((try rw [hc]); (try simp only [stH] at hc); (try (exfalso; omega)))))
                    | ((first
                          | (refine awl_none rfl fun K hK => ?_)
                          | (refine awl_nil ?_)
                          | (refine awl_some rfl rfl (Nat.le_of_ble_eq_true rfl) rfl rfl ?_ ?_ <;> (intro hc; first | cases hc | ((try rw [hc]); (try simp only [stH] at hc); (try (exfalso; omega)))) <;> (try intro K hK))
                          | (refine awl_skip rfl rfl (Nat.le_of_ble_eq_true rfl) rfl rfl ?_)
                          | (refine awc_none rfl fun K hK => ?_)
                          | (refine awc_some rfl rfl (Nat.le_of_ble_eq_true rfl) rfl rfl ?_ ?_ <;> (intro hc; first | cases hc | ((try rw [hc]); (try simp only [stH] at hc); (try (exfalso; omega)))) <;> (try intro K hK))
                          | exact each_nil
                          | (refine each_none rfl ?_ ?_ <;> (try intro bb K hK))
                          | (refine awc_leaf [some 6, some 7, some 8, some 5, some 9, some 10, some 11, some 12, some 1, none, some 2, some 3, some 4] cc_overdublaw14_wakes_1 rfl (by kernel_rfl) (by kernel_rfl) ?_ ?_))
                       all_goals first
                         | (show Awl _ _ _ _ _; simp only [St.upd, St.put, List.nil_append, List.cons_append, List.singleton_append, List.append_nil])
                         | (show Awc _ _ _ _ _ _; simp only [St.upd, St.put, List.nil_append, List.cons_append, List.singleton_append, List.append_nil])
                         | (show Each _ _ _ _ _ _ _ _; skip)
                         | (simp (disch := omega) only [awl, ev1, evk, evc, gv, e_move, e_pick, e_bin, binW, e_un, e_cnv, e_conv, e_str, e_mark, e_copy, e_extract, e_len, e_mm, e_nil, e_index, e_field, e_load, e_fld, e_cut, e_alloc, e_box, e_make, e_build, e_lit, e_store, e_app, e_call, args, pus, pu, pu1, toDL, toD, toD1, toDs, elems, idsW, idsV, lenV, oint, cutOk, ldV, subD, newD, fillV, cellsV, one1, one0, zD, cD0, scs, St.upd, St.put, St.ev, St.keep, gt, go, tmOf, ofD, dOk, cV, cV0, renM, Value.oneCell', keepL, freshL, vaOL, outB, wkTm, subL, ninL, injL, nm, resW, resL, resV, shift, ren, ren2, ren1, renO, va, va2, va1, vaO, inDom, stA, Int.reduceEq, ↓reduceIte, reduceCtorEq, Nat.reduceEqDiff, Nat.reduceLT, Nat.reduceLeDiff, Nat.reduceAdd, Nat.reduceSub, Nat.reduceMul, Int.reduceToNat, Int.reduceLE, Int.reduceLT, Z7, Sp_super_Choose, Sp_super_Pack, x_bt3, x_el24, x_pl23, x_pt3, x_slt24, x_tk23, x_tk5, x_zc23, x_zc5, hr, hb, ht, ch_zeros, mB_inj, List.length_replicate, Sg3, St.updIf, ifc_nil, gt_ifc, go_ifc, ite_self, Option.none_or, Option.some_or]
                            (try ((repeat' first | (refine And.intro ?_ ?_) | (intro hc; first | cases hc | ((try rw [hc]); (try simp only [stH] at hc); (try (exfalso; omega)))))
                                  all_goals first | (refine hK _ _ ?_; clear hK K; simp only [St.upd, St.put, List.nil_append, List.cons_append, List.singleton_append, List.append_nil]) | exact hK | omega))))
  (refine Ends.of (nm []) (by first | exact .inl rfl | exact .inr rfl) ?_; simp (disch := omega) only [awl, ev1, evk, evc, gv, e_move, e_pick, e_bin, binW, e_un, e_cnv, e_conv, e_str, e_mark, e_copy, e_extract, e_len, e_mm, e_nil, e_index, e_field, e_load, e_fld, e_cut, e_alloc, e_box, e_make, e_build, e_lit, e_store, e_app, e_call, args, pus, pu, pu1, toDL, toD, toD1, toDs, elems, idsW, idsV, lenV, oint, cutOk, ldV, subD, newD, fillV, cellsV, one1, one0, zD, cD0, scs, St.upd, St.put, St.ev, St.keep, gt, go, tmOf, ofD, dOk, cV, cV0, renM, Value.oneCell', keepL, freshL, vaOL, outB, wkTm, subL, ninL, injL, nm, resW, resL, resV, shift, ren, ren2, ren1, renO, va, va2, va1, vaO, inDom, stA, Int.reduceEq, ↓reduceIte, reduceCtorEq, Nat.reduceEqDiff, Nat.reduceLT, Nat.reduceLeDiff, Nat.reduceAdd, Nat.reduceSub, Nat.reduceMul, Int.reduceToNat, Int.reduceLE, Int.reduceLT, Z7, Sp_super_Choose, Sp_super_Pack, x_bt3, x_el24, x_pl23, x_pt3, x_slt24, x_tk23, x_tk5, x_zc23, x_zc5])
theorem ent_overdublaw14_wakes : Ent Try.prog 14 := ⟨_, Try.func14, rfl, by decide⟩
end Go.Proofs.Ytceoegbljkbgeaa.Am
