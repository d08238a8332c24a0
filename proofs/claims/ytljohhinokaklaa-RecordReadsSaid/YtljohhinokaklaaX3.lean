/- The law RecordReads: what it comes to. -/
import Derived.Test.YtljohhinokaklaaX2
import Derived.Test.YtljohhinokaklaaR4
set_option linter.unusedVariables false
set_option linter.unusedSimpArgs false
set_option maxRecDepth 10000
set_option maxHeartbeats 0
namespace Go.Proofs.Ytljohhinokaklaa.Am
open Go Go.RowKit Go.Proofs

theorem xor_u8 (x y : Int) : 0 ≤ bits .xor .u8 x y ∧ bits .xor .u8 x y < 256 := by
  unfold bits
  simp only [wrap_u8]
  omega
theorem byt_set {l : List Int} (h : Byt l) (i : Nat) {x : Int} (hx : 0 ≤ x ∧ x < 256) : Byt (l.set i x) := fun y hy => by
  rcases List.mem_or_eq_of_mem_set hy with hy | rfl
  · exact h y hy
  · exact hx
noncomputable def ER : Env := ⟨Try.prog, fun f ds out => (f = 4 ∧ Sp_overdubkeep_Cut_byte ds out) ∨ (f = 6 ∧ Sp_overdublaw16_Right ds out) ∨ (f = 5 ∧ Sp_overdubref14_PackRecord ds out) ∨ (f = 7 ∧ Sp_overdubkeep_Within ds out) ∨ (f = 8 ∧ Sp_record_Unpack ds out) ∨ (f = 9 ∧ Sp_overdubref14_UnpackRecord ds out) ∨ (f = 10 ∧ Sp_overdubkeep_Cut_api_Extent ds out) ∨ (f = 11 ∧ Sp_record_TakeExtents ds out) ∨ (f = 12 ∧ Sp_overdubref14_TakeExtents ds out) ∨ (f = 13 ∧ Sp_overdubkeep_Record ds out) ∨ (f = 15 ∧ Sp_record_Extents ds out) ∨ (f = 16 ∧ Sp_overdubref14_Extents ds out) ∨ (f = 14 ∧ Sp_overdubkeep_Same_byte ds out) ∨ (f = 17 ∧ Sp_overdubkeep_Same_api_Extent ds out) ∨ (f = 18 ∧ Sp_overdublaw16_wakes ds out), Es⟩
theorem ER_sp : ∀ f ds out, ER.Sp f ds out → Ent ER.P f ∧ Good ER.P f (fun a b => a = ds ∧ b = out) := by
  rintro f ds out (⟨rfl, h⟩ | ⟨rfl, h⟩ | ⟨rfl, h⟩ | ⟨rfl, h⟩ | ⟨rfl, h⟩ | ⟨rfl, h⟩ | ⟨rfl, h⟩ | ⟨rfl, h⟩ | ⟨rfl, h⟩ | ⟨rfl, h⟩ | ⟨rfl, h⟩ | ⟨rfl, h⟩ | ⟨rfl, h⟩ | ⟨rfl, h⟩ | ⟨rfl, h⟩)
  · exact ⟨ent_overdubkeep_Cut_byte, good_overdubkeep_Cut_byte.one h⟩
  · exact ⟨ent_overdublaw16_Right, good_overdublaw16_Right.one h⟩
  · exact ⟨ent_overdubref14_PackRecord, good_overdubref14_PackRecord.one h⟩
  · exact ⟨ent_overdubkeep_Within, good_overdubkeep_Within.one h⟩
  · exact ⟨ent_record_Unpack, good_record_Unpack.one h⟩
  · exact ⟨ent_overdubref14_UnpackRecord, good_overdubref14_UnpackRecord.one h⟩
  · exact ⟨ent_overdubkeep_Cut_api_Extent, good_overdubkeep_Cut_api_Extent.one h⟩
  · exact ⟨ent_record_TakeExtents, good_record_TakeExtents.one h⟩
  · exact ⟨ent_overdubref14_TakeExtents, good_overdubref14_TakeExtents.one h⟩
  · exact ⟨ent_overdubkeep_Record, good_overdubkeep_Record.one h⟩
  · exact ⟨ent_record_Extents, good_record_Extents.one h⟩
  · exact ⟨ent_overdubref14_Extents, good_overdubref14_Extents.one h⟩
  · exact ⟨ent_overdubkeep_Same_byte, good_overdubkeep_Same_byte.one h⟩
  · exact ⟨ent_overdubkeep_Same_api_Extent, good_overdubkeep_Same_api_Extent.one h⟩
  · exact ⟨ent_overdublaw16_wakes, good_overdublaw16_wakes.one h⟩
theorem ER_ok : ER.Ok := ⟨ER_sp, Es_ok⟩
theorem un_cases (b : List Int) : unOut b = ⟨.tup [.agg [.d (.v (.int .i64 0)), .d (.v (.int .i64 0)), .d (.v (.int .i64 0)), .d (.v (.int .i64 0)), .nil], .d (.v (.bool false))], []⟩ ∨
    unOut b = ⟨.tup [.agg [.d (.v (.int .i64 (hdK b))), .d (.v (.int .i64 (hdT b))), .d (.v (.int .i64 (hdA b))), .d (.v (.int .i64 (hdB b))), .sl 0 5 0 (unL b).length true], .d (.v (.bool true))], [(0, .row 35 5 ((unL b).map eD))]⟩ := by
  unfold unOut
  split
  · exact .inr rfl
  · exact .inl rfl
theorem tex_cases (b : List Int) (n : Int) : texOut b n = ⟨.tup [.nil, .d (.v (.bool false))], []⟩ ∨ texOut b n = ⟨.tup [.sl 0 5 0 (takeE b n.toNat).length true, .d (.v (.bool true))], [(0, .row 35 5 ((takeE b n.toNat).map eD))]⟩ := by
  unfold texOut
  split
  · exact .inl rfl
  · exact .inr rfl
theorem hdN_rng (b : List Int) (hb : Byt b) : 0 ≤ hdN b ∧ hdN b < 65536 := leV_two (byt_drop hb 6)
def Sp_overdublaw16_RecordReads (ds : List D) (out : Out) : Prop := ∃ (bl : List Int) (k t a b : Int) (l : List Xt) (wh : Bool) (at' c : Int) (es : List Xt) (n : Int), ds = [.list (bl.map mB), .agg [.v (.int .i64 k), .v (.int .i64 t), .v (.int .i64 a), .v (.int .i64 b), .list (l.map eD)], .v (.bool wh), .v (.int .i64 at'), .v (.int .u8 c), .list (es.map eD), .v (.int .i64 n)] ∧
  Byt bl ∧ bl.length ≤ 9223372036854775807 ∧ l.length ≤ 9223372036854775807 ∧ (∀ e ∈ l, numE e) ∧ es.length ≤ 9223372036854775807 ∧ (∀ e ∈ es, numE e) ∧ out = ⟨.d (.v (.bool true)), []⟩
theorem good_overdublaw16_RecordReads : Good Try.prog 3 Sp_overdublaw16_RecordReads := by
  refine good_body (E := ER) (nt := 97) (rs := #[.tmp 14]) Try.func3 rfl rfl rfl ?_
  rintro ds out ⟨bl, k, t, a, b, l, wh, at', c, es, n, rfl, hbb, hbl, hl, hn, hel, hen, rfl⟩
  refine ⟨by simp, ?_⟩
  have hq : (∀ e ∈ l, numE e) = True := by simp only [eq_iff_iff, iff_true]; exact hn
  have hqe : (∀ e ∈ es.take 10, numE e) = True := by simp only [eq_iff_iff, iff_true]; exact fun e he => hen e (List.mem_of_mem_take he)
  have hle : (es.take 10).length ≤ 10 := by rw [List.length_take]; omega
  have hwn := within_rng (v := n) (n := 14) (by omega)
  have hln := within_rng (v := k) (n := 5) (by omega)
  generalize hes : es.take 10 = e10 at *
  have hxe := exsB_length e10
  have hte : ((exsB e10).map mB).take (exsB e10).length = (exsB e10).map mB := List.take_of_length_le (by simp)
  have hde : decide (exsB e10 = exsB e10) = true := decide_eq_true rfl
  have hdt : ∀ m : List Xt, decide (m = m) = true := fun m => decide_eq_true rfl
  have te : ∀ m : List Xt, (m.map eD).take m.length = m.map eD := fun m => List.take_of_length_le (by simp)
  have tb : ∀ m : List Int, (m.map mB).take m.length = m.map mB := fun m => List.take_of_length_le (by simp)
  obtain ⟨n', hn'⟩ : ∃ n', within n 14 = n' := ⟨_, rfl⟩
  rw [hn'] at hwn
  have finish : ∀ (m : List Int), Byt m → m.length ≤ 10000 → (Byt m) = True ∧ (unL m).length ≤ 65536 ∧ (takeE m (n' - 2).toNat).length ≤ 16 := fun m hm hml => ⟨by simp only [eq_iff_iff, iff_true]; exact hm, by have := hdN_rng m hm; unfold unL; rw [takeE_length]; omega, by rw [takeE_length]; omega⟩
  cases wh
  · have hmb : Byt (bl.take 200) := byt_take hbb 200
    have hml : (bl.take 200).length ≤ 200 := by rw [List.length_take]; omega
    generalize hm : bl.take 200 = m at *
    obtain ⟨hbt, hu1, hu2⟩ := finish m hmb (by omega)
    clear hbb hen hn
    rcases un_cases m with hun | hun <;> rcases tex_cases m (n' - 2) with htx | htx
    all_goals
      repeat' first
                    | (refine AW.seq ?_)
                    | (refine AW.block ?_)
                    | (refine AW.regl ER_ok [0, 1, 2, 3, 4, 5, 6, 8, 14, 15, 16, 17, 18, 19, 20, 21, 22, 25] ?_)
                    | (refine then_n ?_)
                    | (refine then_r ?_)
                    | (refine then_x ?_)
                    | (refine block_x ?_)
                    | (refine block_o (by decide) ?_)
                    | (refine block_n ?_)
                    | (refine block_r ?_)
                    | (refine AW.skip ?_)
                    | (refine AW.ret ?_)
                    | (refine AW.exit ?_)
                    | (refine AW.cond rfl ?_ ?_ <;> (intro hc; first | cases hc | ((try rw [hc]); (try simp only [not_true_eq_false, not_false_eq_true, decide_true, decide_false, Decidable.not_not, Bool.not_true, Bool.not_false, decide_eq_true_eq, decide_eq_false_iff_not, Bool.not_eq_true', Bool.not_eq_false', Bool.not_eq_true, Bool.not_eq_false, Bool.and_eq_true, Bool.or_eq_true, Bool.false_eq_true, Bool.true_eq_false, Int.not_lt, Int.not_le] at hc); (try (exfalso; omega)))))
                    | ((first
                          | (refine awl_none rfl fun K hK => ?_)
                          | (refine awl_nil ?_)
                          | (refine awl_some rfl rfl (Nat.le_of_ble_eq_true rfl) rfl rfl ?_ ?_ <;> (intro hc; first | cases hc | ((try rw [hc]); (try simp only [not_true_eq_false, not_false_eq_true, decide_true, decide_false, Decidable.not_not, Bool.not_true, Bool.not_false, decide_eq_true_eq, decide_eq_false_iff_not, Bool.not_eq_true', Bool.not_eq_false', Bool.not_eq_true, Bool.not_eq_false, Bool.and_eq_true, Bool.or_eq_true, Bool.false_eq_true, Bool.true_eq_false, Int.not_lt, Int.not_le] at hc); (try (exfalso; omega)))) <;> (try intro K hK)))
                       all_goals first
                         | (show Awl _ _ _ _ _; simp only [St.upd, St.put, List.nil_append, List.cons_append, List.singleton_append, List.append_nil])
                         | (simp (disch := omega) only [awl, ev1, evk, evc, gv, e_move, e_pick, e_bin, binW, e_un, e_cnv, e_conv, e_str, e_mark, e_copy, byL_B, byL_nil, e_extract, e_len, e_mm, e_nil, e_index, e_field, e_load, e_fld, e_cut, e_alloc, e_box, e_make, e_build, e_lit, e_store, e_app, e_call, args, pus, pu, pu1, toDL, toD, toD1, toDs, if_le, bb_tt, bb_ff, bb_tf, bb_ft, elems, idsW, idsV, lenV, oint, cutOk, ldV, subD, newD, fillV, cellsV, one1, one0, zD, cD0, b_add, b_sub, b_mul, b_quo, b_rem, b_and, b_or, b_xor, b_eql, b_neq, b_lss, b_leq, b_gtr, b_geq, b_shr_u64, b_shl_u64, b_shr_i64, b_shl_i64, b_shr_u32, b_shl_u32, b_shr_u8, b_shl_u8, scs, St.upd, St.put, St.ev, St.keep, gt, go, tmOf, ofD, dOk, cV, cV0, renM, Value.oneCell', keepL, freshL, vaOL, outB, wkTm, subL, ninL, injL, nm, resW, resL, resV, shift, ren, ren2, ren1, renO, va, va2, va1, vaO, inDom, agg_cells, ref_cells, v_cells, mB_cells, mI_cells, bys_cells, list_cells, nth_B, nth_I, all_B, all_I, sc_B, sc_I, sc_v, set_B, set_I, tt_eq, wrap_id, Int.cast_ofNat_Int, Int.reduceEq, decide_true, decide_false, not_true_eq_false, Nat.le_refl, Int.le_refl, List.size_toArray, false_and, and_false, and_assoc, List.map_cons, List.map_nil, List.nil_append, List.cons_append, List.singleton_append, List.append_nil, List.length_cons, List.length_nil, List.length_map, List.length_append, List.flatMap_cons, List.flatMap_nil, List.take_zero, List.drop_zero, List.take_succ_cons, List.drop_succ_cons, List.take_nil, List.drop_nil, List.head?_cons, List.all_cons, List.all_nil, List.getElem?_cons_zero, List.getElem?_cons_succ, List.getElem?_nil, List.mem_cons, List.not_mem_nil, forall_eq_or_imp, forall_eq, Option.getD_some, Option.getD_none, Option.map_some, Option.map_none, Option.isNone_some, Option.isNone_none, Option.isSome_some, Option.isSome_none, ↓reduceIte, ite_true, ite_false, if_true, if_false, true_and, and_true, and_self, false_or, or_false, or_true, true_or, implies_true, forall_const, false_implies, not_false_eq_true, Bool.and_true, Bool.true_and, Bool.and_false, Bool.false_and, Bool.not_true, Bool.not_false, Bool.false_eq_true, Bool.true_eq_false, reduceCtorEq, Nat.reduceEqDiff, Nat.reduceLT, Nat.reduceLeDiff, Nat.reduceAdd, Nat.reduceSub, Nat.reduceMul, Int.toNat_natCast, Int.toNat_zero, Nat.zero_add, Nat.add_zero, Nat.sub_zero, Int.reduceToNat, Int.reduceLE, Int.reduceLT, Int.natCast_nonneg, ne_eq, exists_eq_left, exists_eq_left', exists_eq, exists_and_left, exists_and_right, Option.some.injEq, Prod.mk.injEq, List.cons.injEq, D.v.injEq, D.list.injEq, D.agg.injEq, mB_inj, mI_inj, Value.int.injEq, Value.bool.injEq, decide_eq_true_eq, decide_eq_false_iff_not, Bool.not_eq_true', Bool.not_eq_false', ER, Sp_overdubkeep_Cut_byte, Sp_overdublaw16_Right, Sp_overdubref14_PackRecord, Sp_overdubkeep_Within, Sp_record_Unpack, Sp_overdubref14_UnpackRecord, Sp_overdubkeep_Cut_api_Extent, Sp_record_TakeExtents, Sp_overdubref14_TakeExtents, Sp_overdubkeep_Record, Sp_record_Extents, Sp_overdubref14_Extents, Sp_overdubkeep_Same_byte, Sp_overdubkeep_Same_api_Extent, Sp_overdublaw16_wakes, x_ar22, x_bt3, x_bt4, x_bt5, x_el22, x_pt3, x_pt4, x_pt5, x_slt22, x_tk25, x_tk5, x_zc25, hn', hq, hqe, hes, hm, hbt, hun, htx, hle, te, tb, hde, hdt, hte, eD_inj, mB_inj, nil_E, sc_E, sc_B, sameR_self]
                            (try ((repeat' first | (refine And.intro ?_ ?_) | (intro hc; first | cases hc | ((try rw [hc]); (try simp only [not_true_eq_false, not_false_eq_true, decide_true, decide_false, Decidable.not_not, Bool.not_true, Bool.not_false, decide_eq_true_eq, decide_eq_false_iff_not, Bool.not_eq_true', Bool.not_eq_false', Bool.not_eq_true, Bool.not_eq_false, Bool.and_eq_true, Bool.or_eq_true, Bool.false_eq_true, Bool.true_eq_false, Int.not_lt, Int.not_le] at hc); (try (exfalso; omega)))))
                                  all_goals first | (refine hK _ _ ?_; clear hK K; simp only [St.upd, St.put, List.nil_append, List.cons_append, List.singleton_append, List.append_nil]) | exact hK | omega))))
      all_goals (refine Ends.of (nm []) (by first | exact .inl rfl | exact .inr rfl) ?_; simp (disch := omega) only [awl, ev1, evk, evc, gv, e_move, e_pick, e_bin, binW, e_un, e_cnv, e_conv, e_str, e_mark, e_copy, byL_B, byL_nil, e_extract, e_len, e_mm, e_nil, e_index, e_field, e_load, e_fld, e_cut, e_alloc, e_box, e_make, e_build, e_lit, e_store, e_app, e_call, args, pus, pu, pu1, toDL, toD, toD1, toDs, if_le, bb_tt, bb_ff, bb_tf, bb_ft, elems, idsW, idsV, lenV, oint, cutOk, ldV, subD, newD, fillV, cellsV, one1, one0, zD, cD0, b_add, b_sub, b_mul, b_quo, b_rem, b_and, b_or, b_xor, b_eql, b_neq, b_lss, b_leq, b_gtr, b_geq, b_shr_u64, b_shl_u64, b_shr_i64, b_shl_i64, b_shr_u32, b_shl_u32, b_shr_u8, b_shl_u8, scs, St.upd, St.put, St.ev, St.keep, gt, go, tmOf, ofD, dOk, cV, cV0, renM, Value.oneCell', keepL, freshL, vaOL, outB, wkTm, subL, ninL, injL, nm, resW, resL, resV, shift, ren, ren2, ren1, renO, va, va2, va1, vaO, inDom, agg_cells, ref_cells, v_cells, mB_cells, mI_cells, bys_cells, list_cells, nth_B, nth_I, all_B, all_I, sc_B, sc_I, sc_v, set_B, set_I, tt_eq, wrap_id, Int.cast_ofNat_Int, Int.reduceEq, decide_true, decide_false, not_true_eq_false, Nat.le_refl, Int.le_refl, List.size_toArray, false_and, and_false, and_assoc, List.map_cons, List.map_nil, List.nil_append, List.cons_append, List.singleton_append, List.append_nil, List.length_cons, List.length_nil, List.length_map, List.length_append, List.flatMap_cons, List.flatMap_nil, List.take_zero, List.drop_zero, List.take_succ_cons, List.drop_succ_cons, List.take_nil, List.drop_nil, List.head?_cons, List.all_cons, List.all_nil, List.getElem?_cons_zero, List.getElem?_cons_succ, List.getElem?_nil, List.mem_cons, List.not_mem_nil, forall_eq_or_imp, forall_eq, Option.getD_some, Option.getD_none, Option.map_some, Option.map_none, Option.isNone_some, Option.isNone_none, Option.isSome_some, Option.isSome_none, ↓reduceIte, ite_true, ite_false, if_true, if_false, true_and, and_true, and_self, false_or, or_false, or_true, true_or, implies_true, forall_const, false_implies, not_false_eq_true, Bool.and_true, Bool.true_and, Bool.and_false, Bool.false_and, Bool.not_true, Bool.not_false, Bool.false_eq_true, Bool.true_eq_false, reduceCtorEq, Nat.reduceEqDiff, Nat.reduceLT, Nat.reduceLeDiff, Nat.reduceAdd, Nat.reduceSub, Nat.reduceMul, Int.toNat_natCast, Int.toNat_zero, Nat.zero_add, Nat.add_zero, Nat.sub_zero, Int.reduceToNat, Int.reduceLE, Int.reduceLT, Int.natCast_nonneg, ne_eq, exists_eq_left, exists_eq_left', exists_eq, exists_and_left, exists_and_right, Option.some.injEq, Prod.mk.injEq, List.cons.injEq, D.v.injEq, D.list.injEq, D.agg.injEq, mB_inj, mI_inj, Value.int.injEq, Value.bool.injEq, decide_eq_true_eq, decide_eq_false_iff_not, Bool.not_eq_true', Bool.not_eq_false', ER, Sp_overdubkeep_Cut_byte, Sp_overdublaw16_Right, Sp_overdubref14_PackRecord, Sp_overdubkeep_Within, Sp_record_Unpack, Sp_overdubref14_UnpackRecord, Sp_overdubkeep_Cut_api_Extent, Sp_record_TakeExtents, Sp_overdubref14_TakeExtents, Sp_overdubkeep_Record, Sp_record_Extents, Sp_overdubref14_Extents, Sp_overdubkeep_Same_byte, Sp_overdubkeep_Same_api_Extent, Sp_overdublaw16_wakes, x_ar22, x_bt3, x_bt4, x_bt5, x_el22, x_pt3, x_pt4, x_pt5, x_slt22, x_tk25, x_tk5, x_zc25])
  · rcases right_valid k t a b l with ⟨t', hv, ho⟩ | ⟨t', a', b', r, hv, ho⟩
    · generalize 1 + within k 5 = k' at *
      obtain ⟨k0, k1, t0, t1, _⟩ := validR_facts hv
      have hlen := packR_length k' t' 0 0 []
      have hpk : packOut' k' t' 0 0 [] = ⟨.tup [.sl 0 1 0 (packR k' t' 0 0 []).length true, .d (.v (.bool true))], [(0, .row 5 1 ((packR k' t' 0 0 []).map mB))]⟩ := by rw [packOut', if_pos hv]
      have hb := packR_byt k' t' 0 0 []
      simp only [List.length_nil] at hlen
      generalize packR k' t' 0 0 [] = p at *
      have hww := within_rng (v := at') (n := (p.length : Int)) (by omega)
      have hx := xor_u8 (p.getD (within at' (p.length : Int)).toNat 0) c
      have hmb := byt_set hb (within at' (p.length : Int)).toNat hx
      have hml : (p.set (within at' (p.length : Int)).toNat (bits .xor .u8 (p.getD (within at' (p.length : Int)).toNat 0) c)).length = p.length := List.length_set
      generalize hm : p.set (within at' (p.length : Int)).toNat (bits .xor .u8 (p.getD (within at' (p.length : Int)).toNat 0) c) = m at *
      have htm : (m.map mB).take p.length = m.map mB := List.take_of_length_le (by simp [hml])
      obtain ⟨hbt, hu1, hu2⟩ := finish m hmb (by omega)
      clear hbb hen hn
      rcases un_cases m with hun | hun <;> rcases tex_cases m (n' - 2) with htx | htx
      all_goals
        repeat' first
                    | (refine AW.seq ?_)
                    | (refine AW.block ?_)
                    | (refine AW.regl ER_ok [0, 1, 2, 3, 4, 5, 6, 8, 14, 15, 16, 17, 18, 19, 20, 21, 22, 25] ?_)
                    | (refine then_n ?_)
                    | (refine then_r ?_)
                    | (refine then_x ?_)
                    | (refine block_x ?_)
                    | (refine block_o (by decide) ?_)
                    | (refine block_n ?_)
                    | (refine block_r ?_)
                    | (refine AW.skip ?_)
                    | (refine AW.ret ?_)
                    | (refine AW.exit ?_)
                    | (refine AW.cond rfl ?_ ?_ <;> (intro hc; first | cases hc | ((try rw [hc]); (try simp only [not_true_eq_false, not_false_eq_true, decide_true, decide_false, Decidable.not_not, Bool.not_true, Bool.not_false, decide_eq_true_eq, decide_eq_false_iff_not, Bool.not_eq_true', Bool.not_eq_false', Bool.not_eq_true, Bool.not_eq_false, Bool.and_eq_true, Bool.or_eq_true, Bool.false_eq_true, Bool.true_eq_false, Int.not_lt, Int.not_le] at hc); (try (exfalso; omega)))))
                    | ((first
                          | (refine awl_none rfl fun K hK => ?_)
                          | (refine awl_nil ?_)
                          | (refine awl_some rfl rfl (Nat.le_of_ble_eq_true rfl) rfl rfl ?_ ?_ <;> (intro hc; first | cases hc | ((try rw [hc]); (try simp only [not_true_eq_false, not_false_eq_true, decide_true, decide_false, Decidable.not_not, Bool.not_true, Bool.not_false, decide_eq_true_eq, decide_eq_false_iff_not, Bool.not_eq_true', Bool.not_eq_false', Bool.not_eq_true, Bool.not_eq_false, Bool.and_eq_true, Bool.or_eq_true, Bool.false_eq_true, Bool.true_eq_false, Int.not_lt, Int.not_le] at hc); (try (exfalso; omega)))) <;> (try intro K hK)))
                       all_goals first
                         | (show Awl _ _ _ _ _; simp only [St.upd, St.put, List.nil_append, List.cons_append, List.singleton_append, List.append_nil])
                         | (simp (disch := omega) only [awl, ev1, evk, evc, gv, e_move, e_pick, e_bin, binW, e_un, e_cnv, e_conv, e_str, e_mark, e_copy, byL_B, byL_nil, e_extract, e_len, e_mm, e_nil, e_index, e_field, e_load, e_fld, e_cut, e_alloc, e_box, e_make, e_build, e_lit, e_store, e_app, e_call, args, pus, pu, pu1, toDL, toD, toD1, toDs, if_le, bb_tt, bb_ff, bb_tf, bb_ft, elems, idsW, idsV, lenV, oint, cutOk, ldV, subD, newD, fillV, cellsV, one1, one0, zD, cD0, b_add, b_sub, b_mul, b_quo, b_rem, b_and, b_or, b_xor, b_eql, b_neq, b_lss, b_leq, b_gtr, b_geq, b_shr_u64, b_shl_u64, b_shr_i64, b_shl_i64, b_shr_u32, b_shl_u32, b_shr_u8, b_shl_u8, scs, St.upd, St.put, St.ev, St.keep, gt, go, tmOf, ofD, dOk, cV, cV0, renM, Value.oneCell', keepL, freshL, vaOL, outB, wkTm, subL, ninL, injL, nm, resW, resL, resV, shift, ren, ren2, ren1, renO, va, va2, va1, vaO, inDom, agg_cells, ref_cells, v_cells, mB_cells, mI_cells, bys_cells, list_cells, nth_B, nth_I, all_B, all_I, sc_B, sc_I, sc_v, set_B, set_I, tt_eq, wrap_id, Int.cast_ofNat_Int, Int.reduceEq, decide_true, decide_false, not_true_eq_false, Nat.le_refl, Int.le_refl, List.size_toArray, false_and, and_false, and_assoc, List.map_cons, List.map_nil, List.nil_append, List.cons_append, List.singleton_append, List.append_nil, List.length_cons, List.length_nil, List.length_map, List.length_append, List.flatMap_cons, List.flatMap_nil, List.take_zero, List.drop_zero, List.take_succ_cons, List.drop_succ_cons, List.take_nil, List.drop_nil, List.head?_cons, List.all_cons, List.all_nil, List.getElem?_cons_zero, List.getElem?_cons_succ, List.getElem?_nil, List.mem_cons, List.not_mem_nil, forall_eq_or_imp, forall_eq, Option.getD_some, Option.getD_none, Option.map_some, Option.map_none, Option.isNone_some, Option.isNone_none, Option.isSome_some, Option.isSome_none, ↓reduceIte, ite_true, ite_false, if_true, if_false, true_and, and_true, and_self, false_or, or_false, or_true, true_or, implies_true, forall_const, false_implies, not_false_eq_true, Bool.and_true, Bool.true_and, Bool.and_false, Bool.false_and, Bool.not_true, Bool.not_false, Bool.false_eq_true, Bool.true_eq_false, reduceCtorEq, Nat.reduceEqDiff, Nat.reduceLT, Nat.reduceLeDiff, Nat.reduceAdd, Nat.reduceSub, Nat.reduceMul, Int.toNat_natCast, Int.toNat_zero, Nat.zero_add, Nat.add_zero, Nat.sub_zero, Int.reduceToNat, Int.reduceLE, Int.reduceLT, Int.natCast_nonneg, ne_eq, exists_eq_left, exists_eq_left', exists_eq, exists_and_left, exists_and_right, Option.some.injEq, Prod.mk.injEq, List.cons.injEq, D.v.injEq, D.list.injEq, D.agg.injEq, mB_inj, mI_inj, Value.int.injEq, Value.bool.injEq, decide_eq_true_eq, decide_eq_false_iff_not, Bool.not_eq_true', Bool.not_eq_false', ER, Sp_overdubkeep_Cut_byte, Sp_overdublaw16_Right, Sp_overdubref14_PackRecord, Sp_overdubkeep_Within, Sp_record_Unpack, Sp_overdubref14_UnpackRecord, Sp_overdubkeep_Cut_api_Extent, Sp_record_TakeExtents, Sp_overdubref14_TakeExtents, Sp_overdubkeep_Record, Sp_record_Extents, Sp_overdubref14_Extents, Sp_overdubkeep_Same_byte, Sp_overdubkeep_Same_api_Extent, Sp_overdublaw16_wakes, x_ar22, x_bt3, x_bt4, x_bt5, x_el22, x_pt3, x_pt4, x_pt5, x_slt22, x_tk25, x_tk5, x_zc25, hn', hq, hqe, hes, ho, hpk, hm, htm, hml, hbt, hun, htx, hle, te, tb, hde, hdt, hte, eD_inj, mB_inj, nil_E, sc_E, sc_B, sameR_self]
                            (try ((repeat' first | (refine And.intro ?_ ?_) | (intro hc; first | cases hc | ((try rw [hc]); (try simp only [not_true_eq_false, not_false_eq_true, decide_true, decide_false, Decidable.not_not, Bool.not_true, Bool.not_false, decide_eq_true_eq, decide_eq_false_iff_not, Bool.not_eq_true', Bool.not_eq_false', Bool.not_eq_true, Bool.not_eq_false, Bool.and_eq_true, Bool.or_eq_true, Bool.false_eq_true, Bool.true_eq_false, Int.not_lt, Int.not_le] at hc); (try (exfalso; omega)))))
                                  all_goals first | (refine hK _ _ ?_; clear hK K; simp only [St.upd, St.put, List.nil_append, List.cons_append, List.singleton_append, List.append_nil]) | exact hK | omega))))
        all_goals (refine Ends.of (nm []) (by first | exact .inl rfl | exact .inr rfl) ?_; simp (disch := omega) only [awl, ev1, evk, evc, gv, e_move, e_pick, e_bin, binW, e_un, e_cnv, e_conv, e_str, e_mark, e_copy, byL_B, byL_nil, e_extract, e_len, e_mm, e_nil, e_index, e_field, e_load, e_fld, e_cut, e_alloc, e_box, e_make, e_build, e_lit, e_store, e_app, e_call, args, pus, pu, pu1, toDL, toD, toD1, toDs, if_le, bb_tt, bb_ff, bb_tf, bb_ft, elems, idsW, idsV, lenV, oint, cutOk, ldV, subD, newD, fillV, cellsV, one1, one0, zD, cD0, b_add, b_sub, b_mul, b_quo, b_rem, b_and, b_or, b_xor, b_eql, b_neq, b_lss, b_leq, b_gtr, b_geq, b_shr_u64, b_shl_u64, b_shr_i64, b_shl_i64, b_shr_u32, b_shl_u32, b_shr_u8, b_shl_u8, scs, St.upd, St.put, St.ev, St.keep, gt, go, tmOf, ofD, dOk, cV, cV0, renM, Value.oneCell', keepL, freshL, vaOL, outB, wkTm, subL, ninL, injL, nm, resW, resL, resV, shift, ren, ren2, ren1, renO, va, va2, va1, vaO, inDom, agg_cells, ref_cells, v_cells, mB_cells, mI_cells, bys_cells, list_cells, nth_B, nth_I, all_B, all_I, sc_B, sc_I, sc_v, set_B, set_I, tt_eq, wrap_id, Int.cast_ofNat_Int, Int.reduceEq, decide_true, decide_false, not_true_eq_false, Nat.le_refl, Int.le_refl, List.size_toArray, false_and, and_false, and_assoc, List.map_cons, List.map_nil, List.nil_append, List.cons_append, List.singleton_append, List.append_nil, List.length_cons, List.length_nil, List.length_map, List.length_append, List.flatMap_cons, List.flatMap_nil, List.take_zero, List.drop_zero, List.take_succ_cons, List.drop_succ_cons, List.take_nil, List.drop_nil, List.head?_cons, List.all_cons, List.all_nil, List.getElem?_cons_zero, List.getElem?_cons_succ, List.getElem?_nil, List.mem_cons, List.not_mem_nil, forall_eq_or_imp, forall_eq, Option.getD_some, Option.getD_none, Option.map_some, Option.map_none, Option.isNone_some, Option.isNone_none, Option.isSome_some, Option.isSome_none, ↓reduceIte, ite_true, ite_false, if_true, if_false, true_and, and_true, and_self, false_or, or_false, or_true, true_or, implies_true, forall_const, false_implies, not_false_eq_true, Bool.and_true, Bool.true_and, Bool.and_false, Bool.false_and, Bool.not_true, Bool.not_false, Bool.false_eq_true, Bool.true_eq_false, reduceCtorEq, Nat.reduceEqDiff, Nat.reduceLT, Nat.reduceLeDiff, Nat.reduceAdd, Nat.reduceSub, Nat.reduceMul, Int.toNat_natCast, Int.toNat_zero, Nat.zero_add, Nat.add_zero, Nat.sub_zero, Int.reduceToNat, Int.reduceLE, Int.reduceLT, Int.natCast_nonneg, ne_eq, exists_eq_left, exists_eq_left', exists_eq, exists_and_left, exists_and_right, Option.some.injEq, Prod.mk.injEq, List.cons.injEq, D.v.injEq, D.list.injEq, D.agg.injEq, mB_inj, mI_inj, Value.int.injEq, Value.bool.injEq, decide_eq_true_eq, decide_eq_false_iff_not, Bool.not_eq_true', Bool.not_eq_false', ER, Sp_overdubkeep_Cut_byte, Sp_overdublaw16_Right, Sp_overdubref14_PackRecord, Sp_overdubkeep_Within, Sp_record_Unpack, Sp_overdubref14_UnpackRecord, Sp_overdubkeep_Cut_api_Extent, Sp_record_TakeExtents, Sp_overdubref14_TakeExtents, Sp_overdubkeep_Record, Sp_record_Extents, Sp_overdubref14_Extents, Sp_overdubkeep_Same_byte, Sp_overdubkeep_Same_api_Extent, Sp_overdublaw16_wakes, x_ar22, x_bt3, x_bt4, x_bt5, x_el22, x_pt3, x_pt4, x_pt5, x_slt22, x_tk25, x_tk5, x_zc25])
    · generalize 1 + within k 5 = k' at *
      obtain ⟨k0, k1, t0, t1, a0, a1, b0, b1, hok, hrl⟩ := validR_facts hv
      have hlen := packR_length k' t' a' b' r
      have hrr : (∀ e ∈ r, numE e) = True := by simp only [eq_iff_iff, iff_true]; exact fun e he => okE_num (hok e he)
      have hpk : packOut' k' t' a' b' r = ⟨.tup [.sl 0 1 0 (packR k' t' a' b' r).length true, .d (.v (.bool true))], [(0, .row 5 1 ((packR k' t' a' b' r).map mB))]⟩ := by rw [packOut', if_pos hv]
      have hb := packR_byt k' t' a' b' r
      generalize packR k' t' a' b' r = p at *
      have hww := within_rng (v := at') (n := (p.length : Int)) (by omega)
      have hx := xor_u8 (p.getD (within at' (p.length : Int)).toNat 0) c
      have hmb := byt_set hb (within at' (p.length : Int)).toNat hx
      have hml : (p.set (within at' (p.length : Int)).toNat (bits .xor .u8 (p.getD (within at' (p.length : Int)).toNat 0) c)).length = p.length := List.length_set
      generalize hm : p.set (within at' (p.length : Int)).toNat (bits .xor .u8 (p.getD (within at' (p.length : Int)).toNat 0) c) = m at *
      have htm : (m.map mB).take p.length = m.map mB := List.take_of_length_le (by simp [hml])
      obtain ⟨hbt, hu1, hu2⟩ := finish m hmb (by omega)
      clear hbb hen hn
      rcases un_cases m with hun | hun <;> rcases tex_cases m (n' - 2) with htx | htx
      all_goals
        repeat' first
                    | (refine AW.seq ?_)
                    | (refine AW.block ?_)
                    | (refine AW.regl ER_ok [0, 1, 2, 3, 4, 5, 6, 8, 14, 15, 16, 17, 18, 19, 20, 21, 22, 25] ?_)
                    | (refine then_n ?_)
                    | (refine then_r ?_)
                    | (refine then_x ?_)
                    | (refine block_x ?_)
                    | (refine block_o (by decide) ?_)
                    | (refine block_n ?_)
                    | (refine block_r ?_)
                    | (refine AW.skip ?_)
                    | (refine AW.ret ?_)
                    | (refine AW.exit ?_)
                    | (refine AW.cond rfl ?_ ?_ <;> (intro hc; first | cases hc | ((try rw [hc]); (try simp only [not_true_eq_false, not_false_eq_true, decide_true, decide_false, Decidable.not_not, Bool.not_true, Bool.not_false, decide_eq_true_eq, decide_eq_false_iff_not, Bool.not_eq_true', Bool.not_eq_false', Bool.not_eq_true, Bool.not_eq_false, Bool.and_eq_true, Bool.or_eq_true, Bool.false_eq_true, Bool.true_eq_false, Int.not_lt, Int.not_le] at hc); (try (exfalso; omega)))))
                    | ((first
                          | (refine awl_none rfl fun K hK => ?_)
                          | (refine awl_nil ?_)
                          | (refine awl_some rfl rfl (Nat.le_of_ble_eq_true rfl) rfl rfl ?_ ?_ <;> (intro hc; first | cases hc | ((try rw [hc]); (try simp only [not_true_eq_false, not_false_eq_true, decide_true, decide_false, Decidable.not_not, Bool.not_true, Bool.not_false, decide_eq_true_eq, decide_eq_false_iff_not, Bool.not_eq_true', Bool.not_eq_false', Bool.not_eq_true, Bool.not_eq_false, Bool.and_eq_true, Bool.or_eq_true, Bool.false_eq_true, Bool.true_eq_false, Int.not_lt, Int.not_le] at hc); (try (exfalso; omega)))) <;> (try intro K hK)))
                       all_goals first
                         | (show Awl _ _ _ _ _; simp only [St.upd, St.put, List.nil_append, List.cons_append, List.singleton_append, List.append_nil])
                         | (simp (disch := omega) only [awl, ev1, evk, evc, gv, e_move, e_pick, e_bin, binW, e_un, e_cnv, e_conv, e_str, e_mark, e_copy, byL_B, byL_nil, e_extract, e_len, e_mm, e_nil, e_index, e_field, e_load, e_fld, e_cut, e_alloc, e_box, e_make, e_build, e_lit, e_store, e_app, e_call, args, pus, pu, pu1, toDL, toD, toD1, toDs, if_le, bb_tt, bb_ff, bb_tf, bb_ft, elems, idsW, idsV, lenV, oint, cutOk, ldV, subD, newD, fillV, cellsV, one1, one0, zD, cD0, b_add, b_sub, b_mul, b_quo, b_rem, b_and, b_or, b_xor, b_eql, b_neq, b_lss, b_leq, b_gtr, b_geq, b_shr_u64, b_shl_u64, b_shr_i64, b_shl_i64, b_shr_u32, b_shl_u32, b_shr_u8, b_shl_u8, scs, St.upd, St.put, St.ev, St.keep, gt, go, tmOf, ofD, dOk, cV, cV0, renM, Value.oneCell', keepL, freshL, vaOL, outB, wkTm, subL, ninL, injL, nm, resW, resL, resV, shift, ren, ren2, ren1, renO, va, va2, va1, vaO, inDom, agg_cells, ref_cells, v_cells, mB_cells, mI_cells, bys_cells, list_cells, nth_B, nth_I, all_B, all_I, sc_B, sc_I, sc_v, set_B, set_I, tt_eq, wrap_id, Int.cast_ofNat_Int, Int.reduceEq, decide_true, decide_false, not_true_eq_false, Nat.le_refl, Int.le_refl, List.size_toArray, false_and, and_false, and_assoc, List.map_cons, List.map_nil, List.nil_append, List.cons_append, List.singleton_append, List.append_nil, List.length_cons, List.length_nil, List.length_map, List.length_append, List.flatMap_cons, List.flatMap_nil, List.take_zero, List.drop_zero, List.take_succ_cons, List.drop_succ_cons, List.take_nil, List.drop_nil, List.head?_cons, List.all_cons, List.all_nil, List.getElem?_cons_zero, List.getElem?_cons_succ, List.getElem?_nil, List.mem_cons, List.not_mem_nil, forall_eq_or_imp, forall_eq, Option.getD_some, Option.getD_none, Option.map_some, Option.map_none, Option.isNone_some, Option.isNone_none, Option.isSome_some, Option.isSome_none, ↓reduceIte, ite_true, ite_false, if_true, if_false, true_and, and_true, and_self, false_or, or_false, or_true, true_or, implies_true, forall_const, false_implies, not_false_eq_true, Bool.and_true, Bool.true_and, Bool.and_false, Bool.false_and, Bool.not_true, Bool.not_false, Bool.false_eq_true, Bool.true_eq_false, reduceCtorEq, Nat.reduceEqDiff, Nat.reduceLT, Nat.reduceLeDiff, Nat.reduceAdd, Nat.reduceSub, Nat.reduceMul, Int.toNat_natCast, Int.toNat_zero, Nat.zero_add, Nat.add_zero, Nat.sub_zero, Int.reduceToNat, Int.reduceLE, Int.reduceLT, Int.natCast_nonneg, ne_eq, exists_eq_left, exists_eq_left', exists_eq, exists_and_left, exists_and_right, Option.some.injEq, Prod.mk.injEq, List.cons.injEq, D.v.injEq, D.list.injEq, D.agg.injEq, mB_inj, mI_inj, Value.int.injEq, Value.bool.injEq, decide_eq_true_eq, decide_eq_false_iff_not, Bool.not_eq_true', Bool.not_eq_false', ER, Sp_overdubkeep_Cut_byte, Sp_overdublaw16_Right, Sp_overdubref14_PackRecord, Sp_overdubkeep_Within, Sp_record_Unpack, Sp_overdubref14_UnpackRecord, Sp_overdubkeep_Cut_api_Extent, Sp_record_TakeExtents, Sp_overdubref14_TakeExtents, Sp_overdubkeep_Record, Sp_record_Extents, Sp_overdubref14_Extents, Sp_overdubkeep_Same_byte, Sp_overdubkeep_Same_api_Extent, Sp_overdublaw16_wakes, x_ar22, x_bt3, x_bt4, x_bt5, x_el22, x_pt3, x_pt4, x_pt5, x_slt22, x_tk25, x_tk5, x_zc25, hn', hq, hqe, hes, hrr, ho, hpk, hm, htm, hml, hbt, hun, htx, hle, te, tb, hde, hdt, hte, eD_inj, mB_inj, nil_E, sc_E, sc_B, sameR_self]
                            (try ((repeat' first | (refine And.intro ?_ ?_) | (intro hc; first | cases hc | ((try rw [hc]); (try simp only [not_true_eq_false, not_false_eq_true, decide_true, decide_false, Decidable.not_not, Bool.not_true, Bool.not_false, decide_eq_true_eq, decide_eq_false_iff_not, Bool.not_eq_true', Bool.not_eq_false', Bool.not_eq_true, Bool.not_eq_false, Bool.and_eq_true, Bool.or_eq_true, Bool.false_eq_true, Bool.true_eq_false, Int.not_lt, Int.not_le] at hc); (try (exfalso; omega)))))
                                  all_goals first | (refine hK _ _ ?_; clear hK K; simp only [St.upd, St.put, List.nil_append, List.cons_append, List.singleton_append, List.append_nil]) | exact hK | omega))))
        all_goals (refine Ends.of (nm []) (by first | exact .inl rfl | exact .inr rfl) ?_; simp (disch := omega) only [awl, ev1, evk, evc, gv, e_move, e_pick, e_bin, binW, e_un, e_cnv, e_conv, e_str, e_mark, e_copy, byL_B, byL_nil, e_extract, e_len, e_mm, e_nil, e_index, e_field, e_load, e_fld, e_cut, e_alloc, e_box, e_make, e_build, e_lit, e_store, e_app, e_call, args, pus, pu, pu1, toDL, toD, toD1, toDs, if_le, bb_tt, bb_ff, bb_tf, bb_ft, elems, idsW, idsV, lenV, oint, cutOk, ldV, subD, newD, fillV, cellsV, one1, one0, zD, cD0, b_add, b_sub, b_mul, b_quo, b_rem, b_and, b_or, b_xor, b_eql, b_neq, b_lss, b_leq, b_gtr, b_geq, b_shr_u64, b_shl_u64, b_shr_i64, b_shl_i64, b_shr_u32, b_shl_u32, b_shr_u8, b_shl_u8, scs, St.upd, St.put, St.ev, St.keep, gt, go, tmOf, ofD, dOk, cV, cV0, renM, Value.oneCell', keepL, freshL, vaOL, outB, wkTm, subL, ninL, injL, nm, resW, resL, resV, shift, ren, ren2, ren1, renO, va, va2, va1, vaO, inDom, agg_cells, ref_cells, v_cells, mB_cells, mI_cells, bys_cells, list_cells, nth_B, nth_I, all_B, all_I, sc_B, sc_I, sc_v, set_B, set_I, tt_eq, wrap_id, Int.cast_ofNat_Int, Int.reduceEq, decide_true, decide_false, not_true_eq_false, Nat.le_refl, Int.le_refl, List.size_toArray, false_and, and_false, and_assoc, List.map_cons, List.map_nil, List.nil_append, List.cons_append, List.singleton_append, List.append_nil, List.length_cons, List.length_nil, List.length_map, List.length_append, List.flatMap_cons, List.flatMap_nil, List.take_zero, List.drop_zero, List.take_succ_cons, List.drop_succ_cons, List.take_nil, List.drop_nil, List.head?_cons, List.all_cons, List.all_nil, List.getElem?_cons_zero, List.getElem?_cons_succ, List.getElem?_nil, List.mem_cons, List.not_mem_nil, forall_eq_or_imp, forall_eq, Option.getD_some, Option.getD_none, Option.map_some, Option.map_none, Option.isNone_some, Option.isNone_none, Option.isSome_some, Option.isSome_none, ↓reduceIte, ite_true, ite_false, if_true, if_false, true_and, and_true, and_self, false_or, or_false, or_true, true_or, implies_true, forall_const, false_implies, not_false_eq_true, Bool.and_true, Bool.true_and, Bool.and_false, Bool.false_and, Bool.not_true, Bool.not_false, Bool.false_eq_true, Bool.true_eq_false, reduceCtorEq, Nat.reduceEqDiff, Nat.reduceLT, Nat.reduceLeDiff, Nat.reduceAdd, Nat.reduceSub, Nat.reduceMul, Int.toNat_natCast, Int.toNat_zero, Nat.zero_add, Nat.add_zero, Nat.sub_zero, Int.reduceToNat, Int.reduceLE, Int.reduceLT, Int.natCast_nonneg, ne_eq, exists_eq_left, exists_eq_left', exists_eq, exists_and_left, exists_and_right, Option.some.injEq, Prod.mk.injEq, List.cons.injEq, D.v.injEq, D.list.injEq, D.agg.injEq, mB_inj, mI_inj, Value.int.injEq, Value.bool.injEq, decide_eq_true_eq, decide_eq_false_iff_not, Bool.not_eq_true', Bool.not_eq_false', ER, Sp_overdubkeep_Cut_byte, Sp_overdublaw16_Right, Sp_overdubref14_PackRecord, Sp_overdubkeep_Within, Sp_record_Unpack, Sp_overdubref14_UnpackRecord, Sp_overdubkeep_Cut_api_Extent, Sp_record_TakeExtents, Sp_overdubref14_TakeExtents, Sp_overdubkeep_Record, Sp_record_Extents, Sp_overdubref14_Extents, Sp_overdubkeep_Same_byte, Sp_overdubkeep_Same_api_Extent, Sp_overdublaw16_wakes, x_ar22, x_bt3, x_bt4, x_bt5, x_el22, x_pt3, x_pt4, x_pt5, x_slt22, x_tk25, x_tk5, x_zc25])
theorem ent_overdublaw16_RecordReads : Ent Try.prog 3 := ⟨_, Try.func3, rfl, by decide⟩
end Go.Proofs.Ytljohhinokaklaa.Am
