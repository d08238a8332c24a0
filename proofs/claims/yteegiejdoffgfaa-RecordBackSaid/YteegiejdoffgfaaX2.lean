/- The law RecordBack: what it comes to. -/
import Derived.Test.YteegiejdoffgfaaX1
import Derived.Test.YteegiejdoffgfaaF7
import Derived.Test.YteegiejdoffgfaaH3
set_option linter.unusedVariables false
set_option linter.unusedSimpArgs false
set_option maxRecDepth 10000
set_option maxHeartbeats 0
namespace Go.Proofs.Yteegiejdoffgfaa.Am
open Go Go.RowKit Go.Proofs

theorem un_fail {b : List Int} (h : ¬ (8 ≤ b.length ∧ (b.length : Int) - 8 = 7 * hdN b)) : unOut b = ⟨.tup [.agg [.d (.v (.int .i64 0)), .d (.v (.int .i64 0)), .d (.v (.int .i64 0)), .d (.v (.int .i64 0)), .nil], .d (.v (.bool false))], []⟩ := by
  rw [unOut, if_neg]; unfold unOk; rw [decide_eq_false h]; simp
theorem un_pack {k t a b : Int} {l : List Xt} (h : validR k t a b l = true) : unOut (packR k t a b l) = ⟨.tup [.agg [.d (.v (.int .i64 k)), .d (.v (.int .i64 t)), .d (.v (.int .i64 a)), .d (.v (.int .i64 b)), .sl 0 5 0 l.length true], .d (.v (.bool true))], [(0, .row 40 5 (l.map eD))]⟩ := by
  obtain ⟨k0, k1, t0, t1, a0, a1, b0, b1, ho, hl⟩ := validR_facts h
  obtain ⟨h1, h2⟩ := head_packR (kind := k) (track := t) (a := a) (b := b) (l := l) ⟨by omega, by omega⟩ ⟨by omega, by omega⟩ ⟨by omega, by omega⟩ ⟨by omega, by omega⟩ (by omega)
  have hlen := packR_length k t a b l
  rw [takeR, takeL_head (by omega)] at h1
  simp only [Prod.mk.injEq, List.cons.injEq, and_true] at h1
  obtain ⟨e0, e1, e2, e3, e4⟩ := h1
  have eL : unL (packR k t a b l) = l := by
    unfold unL hdN
    rw [e4, h2, Int.toNat_natCast]
    exact takeE_exsB l ho
  have hz : unOk (packR k t a b l) = true := by
    unfold unOk hdK hdT hdA hdB
    rw [eL, e0, e1, e2, e3, h, decide_eq_true]
    · rfl
    · unfold hdN; rw [e4]; omega
  rw [unOut, if_pos hz, eL]
  unfold hdK hdT hdA hdB
  rw [e0, e1, e2, e3]
theorem hdN_pack {k t a b : Int} {l : List Xt} (h : validR k t a b l = true) (m : Nat) (hm : 8 ≤ m) (c : List Int) : hdN ((packR k t a b l ++ c).take m) = l.length := by
  obtain ⟨k0, k1, t0, t1, a0, a1, b0, b1, ho, hl⟩ := validR_facts h
  obtain ⟨h1, h2⟩ := head_packR (kind := k) (track := t) (a := a) (b := b) (l := l) ⟨by omega, by omega⟩ ⟨by omega, by omega⟩ ⟨by omega, by omega⟩ ⟨by omega, by omega⟩ (by omega)
  have hlen := packR_length k t a b l
  rw [takeR, takeL_head (by omega)] at h1
  simp only [Prod.mk.injEq, List.cons.injEq, and_true] at h1
  obtain ⟨e0, e1, e2, e3, e4⟩ := h1
  unfold hdN
  rw [← e4]
  congr 1
  rw [List.drop_take, List.take_take, List.drop_append_of_le_length (by omega), List.take_append_of_le_length (by rw [List.length_drop]; omega), show min 2 (m - 6) = 2 by omega]
/-- A byte fewer, or more, is none. -/
theorem un_less {k t a b : Int} {l : List Xt} (h : validR k t a b l = true) : unOut ((packR k t a b l).take ((packR k t a b l).length - 1)) = ⟨.tup [.agg [.d (.v (.int .i64 0)), .d (.v (.int .i64 0)), .d (.v (.int .i64 0)), .d (.v (.int .i64 0)), .nil], .d (.v (.bool false))], []⟩ := by
  have hlen := packR_length k t a b l
  refine un_fail fun ⟨h8, hn⟩ => ?_
  rw [List.length_take] at h8 hn
  have := hdN_pack h ((packR k t a b l).length - 1) (by omega) []
  rw [List.append_nil] at this
  rw [this] at hn
  omega
theorem un_more {k t a b : Int} {l : List Xt} (h : validR k t a b l = true) (x : Int) : unOut (packR k t a b l ++ [x]) = ⟨.tup [.agg [.d (.v (.int .i64 0)), .d (.v (.int .i64 0)), .d (.v (.int .i64 0)), .d (.v (.int .i64 0)), .nil], .d (.v (.bool false))], []⟩ := by
  have hlen := packR_length k t a b l
  refine un_fail fun ⟨h8, hn⟩ => ?_
  have h9 : (packR k t a b l ++ [x]).length = (packR k t a b l).length + 1 := by simp
  have := hdN_pack h (packR k t a b l ++ [x]).length (by omega) [x]
  rw [List.take_length] at this
  rw [this] at hn
  omega
theorem nil_B (l : List Int) : ([] = l.map mB) = (l = []) := by cases l <;> simp
theorem snoc_B (l : List Int) (x : Int) : l.map mB ++ [D.v (.int .u8 x)] = (l ++ [x]).map mB := by simp [mB]
theorem right_valid (k t a b : Int) (l : List Xt) :
    (∃ t', validR (1 + within k 5) t' 0 0 [] = true ∧ rightOut k t a b l = ⟨.agg [.d (.v (.int .i64 (1 + within k 5))), .d (.v (.int .i64 t')), .d (.v (.int .i64 0)), .d (.v (.int .i64 0)), .nil], []⟩) ∨
    (∃ t' a' b' r, validR (1 + within k 5) t' a' b' r = true ∧ rightOut k t a b l = ⟨.agg [.d (.v (.int .i64 (1 + within k 5))), .d (.v (.int .i64 t')), .d (.v (.int .i64 a')), .d (.v (.int .i64 b')), .sl 0 5 0 r.length true], [(0, .row 40 5 (r.map eD))]⟩) := by
  have w1 := within_rng (v := k) (n := 5) (by omega)
  have w2 := within_rng (v := t) (n := 100) (by omega)
  have w3 := within_rng (v := b) (n := 1001) (by omega)
  have w4 := within_rng (v := a) (n := within b 1001 + 1) (by omega)
  by_cases c1 : 1 + within k 5 = 1 ∨ 1 + within k 5 = 2
  · refine .inl ⟨within t 100, ?_, by rw [rightOut, if_pos c1]⟩
    rw [validR12 c1, noneR_eq]; simp; omega
  · by_cases c2 : 1 + within k 5 = 3
    · refine .inr ⟨within t 100, within a (within b 1001 + 1), within b 1001, rowG 20 0 l, ?_, by rw [rightOut, if_neg c1, if_pos c2]⟩
      rw [validR3 c2, (rowG_ok 20 0 l (by omega) (by omega)).1]; simp; omega
    · refine .inl ⟨0, ?_, by rw [rightOut, if_neg c1, if_neg c2]⟩
      rw [validR45 (by omega), noneR_eq]; simp
noncomputable def EB : Env := ⟨Try.prog, fun f ds out => (f = 4 ∧ Sp_overdublaw16_Right ds out) ∨ (f = 5 ∧ Sp_record_Pack ds out) ∨ (f = 6 ∧ Sp_record_Unpack ds out) ∨ (f = 7 ∧ Sp_record_Valid ds out) ∨ (f = 8 ∧ Sp_overdubkeep_Record ds out) ∨ (f = 9 ∧ Sp_overdubkeep_Copy_byte ds out) ∨ (f = 11 ∧ Sp_record_Extents ds out) ∨ (f = 10 ∧ Sp_record_TakeExtents ds out) ∨ (f = 12 ∧ Sp_overdubkeep_Same_api_Extent ds out) ∨ (f = 13 ∧ Sp_overdublaw16_wakes ds out), Es⟩
theorem EB_sp : ∀ f ds out, EB.Sp f ds out → Ent EB.P f ∧ Good EB.P f (fun a b => a = ds ∧ b = out) := by
  rintro f ds out (⟨rfl, h⟩ | ⟨rfl, h⟩ | ⟨rfl, h⟩ | ⟨rfl, h⟩ | ⟨rfl, h⟩ | ⟨rfl, h⟩ | ⟨rfl, h⟩ | ⟨rfl, h⟩ | ⟨rfl, h⟩ | ⟨rfl, h⟩)
  · exact ⟨ent_overdublaw16_Right, good_overdublaw16_Right.one h⟩
  · exact ⟨ent_record_Pack, good_record_Pack.one h⟩
  · exact ⟨ent_record_Unpack, good_record_Unpack.one h⟩
  · exact ⟨ent_record_Valid, good_record_Valid.one h⟩
  · exact ⟨ent_overdubkeep_Record, good_overdubkeep_Record.one h⟩
  · exact ⟨ent_overdubkeep_Copy_byte, good_overdubkeep_Copy_byte.one h⟩
  · exact ⟨ent_record_Extents, good_record_Extents.one h⟩
  · exact ⟨ent_record_TakeExtents, good_record_TakeExtents.one h⟩
  · exact ⟨ent_overdubkeep_Same_api_Extent, good_overdubkeep_Same_api_Extent.one h⟩
  · exact ⟨ent_overdublaw16_wakes, good_overdublaw16_wakes.one h⟩
theorem EB_ok : EB.Ok := ⟨EB_sp, Es_ok⟩
theorem sameR_self (k t a b : Int) (l : List Xt) : sameR k t a b l k t a b l = true := decide_eq_true ⟨rfl, rfl, rfl, rfl, rfl⟩
def Sp_overdublaw16_RecordBack (ds : List D) (out : Out) : Prop := ∃ (k t a b : Int) (l : List Xt), ds = [.agg [.v (.int .i64 k), .v (.int .i64 t), .v (.int .i64 a), .v (.int .i64 b), .list (l.map eD)]] ∧ l.length ≤ 9223372036854775807 ∧ (∀ e ∈ l, numE e) ∧ out = ⟨.d (.v (.bool true)), []⟩
theorem good_overdublaw16_RecordBack : Good Try.prog 3 Sp_overdublaw16_RecordBack := by
  refine good_body (E := EB) (nt := 97) (rs := #[.tmp 2]) Try.func3 rfl rfl rfl ?_
  rintro ds out ⟨k, t, a, b, l, rfl, hl, hn, rfl⟩
  refine ⟨by simp, ?_⟩
  have hq : (∀ e ∈ l, numE e) = True := by simp only [eq_iff_iff, iff_true]; exact hn
  rcases right_valid k t a b l with ⟨t', hv, ho⟩ | ⟨t', a', b', r, hv, ho⟩
  · generalize 1 + within k 5 = k' at *
    obtain ⟨k0, k1, t0, t1, _⟩ := validR_facts hv
    have hlen := packR_length k' t' 0 0 []
    have hpk : packOut k' t' 0 0 [] = ⟨.tup [.sl 0 1 0 (packR k' t' 0 0 []).length true, .d (.v (.int .i64 0))], [(0, .row 5 1 ((packR k' t' 0 0 []).map mB))]⟩ := by rw [packOut, if_pos hv]
    have hun := un_pack hv
    have hle := un_less hv
    have hmo := un_more hv 0
    have hb := packR_byt k' t' 0 0 []
    have hx := tex_some (l := []) (fun e h => by cases h)
    generalize packR k' t' 0 0 [] = p at *
    have hbt : Byt p = True := by simp only [eq_iff_iff, iff_true]; exact hb
    have hbl : Byt (p.take (p.length - 1)) = True := by simp only [eq_iff_iff, iff_true]; exact byt_take hb _
    have hbm : Byt (p ++ [0]) = True := by simp only [eq_iff_iff, iff_true]; exact byt_append hb (byt_cons ⟨by decide, by decide⟩ byt_nil)
    have ht1 : (p.map mB).take p.length = p.map mB := List.take_of_length_le (by simp)
    have ht3 : ((p ++ [0]).map mB).take (p.length + 1) = (p ++ [0]).map mB := List.take_of_length_le (by simp)
    have h7 : ((p.length : Int) - 1).toNat = p.length - 1 := by omega
    have hlt : (p.take (p.length - 1)).length = p.length - 1 := by rw [List.length_take]; omega
    have hl0 : (([] : List Xt).length : Int) = 0 := rfl
    have hexn : exsB [] = [] := rfl
    have hnil : Byt [] = True := by simp only [eq_iff_iff, iff_true]; exact byt_nil
    have hdn : decide (([] : List Xt) = []) = true := rfl
    rw [hexn, hl0] at hx
    simp only [List.length_nil, List.map_nil] at hun hx hlen
    repeat' first
                    | (refine AW.seq ?_)
                    | (refine AW.block ?_)
                    | (refine AW.regl EB_ok [0, 1, 2, 3, 4, 5, 6, 8, 10, 11, 12, 51] ?_)
                    | (refine AW.regc (id := 8) EB_ok follows [0, 1, 3, 0, 8, 24, 63, 127, 255, 255, 511, 2047] (by kernel_rfl) [0, 1, 2, 3, 4, 5, 6, 8, 10, 11, 12, 51] ?_)
                    | (refine then_n ?_)
                    | (refine then_r ?_)
                    | (refine then_x ?_)
                    | (refine block_x ?_)
                    | (refine block_o (by decide) ?_)
                    | (refine block_n ?_)
                    | (refine block_r ?_)
                    | (refine AW.skip ?_)
                    | (refine AW.ret ?_)
                    | (refine AW.exit ?_)
                    | (refine AW.cond rfl ?_ ?_ <;> (intro hc; first | cases hc | ((try rw [hc]); (try simp only [not_true_eq_false, not_false_eq_true, decide_true, decide_false, Decidable.not_not, Bool.not_true, Bool.not_false, decide_eq_true_eq, decide_eq_false_iff_not, Bool.not_eq_true', Bool.not_eq_false', Bool.not_eq_true, Bool.not_eq_false, Bool.and_eq_true, Bool.or_eq_true, Bool.false_eq_true, Bool.true_eq_false, Int.not_lt, Int.not_le] at hc); (try (exfalso; omega)))))
                    | ((first
                          | (refine awl_none rfl fun K hK => ?_)
                          | (refine awl_nil ?_)
                          | (refine awl_some rfl rfl (Nat.le_of_ble_eq_true rfl) rfl rfl ?_ ?_ <;> (intro hc; first | cases hc | ((try rw [hc]); (try simp only [not_true_eq_false, not_false_eq_true, decide_true, decide_false, Decidable.not_not, Bool.not_true, Bool.not_false, decide_eq_true_eq, decide_eq_false_iff_not, Bool.not_eq_true', Bool.not_eq_false', Bool.not_eq_true, Bool.not_eq_false, Bool.and_eq_true, Bool.or_eq_true, Bool.false_eq_true, Bool.true_eq_false, Int.not_lt, Int.not_le] at hc); (try (exfalso; omega)))) <;> (try intro K hK))
                          | (refine awc_none rfl fun K hK => ?_)
                          | (refine awc_some rfl rfl (Nat.le_of_ble_eq_true rfl) rfl rfl ?_ ?_ <;> (intro hc; first | cases hc | ((try rw [hc]); (try simp only [not_true_eq_false, not_false_eq_true, decide_true, decide_false, Decidable.not_not, Bool.not_true, Bool.not_false, decide_eq_true_eq, decide_eq_false_iff_not, Bool.not_eq_true', Bool.not_eq_false', Bool.not_eq_true, Bool.not_eq_false, Bool.and_eq_true, Bool.or_eq_true, Bool.false_eq_true, Bool.true_eq_false, Int.not_lt, Int.not_le] at hc); (try (exfalso; omega)))) <;> (try intro K hK))
                          | exact each_nil
                          | (refine each_none rfl ?_ ?_ <;> (try intro bb K hK))
                          | (refine awc_leaf [some 70, some 71, some 72, some 73, some 74, some 75, some 76, some 69, some 77, some 78, some 11, some 12] [[some false, some false, some false, none, none, none, some false, some false, some false, some false, some false, some false], [some true, some false, some false, none, none, none, some false, some false, some false, some false, some false, some false], [some true, some true, some false, none, none, none, some false, some false, some false, some false, some false, some false], [none, none, none, some false, some false, some false, some false, some false, some false, some false, some false, some false], [none, none, none, some true, some false, some false, some false, some false, some false, some false, some false, some false], [none, none, none, some true, some true, some false, some false, some false, some false, some false, some false, some false], [some true, some true, some true, some true, some true, some true, some false, some false, some false, some false, some false, some false], [some true, some true, some true, some true, some true, some true, some true, some false, some false, some false, some false, some false], [some true, some true, some true, some true, some true, some true, some true, some true, some false, none, some false, some false], [some true, some true, some true, some true, some true, some true, some true, some true, none, some false, none, some false], [some true, some true, some true, some true, some true, some true, some true, some true, some true, none, some false, some false], [some true, some true, some true, some true, some true, some true, some true, some true, some true, some true, some true, some false]] rfl (by kernel_rfl) (by kernel_rfl) ?_ ?_))
                       all_goals first
                         | (show Awl _ _ _ _ _; simp only [St.upd, St.put, List.nil_append, List.cons_append, List.singleton_append, List.append_nil])
                         | (show Awc _ _ _ _ _ _; simp only [St.upd, St.put, List.nil_append, List.cons_append, List.singleton_append, List.append_nil])
                         | (show Each _ _ _ _ _ _ _ _; skip)
                         | (simp (disch := omega) only [awl, ev1, evk, evc, gv, e_move, e_pick, e_bin, binW, e_un, e_cnv, e_conv, e_str, e_mark, e_copy, byL_B, byL_nil, e_extract, e_len, e_mm, e_nil, e_index, e_field, e_load, e_fld, e_cut, e_alloc, e_box, e_make, e_build, e_lit, e_store, e_app, e_call, args, pus, pu, pu1, toDL, toD, toD1, toDs, if_le, elems, idsW, idsV, lenV, oint, cutOk, ldV, subD, newD, fillV, cellsV, one1, one0, zD, cD0, b_add, b_sub, b_mul, b_quo, b_rem, b_and, b_or, b_xor, b_eql, b_neq, b_lss, b_leq, b_gtr, b_geq, b_shr_u64, b_shl_u64, b_shr_i64, b_shl_i64, b_shr_u32, b_shl_u32, b_shr_u8, b_shl_u8, scs, St.upd, St.put, St.ev, St.keep, gt, go, tmOf, ofD, dOk, cV, cV0, renM, Value.oneCell', keepL, freshL, vaOL, outB, wkTm, subL, ninL, injL, nm, resW, resL, resV, shift, ren, ren2, ren1, renO, va, va2, va1, vaO, inDom, agg_cells, ref_cells, v_cells, mB_cells, mI_cells, bys_cells, list_cells, nth_B, nth_I, all_B, all_I, sc_B, sc_I, sc_v, set_B, set_I, tt_eq, wrap_id, Int.cast_ofNat_Int, Int.reduceEq, decide_true, decide_false, not_true_eq_false, Nat.le_refl, Int.le_refl, List.size_toArray, false_and, and_false, and_assoc, List.map_cons, List.map_nil, List.nil_append, List.cons_append, List.singleton_append, List.append_nil, List.length_cons, List.length_nil, List.length_map, List.length_append, List.flatMap_cons, List.flatMap_nil, List.take_zero, List.drop_zero, List.take_succ_cons, List.drop_succ_cons, List.take_nil, List.drop_nil, List.head?_cons, List.all_cons, List.all_nil, List.getElem?_cons_zero, List.getElem?_cons_succ, List.getElem?_nil, List.mem_cons, List.not_mem_nil, forall_eq_or_imp, forall_eq, Option.getD_some, Option.getD_none, Option.map_some, Option.map_none, Option.isNone_some, Option.isNone_none, Option.isSome_some, Option.isSome_none, ↓reduceIte, ite_true, ite_false, if_true, if_false, true_and, and_true, and_self, false_or, or_false, or_true, true_or, implies_true, forall_const, false_implies, not_false_eq_true, Bool.and_true, Bool.true_and, Bool.and_false, Bool.false_and, Bool.not_true, Bool.not_false, Bool.false_eq_true, Bool.true_eq_false, reduceCtorEq, Nat.reduceEqDiff, Nat.reduceLT, Nat.reduceLeDiff, Nat.reduceAdd, Nat.reduceSub, Nat.reduceMul, Int.toNat_natCast, Int.toNat_zero, Nat.zero_add, Nat.add_zero, Nat.sub_zero, Int.reduceToNat, Int.reduceLE, Int.reduceLT, Int.natCast_nonneg, ne_eq, exists_eq_left, exists_eq_left', exists_eq, exists_and_left, exists_and_right, Option.some.injEq, Prod.mk.injEq, List.cons.injEq, D.v.injEq, D.list.injEq, D.agg.injEq, mB_inj, mI_inj, Value.int.injEq, Value.bool.injEq, decide_eq_true_eq, decide_eq_false_iff_not, Bool.not_eq_true', Bool.not_eq_false', EB, Sp_overdublaw16_Right, Sp_record_Pack, Sp_record_Unpack, Sp_record_Valid, Sp_overdubkeep_Record, Sp_overdubkeep_Copy_byte, Sp_record_Extents, Sp_record_TakeExtents, Sp_overdubkeep_Same_api_Extent, Sp_overdublaw16_wakes, x_bt27, x_bt3, x_el26, x_fo24_4, x_pt27, x_pt3, x_slt22, x_slt26, x_tk22, x_tk24, x_tk5, x_zc24, x_zc5, hq, ho, eD_inj, nil_E, nil_B, hpk, hv, hun, hle, hmo, sc_E, sc_B, sameR_self, hbt, hbl, hbm, ht1, ht3, cutOk, map_take', h7, hlt, snoc_B, hexn, hnil, hx, mB_inj, hdn, all_B, all_E, Sg3, St.updIf, ifc_nil, gt_ifc, go_ifc, ite_self, Option.none_or, Option.some_or]
                            (try ((repeat' first | (refine And.intro ?_ ?_) | (intro hc; first | cases hc | ((try rw [hc]); (try simp only [not_true_eq_false, not_false_eq_true, decide_true, decide_false, Decidable.not_not, Bool.not_true, Bool.not_false, decide_eq_true_eq, decide_eq_false_iff_not, Bool.not_eq_true', Bool.not_eq_false', Bool.not_eq_true, Bool.not_eq_false, Bool.and_eq_true, Bool.or_eq_true, Bool.false_eq_true, Bool.true_eq_false, Int.not_lt, Int.not_le] at hc); (try (exfalso; omega)))))
                                  all_goals first | (refine hK _ _ ?_; clear hK K; simp only [St.upd, St.put, List.nil_append, List.cons_append, List.singleton_append, List.append_nil]) | exact hK | omega))))
    all_goals (refine Ends.of (nm []) (by first | exact .inl rfl | exact .inr rfl) ?_; simp (disch := omega) only [awl, ev1, evk, evc, gv, e_move, e_pick, e_bin, binW, e_un, e_cnv, e_conv, e_str, e_mark, e_copy, byL_B, byL_nil, e_extract, e_len, e_mm, e_nil, e_index, e_field, e_load, e_fld, e_cut, e_alloc, e_box, e_make, e_build, e_lit, e_store, e_app, e_call, args, pus, pu, pu1, toDL, toD, toD1, toDs, if_le, elems, idsW, idsV, lenV, oint, cutOk, ldV, subD, newD, fillV, cellsV, one1, one0, zD, cD0, b_add, b_sub, b_mul, b_quo, b_rem, b_and, b_or, b_xor, b_eql, b_neq, b_lss, b_leq, b_gtr, b_geq, b_shr_u64, b_shl_u64, b_shr_i64, b_shl_i64, b_shr_u32, b_shl_u32, b_shr_u8, b_shl_u8, scs, St.upd, St.put, St.ev, St.keep, gt, go, tmOf, ofD, dOk, cV, cV0, renM, Value.oneCell', keepL, freshL, vaOL, outB, wkTm, subL, ninL, injL, nm, resW, resL, resV, shift, ren, ren2, ren1, renO, va, va2, va1, vaO, inDom, agg_cells, ref_cells, v_cells, mB_cells, mI_cells, bys_cells, list_cells, nth_B, nth_I, all_B, all_I, sc_B, sc_I, sc_v, set_B, set_I, tt_eq, wrap_id, Int.cast_ofNat_Int, Int.reduceEq, decide_true, decide_false, not_true_eq_false, Nat.le_refl, Int.le_refl, List.size_toArray, false_and, and_false, and_assoc, List.map_cons, List.map_nil, List.nil_append, List.cons_append, List.singleton_append, List.append_nil, List.length_cons, List.length_nil, List.length_map, List.length_append, List.flatMap_cons, List.flatMap_nil, List.take_zero, List.drop_zero, List.take_succ_cons, List.drop_succ_cons, List.take_nil, List.drop_nil, List.head?_cons, List.all_cons, List.all_nil, List.getElem?_cons_zero, List.getElem?_cons_succ, List.getElem?_nil, List.mem_cons, List.not_mem_nil, forall_eq_or_imp, forall_eq, Option.getD_some, Option.getD_none, Option.map_some, Option.map_none, Option.isNone_some, Option.isNone_none, Option.isSome_some, Option.isSome_none, ↓reduceIte, ite_true, ite_false, if_true, if_false, true_and, and_true, and_self, false_or, or_false, or_true, true_or, implies_true, forall_const, false_implies, not_false_eq_true, Bool.and_true, Bool.true_and, Bool.and_false, Bool.false_and, Bool.not_true, Bool.not_false, Bool.false_eq_true, Bool.true_eq_false, reduceCtorEq, Nat.reduceEqDiff, Nat.reduceLT, Nat.reduceLeDiff, Nat.reduceAdd, Nat.reduceSub, Nat.reduceMul, Int.toNat_natCast, Int.toNat_zero, Nat.zero_add, Nat.add_zero, Nat.sub_zero, Int.reduceToNat, Int.reduceLE, Int.reduceLT, Int.natCast_nonneg, ne_eq, exists_eq_left, exists_eq_left', exists_eq, exists_and_left, exists_and_right, Option.some.injEq, Prod.mk.injEq, List.cons.injEq, D.v.injEq, D.list.injEq, D.agg.injEq, mB_inj, mI_inj, Value.int.injEq, Value.bool.injEq, decide_eq_true_eq, decide_eq_false_iff_not, Bool.not_eq_true', Bool.not_eq_false', EB, Sp_overdublaw16_Right, Sp_record_Pack, Sp_record_Unpack, Sp_record_Valid, Sp_overdubkeep_Record, Sp_overdubkeep_Copy_byte, Sp_record_Extents, Sp_record_TakeExtents, Sp_overdubkeep_Same_api_Extent, Sp_overdublaw16_wakes, x_bt27, x_bt3, x_el26, x_fo24_4, x_pt27, x_pt3, x_slt22, x_slt26, x_tk22, x_tk24, x_tk5, x_zc24, x_zc5])
  · generalize 1 + within k 5 = k' at *
    obtain ⟨k0, k1, t0, t1, a0, a1, b0, b1, hok, hrl⟩ := validR_facts hv
    have hlen := packR_length k' t' a' b' r
    have hpk : packOut k' t' a' b' r = ⟨.tup [.sl 0 1 0 (packR k' t' a' b' r).length true, .d (.v (.int .i64 0))], [(0, .row 5 1 ((packR k' t' a' b' r).map mB))]⟩ := by rw [packOut, if_pos hv]
    have hun := un_pack hv
    have hle := un_less hv
    have hmo := un_more hv 0
    have hb := packR_byt k' t' a' b' r
    have hx := tex_some hok
    have hxl := exsB_length r
    generalize packR k' t' a' b' r = p at *
    have hr : (∀ e ∈ r, numE e) = True := by simp only [eq_iff_iff, iff_true]; exact fun e he => okE_num (hok e he)
    have hbt : Byt p = True := by simp only [eq_iff_iff, iff_true]; exact hb
    have hbl : Byt (p.take (p.length - 1)) = True := by simp only [eq_iff_iff, iff_true]; exact byt_take hb _
    have hbm : Byt (p ++ [0]) = True := by simp only [eq_iff_iff, iff_true]; exact byt_append hb (byt_cons ⟨by decide, by decide⟩ byt_nil)
    have hbx : Byt (exsB r) = True := by simp only [eq_iff_iff, iff_true]; exact exsB_byt r
    have ht1 : (p.map mB).take p.length = p.map mB := List.take_of_length_le (by simp)
    have ht2 : (r.map eD).take r.length = r.map eD := List.take_of_length_le (by simp)
    have ht3 : ((p ++ [0]).map mB).take (p.length + 1) = (p ++ [0]).map mB := List.take_of_length_le (by simp)
    have ht4 : ((exsB r).map mB).take (exsB r).length = (exsB r).map mB := List.take_of_length_le (by simp)
    have h7 : ((p.length : Int) - 1).toNat = p.length - 1 := by omega
    have hlt : (p.take (p.length - 1)).length = p.length - 1 := by rw [List.length_take]; omega
    have hdn : decide (r = r) = true := decide_eq_true rfl
    repeat' first
                    | (refine AW.seq ?_)
                    | (refine AW.block ?_)
                    | (refine AW.regl EB_ok [0, 1, 2, 3, 4, 5, 6, 8, 10, 11, 12, 51] ?_)
                    | (refine AW.regc (id := 8) EB_ok follows [0, 1, 3, 0, 8, 24, 63, 127, 255, 255, 511, 2047] (by kernel_rfl) [0, 1, 2, 3, 4, 5, 6, 8, 10, 11, 12, 51] ?_)
                    | (refine then_n ?_)
                    | (refine then_r ?_)
                    | (refine then_x ?_)
                    | (refine block_x ?_)
                    | (refine block_o (by decide) ?_)
                    | (refine block_n ?_)
                    | (refine block_r ?_)
                    | (refine AW.skip ?_)
                    | (refine AW.ret ?_)
                    | (refine AW.exit ?_)
                    | (refine AW.cond rfl ?_ ?_ <;> (intro hc; first | cases hc | ((try rw [hc]); (try simp only [not_true_eq_false, not_false_eq_true, decide_true, decide_false, Decidable.not_not, Bool.not_true, Bool.not_false, decide_eq_true_eq, decide_eq_false_iff_not, Bool.not_eq_true', Bool.not_eq_false', Bool.not_eq_true, Bool.not_eq_false, Bool.and_eq_true, Bool.or_eq_true, Bool.false_eq_true, Bool.true_eq_false, Int.not_lt, Int.not_le] at hc); (try (exfalso; omega)))))
                    | ((first
                          | (refine awl_none rfl fun K hK => ?_)
                          | (refine awl_nil ?_)
                          | (refine awl_some rfl rfl (Nat.le_of_ble_eq_true rfl) rfl rfl ?_ ?_ <;> (intro hc; first | cases hc | ((try rw [hc]); (try simp only [not_true_eq_false, not_false_eq_true, decide_true, decide_false, Decidable.not_not, Bool.not_true, Bool.not_false, decide_eq_true_eq, decide_eq_false_iff_not, Bool.not_eq_true', Bool.not_eq_false', Bool.not_eq_true, Bool.not_eq_false, Bool.and_eq_true, Bool.or_eq_true, Bool.false_eq_true, Bool.true_eq_false, Int.not_lt, Int.not_le] at hc); (try (exfalso; omega)))) <;> (try intro K hK))
                          | (refine awc_none rfl fun K hK => ?_)
                          | (refine awc_some rfl rfl (Nat.le_of_ble_eq_true rfl) rfl rfl ?_ ?_ <;> (intro hc; first | cases hc | ((try rw [hc]); (try simp only [not_true_eq_false, not_false_eq_true, decide_true, decide_false, Decidable.not_not, Bool.not_true, Bool.not_false, decide_eq_true_eq, decide_eq_false_iff_not, Bool.not_eq_true', Bool.not_eq_false', Bool.not_eq_true, Bool.not_eq_false, Bool.and_eq_true, Bool.or_eq_true, Bool.false_eq_true, Bool.true_eq_false, Int.not_lt, Int.not_le] at hc); (try (exfalso; omega)))) <;> (try intro K hK))
                          | exact each_nil
                          | (refine each_none rfl ?_ ?_ <;> (try intro bb K hK))
                          | (refine awc_leaf [some 70, some 71, some 72, some 73, some 74, some 75, some 76, some 69, some 77, some 78, some 11, some 12] [[some false, some false, some false, none, none, none, some false, some false, some false, some false, some false, some false], [some true, some false, some false, none, none, none, some false, some false, some false, some false, some false, some false], [some true, some true, some false, none, none, none, some false, some false, some false, some false, some false, some false], [none, none, none, some false, some false, some false, some false, some false, some false, some false, some false, some false], [none, none, none, some true, some false, some false, some false, some false, some false, some false, some false, some false], [none, none, none, some true, some true, some false, some false, some false, some false, some false, some false, some false], [some true, some true, some true, some true, some true, some true, some false, some false, some false, some false, some false, some false], [some true, some true, some true, some true, some true, some true, some true, some false, some false, some false, some false, some false], [some true, some true, some true, some true, some true, some true, some true, some true, some false, none, some false, some false], [some true, some true, some true, some true, some true, some true, some true, some true, none, some false, none, some false], [some true, some true, some true, some true, some true, some true, some true, some true, some true, none, some false, some false], [some true, some true, some true, some true, some true, some true, some true, some true, some true, some true, some true, some false]] rfl (by kernel_rfl) (by kernel_rfl) ?_ ?_))
                       all_goals first
                         | (show Awl _ _ _ _ _; simp only [St.upd, St.put, List.nil_append, List.cons_append, List.singleton_append, List.append_nil])
                         | (show Awc _ _ _ _ _ _; simp only [St.upd, St.put, List.nil_append, List.cons_append, List.singleton_append, List.append_nil])
                         | (show Each _ _ _ _ _ _ _ _; skip)
                         | (simp (disch := omega) only [awl, ev1, evk, evc, gv, e_move, e_pick, e_bin, binW, e_un, e_cnv, e_conv, e_str, e_mark, e_copy, byL_B, byL_nil, e_extract, e_len, e_mm, e_nil, e_index, e_field, e_load, e_fld, e_cut, e_alloc, e_box, e_make, e_build, e_lit, e_store, e_app, e_call, args, pus, pu, pu1, toDL, toD, toD1, toDs, if_le, elems, idsW, idsV, lenV, oint, cutOk, ldV, subD, newD, fillV, cellsV, one1, one0, zD, cD0, b_add, b_sub, b_mul, b_quo, b_rem, b_and, b_or, b_xor, b_eql, b_neq, b_lss, b_leq, b_gtr, b_geq, b_shr_u64, b_shl_u64, b_shr_i64, b_shl_i64, b_shr_u32, b_shl_u32, b_shr_u8, b_shl_u8, scs, St.upd, St.put, St.ev, St.keep, gt, go, tmOf, ofD, dOk, cV, cV0, renM, Value.oneCell', keepL, freshL, vaOL, outB, wkTm, subL, ninL, injL, nm, resW, resL, resV, shift, ren, ren2, ren1, renO, va, va2, va1, vaO, inDom, agg_cells, ref_cells, v_cells, mB_cells, mI_cells, bys_cells, list_cells, nth_B, nth_I, all_B, all_I, sc_B, sc_I, sc_v, set_B, set_I, tt_eq, wrap_id, Int.cast_ofNat_Int, Int.reduceEq, decide_true, decide_false, not_true_eq_false, Nat.le_refl, Int.le_refl, List.size_toArray, false_and, and_false, and_assoc, List.map_cons, List.map_nil, List.nil_append, List.cons_append, List.singleton_append, List.append_nil, List.length_cons, List.length_nil, List.length_map, List.length_append, List.flatMap_cons, List.flatMap_nil, List.take_zero, List.drop_zero, List.take_succ_cons, List.drop_succ_cons, List.take_nil, List.drop_nil, List.head?_cons, List.all_cons, List.all_nil, List.getElem?_cons_zero, List.getElem?_cons_succ, List.getElem?_nil, List.mem_cons, List.not_mem_nil, forall_eq_or_imp, forall_eq, Option.getD_some, Option.getD_none, Option.map_some, Option.map_none, Option.isNone_some, Option.isNone_none, Option.isSome_some, Option.isSome_none, ↓reduceIte, ite_true, ite_false, if_true, if_false, true_and, and_true, and_self, false_or, or_false, or_true, true_or, implies_true, forall_const, false_implies, not_false_eq_true, Bool.and_true, Bool.true_and, Bool.and_false, Bool.false_and, Bool.not_true, Bool.not_false, Bool.false_eq_true, Bool.true_eq_false, reduceCtorEq, Nat.reduceEqDiff, Nat.reduceLT, Nat.reduceLeDiff, Nat.reduceAdd, Nat.reduceSub, Nat.reduceMul, Int.toNat_natCast, Int.toNat_zero, Nat.zero_add, Nat.add_zero, Nat.sub_zero, Int.reduceToNat, Int.reduceLE, Int.reduceLT, Int.natCast_nonneg, ne_eq, exists_eq_left, exists_eq_left', exists_eq, exists_and_left, exists_and_right, Option.some.injEq, Prod.mk.injEq, List.cons.injEq, D.v.injEq, D.list.injEq, D.agg.injEq, mB_inj, mI_inj, Value.int.injEq, Value.bool.injEq, decide_eq_true_eq, decide_eq_false_iff_not, Bool.not_eq_true', Bool.not_eq_false', EB, Sp_overdublaw16_Right, Sp_record_Pack, Sp_record_Unpack, Sp_record_Valid, Sp_overdubkeep_Record, Sp_overdubkeep_Copy_byte, Sp_record_Extents, Sp_record_TakeExtents, Sp_overdubkeep_Same_api_Extent, Sp_overdublaw16_wakes, x_bt27, x_bt3, x_el26, x_fo24_4, x_pt27, x_pt3, x_slt22, x_slt26, x_tk22, x_tk24, x_tk5, x_zc24, x_zc5, hq, hr, ho, eD_inj, hpk, hv, hun, hle, hmo, sc_E, sc_B, sameR_self, hbt, hbl, hbm, hbx, ht1, ht2, ht3, ht4, cutOk, map_take', h7, hlt, snoc_B, hx, mB_inj, hdn, all_B, all_E, Sg3, St.updIf, ifc_nil, gt_ifc, go_ifc, ite_self, Option.none_or, Option.some_or]
                            (try ((repeat' first | (refine And.intro ?_ ?_) | (intro hc; first | cases hc | ((try rw [hc]); (try simp only [not_true_eq_false, not_false_eq_true, decide_true, decide_false, Decidable.not_not, Bool.not_true, Bool.not_false, decide_eq_true_eq, decide_eq_false_iff_not, Bool.not_eq_true', Bool.not_eq_false', Bool.not_eq_true, Bool.not_eq_false, Bool.and_eq_true, Bool.or_eq_true, Bool.false_eq_true, Bool.true_eq_false, Int.not_lt, Int.not_le] at hc); (try (exfalso; omega)))))
                                  all_goals first | (refine hK _ _ ?_; clear hK K; simp only [St.upd, St.put, List.nil_append, List.cons_append, List.singleton_append, List.append_nil]) | exact hK | omega))))
    all_goals (refine Ends.of (nm []) (by first | exact .inl rfl | exact .inr rfl) ?_; simp (disch := omega) only [awl, ev1, evk, evc, gv, e_move, e_pick, e_bin, binW, e_un, e_cnv, e_conv, e_str, e_mark, e_copy, byL_B, byL_nil, e_extract, e_len, e_mm, e_nil, e_index, e_field, e_load, e_fld, e_cut, e_alloc, e_box, e_make, e_build, e_lit, e_store, e_app, e_call, args, pus, pu, pu1, toDL, toD, toD1, toDs, if_le, elems, idsW, idsV, lenV, oint, cutOk, ldV, subD, newD, fillV, cellsV, one1, one0, zD, cD0, b_add, b_sub, b_mul, b_quo, b_rem, b_and, b_or, b_xor, b_eql, b_neq, b_lss, b_leq, b_gtr, b_geq, b_shr_u64, b_shl_u64, b_shr_i64, b_shl_i64, b_shr_u32, b_shl_u32, b_shr_u8, b_shl_u8, scs, St.upd, St.put, St.ev, St.keep, gt, go, tmOf, ofD, dOk, cV, cV0, renM, Value.oneCell', keepL, freshL, vaOL, outB, wkTm, subL, ninL, injL, nm, resW, resL, resV, shift, ren, ren2, ren1, renO, va, va2, va1, vaO, inDom, agg_cells, ref_cells, v_cells, mB_cells, mI_cells, bys_cells, list_cells, nth_B, nth_I, all_B, all_I, sc_B, sc_I, sc_v, set_B, set_I, tt_eq, wrap_id, Int.cast_ofNat_Int, Int.reduceEq, decide_true, decide_false, not_true_eq_false, Nat.le_refl, Int.le_refl, List.size_toArray, false_and, and_false, and_assoc, List.map_cons, List.map_nil, List.nil_append, List.cons_append, List.singleton_append, List.append_nil, List.length_cons, List.length_nil, List.length_map, List.length_append, List.flatMap_cons, List.flatMap_nil, List.take_zero, List.drop_zero, List.take_succ_cons, List.drop_succ_cons, List.take_nil, List.drop_nil, List.head?_cons, List.all_cons, List.all_nil, List.getElem?_cons_zero, List.getElem?_cons_succ, List.getElem?_nil, List.mem_cons, List.not_mem_nil, forall_eq_or_imp, forall_eq, Option.getD_some, Option.getD_none, Option.map_some, Option.map_none, Option.isNone_some, Option.isNone_none, Option.isSome_some, Option.isSome_none, ↓reduceIte, ite_true, ite_false, if_true, if_false, true_and, and_true, and_self, false_or, or_false, or_true, true_or, implies_true, forall_const, false_implies, not_false_eq_true, Bool.and_true, Bool.true_and, Bool.and_false, Bool.false_and, Bool.not_true, Bool.not_false, Bool.false_eq_true, Bool.true_eq_false, reduceCtorEq, Nat.reduceEqDiff, Nat.reduceLT, Nat.reduceLeDiff, Nat.reduceAdd, Nat.reduceSub, Nat.reduceMul, Int.toNat_natCast, Int.toNat_zero, Nat.zero_add, Nat.add_zero, Nat.sub_zero, Int.reduceToNat, Int.reduceLE, Int.reduceLT, Int.natCast_nonneg, ne_eq, exists_eq_left, exists_eq_left', exists_eq, exists_and_left, exists_and_right, Option.some.injEq, Prod.mk.injEq, List.cons.injEq, D.v.injEq, D.list.injEq, D.agg.injEq, mB_inj, mI_inj, Value.int.injEq, Value.bool.injEq, decide_eq_true_eq, decide_eq_false_iff_not, Bool.not_eq_true', Bool.not_eq_false', EB, Sp_overdublaw16_Right, Sp_record_Pack, Sp_record_Unpack, Sp_record_Valid, Sp_overdubkeep_Record, Sp_overdubkeep_Copy_byte, Sp_record_Extents, Sp_record_TakeExtents, Sp_overdubkeep_Same_api_Extent, Sp_overdublaw16_wakes, x_bt27, x_bt3, x_el26, x_fo24_4, x_pt27, x_pt3, x_slt22, x_slt26, x_tk22, x_tk24, x_tk5, x_zc24, x_zc5])
theorem ent_overdublaw16_RecordBack : Ent Try.prog 3 := ⟨_, Try.func3, rfl, by decide⟩
end Go.Proofs.Yteegiejdoffgfaa.Am
