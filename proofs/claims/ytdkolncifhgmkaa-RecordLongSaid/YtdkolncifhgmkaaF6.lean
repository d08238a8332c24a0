/- Contracts: the laws' own functions. -/
import Derived.Test.YtdkolncifhgmkaaF5
set_option linter.unusedVariables false
set_option linter.unusedSimpArgs false
set_option maxRecDepth 10000
set_option maxHeartbeats 0
namespace Go.Proofs.Ytdkolncifhgmkaa.Am
open Go Go.RowKit Go.Proofs


noncomputable def E5 : Env := ⟨Try.prog, fun f ds out => (f = 5 ∧ Sp_record_Pack ds out) ∨ (f = 6 ∧ Sp_record_Valid ds out) ∨ (f = 4 ∧ Sp_overdubkeep_Within ds out), Es⟩
theorem E5_sp : ∀ f ds out, E5.Sp f ds out → Ent E5.P f ∧ Good E5.P f (fun a b => a = ds ∧ b = out) := by
  rintro f ds out (⟨rfl, h⟩ | ⟨rfl, h⟩ | ⟨rfl, h⟩)
  · exact ⟨ent_record_Pack, good_record_Pack.one h⟩
  · exact ⟨ent_record_Valid, good_record_Valid.one h⟩
  · exact ⟨ent_overdubkeep_Within, good_overdubkeep_Within.one h⟩
theorem E5_ok : E5.Ok := ⟨E5_sp, Es_ok⟩
def Sp_overdublaw16_wakes (ds : List D) (out : Out) : Prop := ds = [] ∧ out = ⟨.d (.v (.bool true)), []⟩
theorem good_overdublaw16_wakes : Good Try.prog 9 Sp_overdublaw16_wakes := by
  refine good_body (E := E5) (nt := 15) (rs := #[.tmp 0]) Try.func9 rfl rfl rfl ?_
  rintro ds out ⟨rfl, rfl⟩
  refine ⟨by simp, ?_⟩
  repeat' first
                    | (refine AW.seq ?_)
                    | (refine AW.block ?_)
                    | (refine AW.regl E5_ok [0, 1, 2] ?_)
                    | (refine then_n ?_)
                    | (refine then_r ?_)
                    | (refine then_x ?_)
                    | (refine block_x ?_)
                    | (refine block_o (by decide) ?_)
                    | (refine block_n ?_)
                    | (refine block_r ?_)
                    | (refine AW.skip ?_)
                    | (refine AW.ret ?_)
                    | (refine AW.exit ?_)
                    | (refine AW.cond rfl ?_ ?_ <;> (intro hc; first | cases hc | ((try rw [hc]); (try simp only [not_true_eq_false, not_false_eq_true, decide_true, decide_false, Decidable.not_not, Bool.not_true, Bool.not_false, decide_eq_true_eq, decide_eq_false_iff_not, Bool.not_eq_true', Bool.not_eq_false', Bool.not_eq_true, Bool.not_eq_false, Bool.and_eq_true, Bool.or_eq_true, Bool.false_eq_true, Bool.true_eq_false, Int.not_lt, Int.not_le] at hc); (try (exfalso; omega)))))
                    | ((first
                          | (refine awl_none rfl fun K hK => ?_)
                          | (refine awl_nil ?_)
                          | (refine awl_some rfl rfl (Nat.le_of_ble_eq_true rfl) rfl rfl ?_ ?_ <;> (intro hc; first | cases hc | ((try rw [hc]); (try simp only [not_true_eq_false, not_false_eq_true, decide_true, decide_false, Decidable.not_not, Bool.not_true, Bool.not_false, decide_eq_true_eq, decide_eq_false_iff_not, Bool.not_eq_true', Bool.not_eq_false', Bool.not_eq_true, Bool.not_eq_false, Bool.and_eq_true, Bool.or_eq_true, Bool.false_eq_true, Bool.true_eq_false, Int.not_lt, Int.not_le] at hc); (try (exfalso; omega)))) <;> (try intro K hK)))
                       all_goals first
                         | (show Awl _ _ _ _ _; simp only [St.upd, St.put, List.nil_append, List.cons_append, List.singleton_append, List.append_nil])
                         | (simp (disch := omega) only [awl, ev1, evk, evc, gv, e_move, e_pick, e_bin, binW, e_un, e_cnv, e_conv, e_str, e_mark, e_copy, byL_B, byL_nil, e_extract, e_len, e_mm, e_nil, e_index, e_field, e_load, e_fld, e_cut, e_alloc, e_box, e_make, e_build, e_lit, e_store, e_app, e_call, args, pus, pu, pu1, toDL, toD, toD1, toDs, if_le, elems, idsW, idsV, lenV, oint, cutOk, ldV, subD, newD, fillV, cellsV, one1, one0, zD, cD0, b_add, b_sub, b_mul, b_quo, b_rem, b_and, b_or, b_xor, b_eql, b_neq, b_lss, b_leq, b_gtr, b_geq, b_shr_u64, b_shl_u64, b_shr_i64, b_shl_i64, b_shr_u32, b_shl_u32, b_shr_u8, b_shl_u8, scs, St.upd, St.put, St.ev, St.keep, gt, go, tmOf, ofD, dOk, cV, cV0, renM, Value.oneCell', keepL, freshL, vaOL, outB, wkTm, subL, ninL, injL, nm, resW, resL, resV, shift, ren, ren2, ren1, renO, va, va2, va1, vaO, inDom, agg_cells, ref_cells, v_cells, mB_cells, mI_cells, bys_cells, list_cells, nth_B, nth_I, all_B, all_I, sc_B, sc_I, sc_v, set_B, set_I, tt_eq, wrap_id, Int.cast_ofNat_Int, Int.reduceEq, decide_true, decide_false, not_true_eq_false, Nat.le_refl, Int.le_refl, List.size_toArray, false_and, and_false, and_assoc, List.map_cons, List.map_nil, List.nil_append, List.cons_append, List.singleton_append, List.append_nil, List.length_cons, List.length_nil, List.length_map, List.length_append, List.flatMap_cons, List.flatMap_nil, List.take_zero, List.drop_zero, List.take_succ_cons, List.drop_succ_cons, List.take_nil, List.drop_nil, List.head?_cons, List.all_cons, List.all_nil, List.getElem?_cons_zero, List.getElem?_cons_succ, List.getElem?_nil, List.mem_cons, List.not_mem_nil, forall_eq_or_imp, forall_eq, Option.getD_some, Option.getD_none, Option.map_some, Option.map_none, Option.isNone_some, Option.isNone_none, Option.isSome_some, Option.isSome_none, ↓reduceIte, ite_true, ite_false, if_true, if_false, true_and, and_true, and_self, false_or, or_false, or_true, true_or, implies_true, forall_const, false_implies, not_false_eq_true, Bool.and_true, Bool.true_and, Bool.and_false, Bool.false_and, Bool.not_true, Bool.not_false, Bool.false_eq_true, Bool.true_eq_false, reduceCtorEq, Nat.reduceEqDiff, Nat.reduceLT, Nat.reduceLeDiff, Nat.reduceAdd, Nat.reduceSub, Nat.reduceMul, Int.toNat_natCast, Int.toNat_zero, Nat.zero_add, Nat.add_zero, Nat.sub_zero, Int.reduceToNat, Int.reduceLE, Int.reduceLT, Int.natCast_nonneg, ne_eq, exists_eq_left, exists_eq_left', exists_eq, exists_and_left, exists_and_right, Option.some.injEq, Prod.mk.injEq, List.cons.injEq, D.v.injEq, D.list.injEq, D.agg.injEq, mB_inj, mI_inj, Value.int.injEq, Value.bool.injEq, decide_eq_true_eq, decide_eq_false_iff_not, Bool.not_eq_true', Bool.not_eq_false', E5, Sp_record_Pack, x_bt29, x_bt3, x_pl27, x_pt29, x_pt3, x_slt28, x_zc27, nil_E, po_wk]
                            (try ((repeat' first | (refine And.intro ?_ ?_) | (intro hc; first | cases hc | ((try rw [hc]); (try simp only [not_true_eq_false, not_false_eq_true, decide_true, decide_false, Decidable.not_not, Bool.not_true, Bool.not_false, decide_eq_true_eq, decide_eq_false_iff_not, Bool.not_eq_true', Bool.not_eq_false', Bool.not_eq_true, Bool.not_eq_false, Bool.and_eq_true, Bool.or_eq_true, Bool.false_eq_true, Bool.true_eq_false, Int.not_lt, Int.not_le] at hc); (try (exfalso; omega)))))
                                  all_goals first | (refine hK _ _ ?_; clear hK K; simp only [St.upd, St.put, List.nil_append, List.cons_append, List.singleton_append, List.append_nil]) | exact hK | omega))))
  (refine Ends.of (nm []) (by first | exact .inl rfl | exact .inr rfl) ?_; simp (disch := omega) only [awl, ev1, evk, evc, gv, e_move, e_pick, e_bin, binW, e_un, e_cnv, e_conv, e_str, e_mark, e_copy, byL_B, byL_nil, e_extract, e_len, e_mm, e_nil, e_index, e_field, e_load, e_fld, e_cut, e_alloc, e_box, e_make, e_build, e_lit, e_store, e_app, e_call, args, pus, pu, pu1, toDL, toD, toD1, toDs, if_le, elems, idsW, idsV, lenV, oint, cutOk, ldV, subD, newD, fillV, cellsV, one1, one0, zD, cD0, b_add, b_sub, b_mul, b_quo, b_rem, b_and, b_or, b_xor, b_eql, b_neq, b_lss, b_leq, b_gtr, b_geq, b_shr_u64, b_shl_u64, b_shr_i64, b_shl_i64, b_shr_u32, b_shl_u32, b_shr_u8, b_shl_u8, scs, St.upd, St.put, St.ev, St.keep, gt, go, tmOf, ofD, dOk, cV, cV0, renM, Value.oneCell', keepL, freshL, vaOL, outB, wkTm, subL, ninL, injL, nm, resW, resL, resV, shift, ren, ren2, ren1, renO, va, va2, va1, vaO, inDom, agg_cells, ref_cells, v_cells, mB_cells, mI_cells, bys_cells, list_cells, nth_B, nth_I, all_B, all_I, sc_B, sc_I, sc_v, set_B, set_I, tt_eq, wrap_id, Int.cast_ofNat_Int, Int.reduceEq, decide_true, decide_false, not_true_eq_false, Nat.le_refl, Int.le_refl, List.size_toArray, false_and, and_false, and_assoc, List.map_cons, List.map_nil, List.nil_append, List.cons_append, List.singleton_append, List.append_nil, List.length_cons, List.length_nil, List.length_map, List.length_append, List.flatMap_cons, List.flatMap_nil, List.take_zero, List.drop_zero, List.take_succ_cons, List.drop_succ_cons, List.take_nil, List.drop_nil, List.head?_cons, List.all_cons, List.all_nil, List.getElem?_cons_zero, List.getElem?_cons_succ, List.getElem?_nil, List.mem_cons, List.not_mem_nil, forall_eq_or_imp, forall_eq, Option.getD_some, Option.getD_none, Option.map_some, Option.map_none, Option.isNone_some, Option.isNone_none, Option.isSome_some, Option.isSome_none, ↓reduceIte, ite_true, ite_false, if_true, if_false, true_and, and_true, and_self, false_or, or_false, or_true, true_or, implies_true, forall_const, false_implies, not_false_eq_true, Bool.and_true, Bool.true_and, Bool.and_false, Bool.false_and, Bool.not_true, Bool.not_false, Bool.false_eq_true, Bool.true_eq_false, reduceCtorEq, Nat.reduceEqDiff, Nat.reduceLT, Nat.reduceLeDiff, Nat.reduceAdd, Nat.reduceSub, Nat.reduceMul, Int.toNat_natCast, Int.toNat_zero, Nat.zero_add, Nat.add_zero, Nat.sub_zero, Int.reduceToNat, Int.reduceLE, Int.reduceLT, Int.natCast_nonneg, ne_eq, exists_eq_left, exists_eq_left', exists_eq, exists_and_left, exists_and_right, Option.some.injEq, Prod.mk.injEq, List.cons.injEq, D.v.injEq, D.list.injEq, D.agg.injEq, mB_inj, mI_inj, Value.int.injEq, Value.bool.injEq, decide_eq_true_eq, decide_eq_false_iff_not, Bool.not_eq_true', Bool.not_eq_false', E5, Sp_record_Pack, x_bt29, x_bt3, x_pl27, x_pt29, x_pt3, x_slt28, x_zc27])
theorem ent_overdublaw16_wakes : Ent Try.prog 9 := ⟨_, Try.func9, rfl, by decide⟩

theorem nth_rE (l : List Xt) (k : Nat) (h : k < l.length) : nth (l.map eD) k = .agg [.v (.int .i64 (l.getD k x0).f0), .v (.int .i64 (l.getD k x0).f1), .v (.int .i64 (l.getD k x0).f2), .v (.int .i64 (l.getD k x0).f3), .v (.int .i64 (l.getD k x0).f4)] := nth_E l k h
theorem within_rng {v n : Int} (hn : 1 ≤ n) : 0 ≤ within v n ∧ within v n < n := by
  unfold within
  rw [if_neg (by omega)]
  have h1 := Int.tmod_lt_of_pos v (show 0 < n by omega)
  have h2 := Int.lt_tmod_of_pos v (show 0 < n by omega)
  split <;> omega
/-- A piece that the law makes of any one. -/
def rowE (s : Int) (e : Xt) : Xt := ⟨s, 1 + within e.f1 4095, 1 + within e.f2 64, within e.f3 (1 + within e.f2 64), 1 + within e.f4 (1 + within e.f2 64 - within e.f3 (1 + within e.f2 64))⟩
def rowG : Nat → Int → List Xt → List Xt
  | 0, _, _ => []
  | _, _, [] => []
  | m + 1, s, e :: l => if (rowE s e).f4 > 1000 - s then [] else rowE s e :: rowG m (s + (rowE s e).f4) l
theorem snoc_E (l : List Xt) (a b c d e : Int) : l.map eD ++ [D.agg [.v (.int .i64 a), .v (.int .i64 b), .v (.int .i64 c), .v (.int .i64 d), .v (.int .i64 e)]] = (l ++ [Xt.mk a b c d e]).map eD := by simp [eD, mI]
theorem rowG_cons {m s : Int} {k : Nat} {e : Xt} {l : List Xt} (h : (k : Int) < m) : rowG (m.toNat - k) s (e :: l) = if (rowE s e).f4 > 1000 - s then [] else rowE s e :: rowG (m.toNat - (k + 1)) (s + (rowE s e).f4) l := by
  obtain ⟨q, hq⟩ : ∃ q, m.toNat - k = q + 1 := ⟨m.toNat - k - 1, by omega⟩
  rw [hq, show m.toNat - (k + 1) = q by omega]
  rfl
theorem rowG_zero {m s : Int} {k : Nat} {l : List Xt} (h : m ≤ k) : rowG (m.toNat - k) s l = [] := by
  rw [show m.toNat - k = 0 by omega]
  cases l <;> rfl
theorem rowG_nil (n : Nat) (s : Int) : rowG n s [] = [] := by cases n <;> rfl
theorem rowG_ok : ∀ (n : Nat) (s : Int) (l : List Xt), 0 ≤ s → s ≤ 1000 → vRow s (rowG n s l) = true ∧ (rowG n s l).length ≤ n
  | 0, s, l, _, _ => by cases l <;> simp [rowG, vRow]
  | n + 1, s, [], _, _ => by simp [rowG, vRow]
  | n + 1, s, e :: l, h0, h1 => by
    have w1 := within_rng (v := e.f1) (n := 4095) (by omega)
    have w2 := within_rng (v := e.f2) (n := 64) (by omega)
    have w3 := within_rng (v := e.f3) (n := 1 + within e.f2 64) (by omega)
    have w4 := within_rng (v := e.f4) (n := 1 + within e.f2 64 - within e.f3 (1 + within e.f2 64)) (by omega)
    by_cases hc : (rowE s e).f4 > 1000 - s
    · rw [rowG, if_pos hc]; simp [vRow]
    · rw [rowG, if_neg hc]
      simp only [rowE] at hc
      have ih := rowG_ok n (s + (rowE s e).f4) l (by simp only [rowE]; omega) (by simp only [rowE]; omega)
      constructor
      · have o1 : oneE (rowE s e) = true := decide_eq_true (by dsimp only [rowE]; omega)
        have o2 : decide ((rowE s e).f4 ≤ 1000 - s) = true := decide_eq_true (by dsimp only [rowE]; omega)
        have o3 : decide ((rowE s e).f0 = s) = true := decide_eq_true rfl
        rw [vRow, o1, o2, o3, ih.1]
        rfl
      · have := ih.2
        simp only [List.length_cons]
        omega
theorem numE_row (l : List Xt) (n : Nat) : ∀ e ∈ rowG n 0 l, numE e := fun e he => okE_num ((vRow_facts _ 0 (by omega) (by omega) (rowG_ok n 0 l (by omega) (by omega)).1).1 e he)
end Go.Proofs.Ytdkolncifhgmkaa.Am
