/- The law SuperUnlike: what it comes to. -/
import Derived.Test.YtceoegbljkbgeaaZS5
import Derived.Test.YtceoegbljkbgeaaZZm
import Derived.Test.YtceoegbljkbgeaaZH1
set_option linter.unusedVariables false
set_option linter.unusedSimpArgs false
set_option maxRecDepth 10000
set_option maxHeartbeats 0
namespace Go.Proofs.Ytceoegbljkbgeaa.Am
open Go Go.RowKit Go.Proofs

noncomputable def Z8 : Env := ⟨Try.prog, fun f ds out => (f = 9 ∧ Sp_overdublaw14_Small ds out) ∨ (f = 10 ∧ Sp_overdubkeep_Within ds out) ∨ (f = 15 ∧ Sp_super_Pack ds out) ∨ (f = 16 ∧ Sp_overdubkeep_Same_byte ds out) ∨ (f = 17 ∧ Sp_super_Unpack ds out) ∨ (f = 14 ∧ Sp_overdublaw14_wakes ds out), Es⟩
theorem Z8_sp : ∀ f ds out, Z8.Sp f ds out → Ent Z8.P f ∧ Good Z8.P f (fun a b => a = ds ∧ b = out) := by
  rintro f ds out (⟨rfl, h⟩ | ⟨rfl, h⟩ | ⟨rfl, h⟩ | ⟨rfl, h⟩ | ⟨rfl, h⟩ | ⟨rfl, h⟩)
  · exact ⟨ent_overdublaw14_Small, good_overdublaw14_Small.one h⟩
  · exact ⟨ent_overdubkeep_Within, good_overdubkeep_Within.one h⟩
  · exact ⟨ent_super_Pack, good_super_Pack.one h⟩
  · exact ⟨ent_overdubkeep_Same_byte, good_overdubkeep_Same_byte.one h⟩
  · exact ⟨ent_super_Unpack, good_super_Unpack.one h⟩
  · exact ⟨ent_overdublaw14_wakes, good_overdublaw14_wakes.one h⟩
theorem Z8_ok : Z8.Ok := ⟨Z8_sp, Es_ok⟩
def Sp_overdublaw14_SuperUnlike (ds : List D) (out : Out) : Prop := ∃ (g l d r g' l' d' r' n m : Int) (tw : Bool) (wh : Int), ds = [.agg [.v (.int .i64 g), .v (.int .i64 l), .v (.int .i64 d), .v (.int .i64 r)], .agg [.v (.int .i64 g'), .v (.int .i64 l'), .v (.int .i64 d'), .v (.int .i64 r')], .v (.int .i64 n), .v (.int .i64 m), .v (.bool tw), .v (.int .i64 wh)] ∧ out = ⟨.d (.v (.bool true)), []⟩
def stU (tw : Bool) (wh : Int) (p : Su × Su × Int × Int) : St := ⟨[(2, .d (.v (.int .i64 p.2.2.1))), (3, .d (.v (.int .i64 p.2.2.2))), (4, .d (.v (.bool tw))), (5, .d (.v (.int .i64 wh))), (6, .ptr 6 0), (7, .ptr 7 0), (12, .d (.v (.bool false)))], [(6, .box (bxS p.1)), (7, .box (bxS p.2.1))], 96⟩
def gU (p : Su × Su × Int × Int) : Prop := smS p.1 ∧ smS p.2.1 ∧ (1 ≤ p.2.2.1 ∧ p.2.2.1 ≤ 99) ∧ (1 ≤ p.2.2.2 ∧ p.2.2.2 ≤ 99)
def cc_overdublaw14_SuperUnlike_1 : List (List (Option Bool)) := [[some false, some false, none, some false, some false, some false], [some true, some false, none, some false, some false, some false], [none, none, some false, some false, some false, some false], [some true, some true, some true, some false, some false, some false], [some true, some true, some true, some true, some false, some false], [some true, some true, some true, some true, some true, some false]]
def cc_overdublaw14_SuperUnlike_5 : List (List (Option Bool)) := [[some false, none, some false, none, none, some false, some false, some false], [none, some false, some false, none, none, some false, some false, some false], [some true, some true, some false, none, none, some false, some false, some false], [none, none, none, some false, none, some false, some false, some false], [none, none, none, none, some false, some false, some false, some false], [some true, some true, some true, some true, some true, some false, some false, some false], [some true, some true, some true, some true, some true, some true, some false, some false], [some true, some true, some true, some true, some true, some true, some true, some false]]
def cc_overdublaw14_SuperUnlike_6 : List (List (Option Bool)) := [[some false, some false, some false, some false, some false, some false, some false, some false, some false, some false, some false, some false, some false, some false, some false, some false, some false], [some true, some false, some false, some false, some false, some false, some false, some false, some false, some false, some false, some false, some false, some false, some false, some false, some false], [some true, some true, some false, some false, some false, some false, some false, some false, some false, some false, some false, some false, some false, some false, some false, some false, some false], [some true, some true, some true, some false, some false, some false, some false, some false, some false, some false, some false, some false, some false, some false, some false, some false, some false], [some true, some true, some true, some true, some false, none, some false, none, none, none, some false, some false, some false, some false, some false, some false, some false], [some true, some true, some true, some true, none, some false, some false, none, none, none, some false, some false, some false, some false, some false, some false, some false], [some true, some true, some true, some true, some true, some true, some false, none, none, none, some false, some false, some false, some false, some false, some false, some false], [some true, some true, some true, some true, none, none, none, some false, none, some false, some false, some false, some false, some false, some false, some false, some false], [some true, some true, some true, some true, none, none, none, none, some false, some false, some false, some false, some false, some false, some false, some false, some false], [some true, some true, some true, some true, none, none, none, some true, some true, some false, some false, some false, some false, some false, some false, some false, some false], [some true, some true, some true, some true, some true, some true, some true, some true, some true, some true, some false, some false, some false, some false, some false, some false, some false], [some true, some true, some true, some true, some true, some true, some true, some true, some true, some true, some true, some false, none, some false, some false, some false, some false], [some true, some true, some true, some true, some true, some true, some true, some true, some true, some true, some true, none, some false, some false, some false, some false, some false], [some true, some true, some true, some true, some true, some true, some true, some true, some true, some true, some true, some true, some true, some false, some false, some false, some false], [some true, some true, some true, some true, some true, some true, some true, some true, some true, some true, some true, some true, some true, some true, some false, some false, some false], [some true, some true, some true, some true, some true, some true, some true, some true, some true, some true, some true, some true, some true, some true, some true, some false, some false], [some true, some true, some true, some true, some true, some true, some true, some true, some true, some true, some true, some true, some true, some true, some true, some true, some false]]
theorem good_overdublaw14_SuperUnlike : Good Try.prog 4 Sp_overdublaw14_SuperUnlike := by
  refine good_body (E := Z8) (nt := 96) (rs := #[.tmp 12]) Try.func4 rfl rfl rfl ?_
  rintro ds out ⟨g, l, d, r, g', l', d', r', n, m, tw, wh, rfl, rfl⟩
  refine ⟨by simp, ?_⟩
  refine AW.mids ⟨[(2, .d (.v (.int .i64 n))), (3, .d (.v (.int .i64 m))), (4, .d (.v (.bool tw))), (5, .d (.v (.int .i64 wh))), (6, .ptr 6 0), (7, .ptr 7 0), (12, .d (.v (.bool false)))], [(6, .box (bxS ⟨g, l, d, r⟩)), (7, .box (bxS ⟨g', l', d', r'⟩))], 96⟩ ?_ ?_
  · repeat' first
                    | (refine AW.seq ?_)
                    | (refine AW.block ?_)
                    | (refine AW.regl Z8_ok [0, 1, 2, 3, 4, 5, 6, 7, 12, 13, 14, 15, 18, 21, 32, 57, 60, 61, 64, 67, 70] ?_)
                    | (refine AW.regc (id := 1) Z8_ok follows [0, 1, 0, 7, 15, 31] (by kernel_rfl) [0, 1, 2, 3, 4, 5, 6, 7, 12, 13, 14, 15, 18, 21, 32, 57, 60, 61, 64, 67, 70] ?_)
                    | (refine AW.regc (id := 5) Z8_ok follows [0, 0, 3, 0, 0, 31, 63, 127] (by kernel_rfl) [0, 1, 2, 3, 4, 5, 6, 7, 12, 13, 14, 15, 18, 21, 32, 57, 60, 61, 64, 67, 70] ?_)
                    | (refine AW.regc (id := 6) Z8_ok follows [0, 1, 3, 7, 15, 15, 63, 15, 15, 399, 1023, 2047, 2047, 8191, 16383, 32767, 65535] (by kernel_rfl) [0, 1, 2, 3, 4, 5, 6, 7, 12, 13, 14, 15, 18, 21, 32, 57, 60, 61, 64, 67, 70] ?_)
                    | (refine then_n ?_)
                    | (refine then_r ?_)
                    | (refine then_x ?_)
                    | (refine block_x ?_)
                    | (refine block_o (by decide) ?_)
                    | (refine block_n ?_)
                    | (refine block_r ?_)
                    | (refine AW.skip ?_)
                    | (refine AW.ret ?_)
                    | (refine AW.exit ?_)
                    | (refine AW.cond rfl ?_ ?_ <;> (intro hc; first | cases hc | ((try rw [hc]); (try simp only [stH] at hc); (try (exfalso; omega)))))
                    | ((first
                          | (refine awl_none rfl fun K hK => ?_)
                          | (refine awl_nil ?_)
                          | (refine awl_some rfl rfl (Nat.le_of_ble_eq_true rfl) rfl rfl ?_ ?_ <;> (intro hc; first | cases hc | ((try rw [hc]); (try simp only [stH] at hc); (try (exfalso; omega)))) <;> (try intro K hK))
                          | (refine awl_skip rfl rfl (Nat.le_of_ble_eq_true rfl) rfl rfl ?_)
                          | (refine awc_none rfl fun K hK => ?_)
                          | (refine awc_some rfl rfl (Nat.le_of_ble_eq_true rfl) rfl rfl ?_ ?_ <;> (intro hc; first | cases hc | ((try rw [hc]); (try simp only [stH] at hc); (try (exfalso; omega)))) <;> (try intro K hK))
                          | exact each_nil
                          | (refine each_some rfl rfl (Nat.le_of_ble_eq_true rfl) (fun bb => by (simp only [Sg3, St.updIf, St.upd, St.put, ifc_nil, gt_ifc, gt, List.nil_append, List.cons_append, Option.some.injEq, reduceCtorEq, Nat.reduceEqDiff, ↓reduceIte, ite_self]; try rfl)) rfl ?_ ?_ <;> first | (show Each _ _ _ _ _ _ _ _; skip) | (rw [if_pos rfl]; intro bb K hK) | (rw [if_neg (by decide)]; exact ⟨rfl, rfl⟩))
                          | (refine each_none rfl ?_ ?_ <;> (try intro bb K hK))
                          | (refine awc_leaf [some 22, some 23, some 24, some 25, none, none] cc_overdublaw14_SuperUnlike_1 rfl (by kernel_rfl) (by kernel_rfl) ?_ ?_)
                          | (refine awc_leaf [some 35, some 36, some 37, some 38, some 39, some 40, some 13, some 14] cc_overdublaw14_SuperUnlike_5 rfl (by kernel_rfl) (by kernel_rfl) ?_ ?_)
                          | (refine awc_leaf [some 41, some 42, some 43, some 44, some 45, some 46, some 47, some 48, some 49, some 50, some 51, some 52, some 53, some 54, some 55, some 56, some 57] cc_overdublaw14_SuperUnlike_6 rfl (by kernel_rfl) (by kernel_rfl) ?_ ?_))
                       all_goals first
                         | (show Awl _ _ _ _ _; simp only [St.upd, St.put, List.nil_append, List.cons_append, List.singleton_append, List.append_nil])
                         | (show Awc _ _ _ _ _ _; simp only [St.upd, St.put, List.nil_append, List.cons_append, List.singleton_append, List.append_nil])
                         | (show Each _ _ _ _ _ _ _ _; skip)
                         | (simp (disch := omega) only [awl, ev1, evk, evc, gv, e_move, e_pick, e_bin, binW, e_un, e_cnv, e_conv, e_str, e_mark, e_copy, e_extract, e_len, e_mm, e_nil, e_index, e_field, e_load, e_fld, e_cut, e_alloc, e_box, e_make, e_build, e_lit, e_store, e_app, e_call, args, pus, pu, pu1, toDL, toD, toD1, toDs, elems, idsW, idsV, lenV, oint, cutOk, ldV, subD, newD, fillV, cellsV, one1, one0, zD, cD0, scs, St.upd, St.put, St.ev, St.keep, gt, go, tmOf, ofD, dOk, cV, cV0, renM, Value.oneCell', keepL, freshL, vaOL, outB, wkTm, subL, ninL, injL, nm, resW, resL, resV, shift, ren, ren2, ren1, renO, va, va2, va1, vaO, inDom, stA, Int.reduceEq, ↓reduceIte, reduceCtorEq, Nat.reduceEqDiff, Nat.reduceLT, Nat.reduceLeDiff, Nat.reduceAdd, Nat.reduceSub, Nat.reduceMul, Int.reduceToNat, Int.reduceLE, Int.reduceLT, Z8, Sp_overdublaw14_Small, Sp_overdubkeep_Within, Sp_super_Pack, Sp_overdubkeep_Same_byte, Sp_super_Unpack, Sp_overdublaw14_wakes, x_bt23, x_bt3, x_bt4, x_el24, x_es23, x_fo23_0, x_fo23_1, x_fo23_3, x_pt23, x_pt3, x_pt4, x_slt24, x_tk23, x_tk3, x_zc23, Sg3, St.updIf, ifc_nil, gt_ifc, go_ifc, ite_self, Option.none_or, Option.some_or]
                            (try ((repeat' first | (refine And.intro ?_ ?_) | (intro hc; first | cases hc | ((try rw [hc]); (try simp only [stH] at hc); (try (exfalso; omega)))))
                                  all_goals first | (refine hK _ _ ?_; clear hK K; simp only [St.upd, St.put, List.nil_append, List.cons_append, List.singleton_append, List.append_nil]) | exact hK | omega))))
    refine ⟨rfl, nm [], Wk.of ?_⟩
    simp (disch := omega) only [awl, ev1, evk, evc, gv, e_move, e_pick, e_bin, binW, e_un, e_cnv, e_conv, e_str, e_mark, e_copy, e_extract, e_len, e_mm, e_nil, e_index, e_field, e_load, e_fld, e_cut, e_alloc, e_box, e_make, e_build, e_lit, e_store, e_app, e_call, args, pus, pu, pu1, toDL, toD, toD1, toDs, elems, idsW, idsV, lenV, oint, cutOk, ldV, subD, newD, fillV, cellsV, one1, one0, zD, cD0, scs, St.upd, St.put, St.ev, St.keep, gt, go, tmOf, ofD, dOk, cV, cV0, renM, Value.oneCell', keepL, freshL, vaOL, outB, wkTm, subL, ninL, injL, nm, resW, resL, resV, shift, ren, ren2, ren1, renO, va, va2, va1, vaO, inDom, stA, Int.reduceEq, ↓reduceIte, reduceCtorEq, Nat.reduceEqDiff, Nat.reduceLT, Nat.reduceLeDiff, Nat.reduceAdd, Nat.reduceSub, Nat.reduceMul, Int.reduceToNat, Int.reduceLE, Int.reduceLT, Z8, Sp_overdublaw14_Small, Sp_overdubkeep_Within, Sp_super_Pack, Sp_overdubkeep_Same_byte, Sp_super_Unpack, Sp_overdublaw14_wakes, x_bt23, x_bt3, x_bt4, x_el24, x_es23, x_fo23_0, x_fo23_1, x_fo23_3, x_pt23, x_pt3, x_pt4, x_slt24, x_tk23, x_tk3, x_zc23, bxS]
  have s1 := small_ok g l d r
  have s2 := small_ok g' l' d' r'
  refine AW.mids ⟨[(2, .d (.v (.int .i64 n))), (3, .d (.v (.int .i64 m))), (4, .d (.v (.bool tw))), (5, .d (.v (.int .i64 wh))), (6, .ptr 6 0), (7, .ptr 7 0), (12, .d (.v (.bool false)))], [(6, .box (bxS (small g l d r))), (7, .box (bxS (small g' l' d' r')))], 96⟩ ?_ ?_
  · repeat' first
                    | (refine AW.seq ?_)
                    | (refine AW.block ?_)
                    | (refine AW.regl Z8_ok [0, 1, 2, 3, 4, 5, 6, 7, 12, 13, 14, 15, 18, 21, 32, 57, 60, 61, 64, 67, 70] ?_)
                    | (refine AW.regc (id := 1) Z8_ok follows [0, 1, 0, 7, 15, 31] (by kernel_rfl) [0, 1, 2, 3, 4, 5, 6, 7, 12, 13, 14, 15, 18, 21, 32, 57, 60, 61, 64, 67, 70] ?_)
                    | (refine AW.regc (id := 5) Z8_ok follows [0, 0, 3, 0, 0, 31, 63, 127] (by kernel_rfl) [0, 1, 2, 3, 4, 5, 6, 7, 12, 13, 14, 15, 18, 21, 32, 57, 60, 61, 64, 67, 70] ?_)
                    | (refine AW.regc (id := 6) Z8_ok follows [0, 1, 3, 7, 15, 15, 63, 15, 15, 399, 1023, 2047, 2047, 8191, 16383, 32767, 65535] (by kernel_rfl) [0, 1, 2, 3, 4, 5, 6, 7, 12, 13, 14, 15, 18, 21, 32, 57, 60, 61, 64, 67, 70] ?_)
                    | (refine then_n ?_)
                    | (refine then_r ?_)
                    | (refine then_x ?_)
                    | (refine block_x ?_)
                    | (refine block_o (by decide) ?_)
                    | (refine block_n ?_)
                    | (refine block_r ?_)
                    | (refine AW.skip ?_)
                    | (refine AW.ret ?_)
                    | (refine AW.exit ?_)
                    | (refine AW.cond rfl ?_ ?_ <;> (intro hc; first | cases hc | ((try rw [hc]); (try simp only [stH] at hc); (try (exfalso; omega)))))
                    | ((first
                          | (refine awl_none rfl fun K hK => ?_)
                          | (refine awl_nil ?_)
                          | (refine awl_some rfl rfl (Nat.le_of_ble_eq_true rfl) rfl rfl ?_ ?_ <;> (intro hc; first | cases hc | ((try rw [hc]); (try simp only [stH] at hc); (try (exfalso; omega)))) <;> (try intro K hK))
                          | (refine awl_skip rfl rfl (Nat.le_of_ble_eq_true rfl) rfl rfl ?_)
                          | (refine awc_none rfl fun K hK => ?_)
                          | (refine awc_some rfl rfl (Nat.le_of_ble_eq_true rfl) rfl rfl ?_ ?_ <;> (intro hc; first | cases hc | ((try rw [hc]); (try simp only [stH] at hc); (try (exfalso; omega)))) <;> (try intro K hK))
                          | exact each_nil
                          | (refine each_some rfl rfl (Nat.le_of_ble_eq_true rfl) (fun bb => by (simp only [Sg3, St.updIf, St.upd, St.put, ifc_nil, gt_ifc, gt, List.nil_append, List.cons_append, Option.some.injEq, reduceCtorEq, Nat.reduceEqDiff, ↓reduceIte, ite_self]; try rfl)) rfl ?_ ?_ <;> first | (show Each _ _ _ _ _ _ _ _; skip) | (rw [if_pos rfl]; intro bb K hK) | (rw [if_neg (by decide)]; exact ⟨rfl, rfl⟩))
                          | (refine each_none rfl ?_ ?_ <;> (try intro bb K hK))
                          | (refine awc_leaf [some 22, some 23, some 24, some 25, none, none] cc_overdublaw14_SuperUnlike_1 rfl (by kernel_rfl) (by kernel_rfl) ?_ ?_)
                          | (refine awc_leaf [some 35, some 36, some 37, some 38, some 39, some 40, some 13, some 14] cc_overdublaw14_SuperUnlike_5 rfl (by kernel_rfl) (by kernel_rfl) ?_ ?_)
                          | (refine awc_leaf [some 41, some 42, some 43, some 44, some 45, some 46, some 47, some 48, some 49, some 50, some 51, some 52, some 53, some 54, some 55, some 56, some 57] cc_overdublaw14_SuperUnlike_6 rfl (by kernel_rfl) (by kernel_rfl) ?_ ?_))
                       all_goals first
                         | (show Awl _ _ _ _ _; simp only [St.upd, St.put, List.nil_append, List.cons_append, List.singleton_append, List.append_nil])
                         | (show Awc _ _ _ _ _ _; simp only [St.upd, St.put, List.nil_append, List.cons_append, List.singleton_append, List.append_nil])
                         | (show Each _ _ _ _ _ _ _ _; skip)
                         | (simp (disch := omega) only [awl, ev1, evk, evc, gv, e_move, e_pick, e_bin, binW, e_un, e_cnv, e_conv, e_str, e_mark, e_copy, e_extract, e_len, e_mm, e_nil, e_index, e_field, e_load, e_fld, e_cut, e_alloc, e_box, e_make, e_build, e_lit, e_store, e_app, e_call, args, pus, pu, pu1, toDL, toD, toD1, toDs, elems, idsW, idsV, lenV, oint, cutOk, ldV, subD, newD, fillV, cellsV, one1, one0, zD, cD0, scs, St.upd, St.put, St.ev, St.keep, gt, go, tmOf, ofD, dOk, cV, cV0, renM, Value.oneCell', keepL, freshL, vaOL, outB, wkTm, subL, ninL, injL, nm, resW, resL, resV, shift, ren, ren2, ren1, renO, va, va2, va1, vaO, inDom, stA, Int.reduceEq, ↓reduceIte, reduceCtorEq, Nat.reduceEqDiff, Nat.reduceLT, Nat.reduceLeDiff, Nat.reduceAdd, Nat.reduceSub, Nat.reduceMul, Int.reduceToNat, Int.reduceLE, Int.reduceLT, Z8, Sp_overdublaw14_Small, Sp_overdubkeep_Within, Sp_super_Pack, Sp_overdubkeep_Same_byte, Sp_super_Unpack, Sp_overdublaw14_wakes, x_bt23, x_bt3, x_bt4, x_el24, x_es23, x_fo23_0, x_fo23_1, x_fo23_3, x_pt23, x_pt3, x_pt4, x_slt24, x_tk23, x_tk3, x_zc23, bxS, Sg3, St.updIf, ifc_nil, gt_ifc, go_ifc, ite_self, Option.none_or, Option.some_or]
                            (try ((repeat' first | (refine And.intro ?_ ?_) | (intro hc; first | cases hc | ((try rw [hc]); (try simp only [stH] at hc); (try (exfalso; omega)))))
                                  all_goals first | (refine hK _ _ ?_; clear hK K; simp only [St.upd, St.put, List.nil_append, List.cons_append, List.singleton_append, List.append_nil]) | exact hK | omega))))
    refine ⟨rfl, nm [], Wk.of ?_⟩
    simp (disch := omega) only [awl, ev1, evk, evc, gv, e_move, e_pick, e_bin, binW, e_un, e_cnv, e_conv, e_str, e_mark, e_copy, e_extract, e_len, e_mm, e_nil, e_index, e_field, e_load, e_fld, e_cut, e_alloc, e_box, e_make, e_build, e_lit, e_store, e_app, e_call, args, pus, pu, pu1, toDL, toD, toD1, toDs, elems, idsW, idsV, lenV, oint, cutOk, ldV, subD, newD, fillV, cellsV, one1, one0, zD, cD0, scs, St.upd, St.put, St.ev, St.keep, gt, go, tmOf, ofD, dOk, cV, cV0, renM, Value.oneCell', keepL, freshL, vaOL, outB, wkTm, subL, ninL, injL, nm, resW, resL, resV, shift, ren, ren2, ren1, renO, va, va2, va1, vaO, inDom, stA, Int.reduceEq, ↓reduceIte, reduceCtorEq, Nat.reduceEqDiff, Nat.reduceLT, Nat.reduceLeDiff, Nat.reduceAdd, Nat.reduceSub, Nat.reduceMul, Int.reduceToNat, Int.reduceLE, Int.reduceLT, Z8, Sp_overdublaw14_Small, Sp_overdubkeep_Within, Sp_super_Pack, Sp_overdubkeep_Same_byte, Sp_super_Unpack, Sp_overdublaw14_wakes, x_bt23, x_bt3, x_bt4, x_el24, x_es23, x_fo23_0, x_fo23_1, x_fo23_3, x_pt23, x_pt3, x_pt4, x_slt24, x_tk23, x_tk3, x_zc23, bxS, small]
  generalize small g l d r = s at *
  generalize small g' l' d' r' = t at *
  have w1 := within_rng (v := n) (n := 99) (by omega)
  have w2 := within_rng (v := m) (n := 99) (by omega)
  refine AW.mids (stU tw wh (s, t, 1 + within n 99, 1 + within m 99)) ?_ ?_
  · repeat' first
                    | (refine AW.seq ?_)
                    | (refine AW.block ?_)
                    | (refine AW.regl Z8_ok [0, 1, 2, 3, 4, 5, 6, 7, 12, 13, 14, 15, 18, 21, 32, 57, 60, 61, 64, 67, 70] ?_)
                    | (refine AW.regc (id := 1) Z8_ok follows [0, 1, 0, 7, 15, 31] (by kernel_rfl) [0, 1, 2, 3, 4, 5, 6, 7, 12, 13, 14, 15, 18, 21, 32, 57, 60, 61, 64, 67, 70] ?_)
                    | (refine AW.regc (id := 5) Z8_ok follows [0, 0, 3, 0, 0, 31, 63, 127] (by kernel_rfl) [0, 1, 2, 3, 4, 5, 6, 7, 12, 13, 14, 15, 18, 21, 32, 57, 60, 61, 64, 67, 70] ?_)
                    | (refine AW.regc (id := 6) Z8_ok follows [0, 1, 3, 7, 15, 15, 63, 15, 15, 399, 1023, 2047, 2047, 8191, 16383, 32767, 65535] (by kernel_rfl) [0, 1, 2, 3, 4, 5, 6, 7, 12, 13, 14, 15, 18, 21, 32, 57, 60, 61, 64, 67, 70] ?_)
                    | (refine then_n ?_)
                    | (refine then_r ?_)
                    | (refine then_x ?_)
                    | (refine block_x ?_)
                    | (refine block_o (by decide) ?_)
                    | (refine block_n ?_)
                    | (refine block_r ?_)
                    | (refine AW.skip ?_)
                    | (refine AW.ret ?_)
                    | (refine AW.exit ?_)
                    | (refine AW.cond rfl ?_ ?_ <;> (intro hc; first | cases hc | ((try rw [hc]); (try simp only [stH] at hc); (try (exfalso; omega)))))
                    | ((first
                          | (refine awl_none rfl fun K hK => ?_)
                          | (refine awl_nil ?_)
                          | (refine awl_some rfl rfl (Nat.le_of_ble_eq_true rfl) rfl rfl ?_ ?_ <;> (intro hc; first | cases hc | ((try rw [hc]); (try simp only [stH] at hc); (try (exfalso; omega)))) <;> (try intro K hK))
                          | (refine awl_skip rfl rfl (Nat.le_of_ble_eq_true rfl) rfl rfl ?_)
                          | (refine awc_none rfl fun K hK => ?_)
                          | (refine awc_some rfl rfl (Nat.le_of_ble_eq_true rfl) rfl rfl ?_ ?_ <;> (intro hc; first | cases hc | ((try rw [hc]); (try simp only [stH] at hc); (try (exfalso; omega)))) <;> (try intro K hK))
                          | exact each_nil
                          | (refine each_some rfl rfl (Nat.le_of_ble_eq_true rfl) (fun bb => by (simp only [Sg3, St.updIf, St.upd, St.put, ifc_nil, gt_ifc, gt, List.nil_append, List.cons_append, Option.some.injEq, reduceCtorEq, Nat.reduceEqDiff, ↓reduceIte, ite_self]; try rfl)) rfl ?_ ?_ <;> first | (show Each _ _ _ _ _ _ _ _; skip) | (rw [if_pos rfl]; intro bb K hK) | (rw [if_neg (by decide)]; exact ⟨rfl, rfl⟩))
                          | (refine each_none rfl ?_ ?_ <;> (try intro bb K hK))
                          | (refine awc_leaf [some 22, some 23, some 24, some 25, none, none] cc_overdublaw14_SuperUnlike_1 rfl (by kernel_rfl) (by kernel_rfl) ?_ ?_)
                          | (refine awc_leaf [some 35, some 36, some 37, some 38, some 39, some 40, some 13, some 14] cc_overdublaw14_SuperUnlike_5 rfl (by kernel_rfl) (by kernel_rfl) ?_ ?_)
                          | (refine awc_leaf [some 41, some 42, some 43, some 44, some 45, some 46, some 47, some 48, some 49, some 50, some 51, some 52, some 53, some 54, some 55, some 56, some 57] cc_overdublaw14_SuperUnlike_6 rfl (by kernel_rfl) (by kernel_rfl) ?_ ?_))
                       all_goals first
                         | (show Awl _ _ _ _ _; simp only [St.upd, St.put, List.nil_append, List.cons_append, List.singleton_append, List.append_nil])
                         | (show Awc _ _ _ _ _ _; simp only [St.upd, St.put, List.nil_append, List.cons_append, List.singleton_append, List.append_nil])
                         | (show Each _ _ _ _ _ _ _ _; skip)
                         | (simp (disch := omega) only [awl, ev1, evk, evc, gv, e_move, e_pick, e_bin, binW, e_un, e_cnv, e_conv, e_str, e_mark, e_copy, e_extract, e_len, e_mm, e_nil, e_index, e_field, e_load, e_fld, e_cut, e_alloc, e_box, e_make, e_build, e_lit, e_store, e_app, e_call, args, pus, pu, pu1, toDL, toD, toD1, toDs, elems, idsW, idsV, lenV, oint, cutOk, ldV, subD, newD, fillV, cellsV, one1, one0, zD, cD0, scs, St.upd, St.put, St.ev, St.keep, gt, go, tmOf, ofD, dOk, cV, cV0, renM, Value.oneCell', keepL, freshL, vaOL, outB, wkTm, subL, ninL, injL, nm, resW, resL, resV, shift, ren, ren2, ren1, renO, va, va2, va1, vaO, inDom, stA, Int.reduceEq, ↓reduceIte, reduceCtorEq, Nat.reduceEqDiff, Nat.reduceLT, Nat.reduceLeDiff, Nat.reduceAdd, Nat.reduceSub, Nat.reduceMul, Int.reduceToNat, Int.reduceLE, Int.reduceLT, Z8, Sp_overdublaw14_Small, Sp_overdubkeep_Within, Sp_super_Pack, Sp_overdubkeep_Same_byte, Sp_super_Unpack, Sp_overdublaw14_wakes, x_bt23, x_bt3, x_bt4, x_el24, x_es23, x_fo23_0, x_fo23_1, x_fo23_3, x_pt23, x_pt3, x_pt4, x_slt24, x_tk23, x_tk3, x_zc23, bxS, Sg3, St.updIf, ifc_nil, gt_ifc, go_ifc, ite_self, Option.none_or, Option.some_or]
                            (try ((repeat' first | (refine And.intro ?_ ?_) | (intro hc; first | cases hc | ((try rw [hc]); (try simp only [stH] at hc); (try (exfalso; omega)))))
                                  all_goals first | (refine hK _ _ ?_; clear hK K; simp only [St.upd, St.put, List.nil_append, List.cons_append, List.singleton_append, List.append_nil]) | exact hK | omega))))
    refine ⟨rfl, nm [], Wk.of ?_⟩
    simp (disch := omega) only [awl, ev1, evk, evc, gv, e_move, e_pick, e_bin, binW, e_un, e_cnv, e_conv, e_str, e_mark, e_copy, e_extract, e_len, e_mm, e_nil, e_index, e_field, e_load, e_fld, e_cut, e_alloc, e_box, e_make, e_build, e_lit, e_store, e_app, e_call, args, pus, pu, pu1, toDL, toD, toD1, toDs, elems, idsW, idsV, lenV, oint, cutOk, ldV, subD, newD, fillV, cellsV, one1, one0, zD, cD0, scs, St.upd, St.put, St.ev, St.keep, gt, go, tmOf, ofD, dOk, cV, cV0, renM, Value.oneCell', keepL, freshL, vaOL, outB, wkTm, subL, ninL, injL, nm, resW, resL, resV, shift, ren, ren2, ren1, renO, va, va2, va1, vaO, inDom, stA, Int.reduceEq, ↓reduceIte, reduceCtorEq, Nat.reduceEqDiff, Nat.reduceLT, Nat.reduceLeDiff, Nat.reduceAdd, Nat.reduceSub, Nat.reduceMul, Int.reduceToNat, Int.reduceLE, Int.reduceLT, Z8, Sp_overdublaw14_Small, Sp_overdubkeep_Within, Sp_super_Pack, Sp_overdubkeep_Same_byte, Sp_super_Unpack, Sp_overdublaw14_wakes, x_bt23, x_bt3, x_bt4, x_el24, x_es23, x_fo23_0, x_fo23_1, x_fo23_3, x_pt23, x_pt3, x_pt4, x_slt24, x_tk23, x_tk3, x_zc23, bxS, stU]
  refine AW.midxs (stU tw wh) gU ?_ ?_
  · cases tw
    · repeat' first
                    | (refine AW.seq ?_)
                    | (refine AW.block ?_)
                    | (refine AW.regl Z8_ok [0, 1, 2, 3, 4, 5, 6, 7, 12, 13, 14, 15, 18, 21, 32, 57, 60, 61, 64, 67, 70] ?_)
                    | (refine AW.regc (id := 1) Z8_ok follows [0, 1, 0, 7, 15, 31] (by kernel_rfl) [0, 1, 2, 3, 4, 5, 6, 7, 12, 13, 14, 15, 18, 21, 32, 57, 60, 61, 64, 67, 70] ?_)
                    | (refine AW.regc (id := 5) Z8_ok follows [0, 0, 3, 0, 0, 31, 63, 127] (by kernel_rfl) [0, 1, 2, 3, 4, 5, 6, 7, 12, 13, 14, 15, 18, 21, 32, 57, 60, 61, 64, 67, 70] ?_)
                    | (refine AW.regc (id := 6) Z8_ok follows [0, 1, 3, 7, 15, 15, 63, 15, 15, 399, 1023, 2047, 2047, 8191, 16383, 32767, 65535] (by kernel_rfl) [0, 1, 2, 3, 4, 5, 6, 7, 12, 13, 14, 15, 18, 21, 32, 57, 60, 61, 64, 67, 70] ?_)
                    | (refine then_n ?_)
                    | (refine then_r ?_)
                    | (refine then_x ?_)
                    | (refine block_x ?_)
                    | (refine block_o (by decide) ?_)
                    | (refine block_n ?_)
                    | (refine block_r ?_)
                    | (refine AW.skip ?_)
                    | (refine AW.ret ?_)
                    | (refine AW.exit ?_)
                    | (refine AW.cond rfl ?_ ?_ <;> (intro hc; first | cases hc | ((try rw [hc]); (try simp only [stH] at hc); (try (exfalso; omega)))))
                    | ((first
                          | (refine awl_none rfl fun K hK => ?_)
                          | (refine awl_nil ?_)
                          | (refine awl_some rfl rfl (Nat.le_of_ble_eq_true rfl) rfl rfl ?_ ?_ <;> (intro hc; first | cases hc | ((try rw [hc]); (try simp only [stH] at hc); (try (exfalso; omega)))) <;> (try intro K hK))
                          | (refine awl_skip rfl rfl (Nat.le_of_ble_eq_true rfl) rfl rfl ?_)
                          | (refine awc_none rfl fun K hK => ?_)
                          | (refine awc_some rfl rfl (Nat.le_of_ble_eq_true rfl) rfl rfl ?_ ?_ <;> (intro hc; first | cases hc | ((try rw [hc]); (try simp only [stH] at hc); (try (exfalso; omega)))) <;> (try intro K hK))
                          | exact each_nil
                          | (refine each_some rfl rfl (Nat.le_of_ble_eq_true rfl) (fun bb => by (simp only [Sg3, St.updIf, St.upd, St.put, ifc_nil, gt_ifc, gt, List.nil_append, List.cons_append, Option.some.injEq, reduceCtorEq, Nat.reduceEqDiff, ↓reduceIte, ite_self]; try rfl)) rfl ?_ ?_ <;> first | (show Each _ _ _ _ _ _ _ _; skip) | (rw [if_pos rfl]; intro bb K hK) | (rw [if_neg (by decide)]; exact ⟨rfl, rfl⟩))
                          | (refine each_none rfl ?_ ?_ <;> (try intro bb K hK))
                          | (refine awc_leaf [some 22, some 23, some 24, some 25, none, none] cc_overdublaw14_SuperUnlike_1 rfl (by kernel_rfl) (by kernel_rfl) ?_ ?_)
                          | (refine awc_leaf [some 35, some 36, some 37, some 38, some 39, some 40, some 13, some 14] cc_overdublaw14_SuperUnlike_5 rfl (by kernel_rfl) (by kernel_rfl) ?_ ?_)
                          | (refine awc_leaf [some 41, some 42, some 43, some 44, some 45, some 46, some 47, some 48, some 49, some 50, some 51, some 52, some 53, some 54, some 55, some 56, some 57] cc_overdublaw14_SuperUnlike_6 rfl (by kernel_rfl) (by kernel_rfl) ?_ ?_))
                       all_goals first
                         | (show Awl _ _ _ _ _; simp only [St.upd, St.put, List.nil_append, List.cons_append, List.singleton_append, List.append_nil])
                         | (show Awc _ _ _ _ _ _; simp only [St.upd, St.put, List.nil_append, List.cons_append, List.singleton_append, List.append_nil])
                         | (show Each _ _ _ _ _ _ _ _; skip)
                         | (simp (disch := omega) only [awl, ev1, evk, evc, gv, e_move, e_pick, e_bin, binW, e_un, e_cnv, e_conv, e_str, e_mark, e_copy, e_extract, e_len, e_mm, e_nil, e_index, e_field, e_load, e_fld, e_cut, e_alloc, e_box, e_make, e_build, e_lit, e_store, e_app, e_call, args, pus, pu, pu1, toDL, toD, toD1, toDs, elems, idsW, idsV, lenV, oint, cutOk, ldV, subD, newD, fillV, cellsV, one1, one0, zD, cD0, scs, St.upd, St.put, St.ev, St.keep, gt, go, tmOf, ofD, dOk, cV, cV0, renM, Value.oneCell', keepL, freshL, vaOL, outB, wkTm, subL, ninL, injL, nm, resW, resL, resV, shift, ren, ren2, ren1, renO, va, va2, va1, vaO, inDom, stA, Int.reduceEq, ↓reduceIte, reduceCtorEq, Nat.reduceEqDiff, Nat.reduceLT, Nat.reduceLeDiff, Nat.reduceAdd, Nat.reduceSub, Nat.reduceMul, Int.reduceToNat, Int.reduceLE, Int.reduceLT, Z8, Sp_overdublaw14_Small, Sp_overdubkeep_Within, Sp_super_Pack, Sp_overdubkeep_Same_byte, Sp_super_Unpack, Sp_overdublaw14_wakes, x_bt23, x_bt3, x_bt4, x_el24, x_es23, x_fo23_0, x_fo23_1, x_fo23_3, x_pt23, x_pt3, x_pt4, x_slt24, x_tk23, x_tk3, x_zc23, bxS, stU, Sg3, St.updIf, ifc_nil, gt_ifc, go_ifc, ite_self, Option.none_or, Option.some_or]
                            (try ((repeat' first | (refine And.intro ?_ ?_) | (intro hc; first | cases hc | ((try rw [hc]); (try simp only [stH] at hc); (try (exfalso; omega)))))
                                  all_goals first | (refine hK _ _ ?_; clear hK K; simp only [St.upd, St.put, List.nil_append, List.cons_append, List.singleton_append, List.append_nil]) | exact hK | omega))))
      refine ⟨rfl, (s, t, 1 + within n 99, 1 + within m 99), ⟨s1, s2, by dsimp only; omega, by dsimp only; omega⟩, nm [], Wk.of ?_⟩
      simp (disch := omega) only [awl, ev1, evk, evc, gv, e_move, e_pick, e_bin, binW, e_un, e_cnv, e_conv, e_str, e_mark, e_copy, e_extract, e_len, e_mm, e_nil, e_index, e_field, e_load, e_fld, e_cut, e_alloc, e_box, e_make, e_build, e_lit, e_store, e_app, e_call, args, pus, pu, pu1, toDL, toD, toD1, toDs, elems, idsW, idsV, lenV, oint, cutOk, ldV, subD, newD, fillV, cellsV, one1, one0, zD, cD0, scs, St.upd, St.put, St.ev, St.keep, gt, go, tmOf, ofD, dOk, cV, cV0, renM, Value.oneCell', keepL, freshL, vaOL, outB, wkTm, subL, ninL, injL, nm, resW, resL, resV, shift, ren, ren2, ren1, renO, va, va2, va1, vaO, inDom, stA, Int.reduceEq, ↓reduceIte, reduceCtorEq, Nat.reduceEqDiff, Nat.reduceLT, Nat.reduceLeDiff, Nat.reduceAdd, Nat.reduceSub, Nat.reduceMul, Int.reduceToNat, Int.reduceLE, Int.reduceLT, Z8, Sp_overdublaw14_Small, Sp_overdubkeep_Within, Sp_super_Pack, Sp_overdubkeep_Same_byte, Sp_super_Unpack, Sp_overdublaw14_wakes, x_bt23, x_bt3, x_bt4, x_el24, x_es23, x_fo23_0, x_fo23_1, x_fo23_3, x_pt23, x_pt3, x_pt4, x_slt24, x_tk23, x_tk3, x_zc23, bxS, stU]
    · repeat' first
                    | (refine AW.seq ?_)
                    | (refine AW.block ?_)
                    | (refine AW.regl Z8_ok [0, 1, 2, 3, 4, 5, 6, 7, 12, 13, 14, 15, 18, 21, 32, 57, 60, 61, 64, 67, 70] ?_)
                    | (refine AW.regc (id := 1) Z8_ok follows [0, 1, 0, 7, 15, 31] (by kernel_rfl) [0, 1, 2, 3, 4, 5, 6, 7, 12, 13, 14, 15, 18, 21, 32, 57, 60, 61, 64, 67, 70] ?_)
                    | (refine AW.regc (id := 5) Z8_ok follows [0, 0, 3, 0, 0, 31, 63, 127] (by kernel_rfl) [0, 1, 2, 3, 4, 5, 6, 7, 12, 13, 14, 15, 18, 21, 32, 57, 60, 61, 64, 67, 70] ?_)
                    | (refine AW.regc (id := 6) Z8_ok follows [0, 1, 3, 7, 15, 15, 63, 15, 15, 399, 1023, 2047, 2047, 8191, 16383, 32767, 65535] (by kernel_rfl) [0, 1, 2, 3, 4, 5, 6, 7, 12, 13, 14, 15, 18, 21, 32, 57, 60, 61, 64, 67, 70] ?_)
                    | (refine then_n ?_)
                    | (refine then_r ?_)
                    | (refine then_x ?_)
                    | (refine block_x ?_)
                    | (refine block_o (by decide) ?_)
                    | (refine block_n ?_)
                    | (refine block_r ?_)
                    | (refine AW.skip ?_)
                    | (refine AW.ret ?_)
                    | (refine AW.exit ?_)
                    | (refine AW.cond rfl ?_ ?_ <;> (intro hc; first | cases hc | ((try rw [hc]); (try simp only [stH] at hc); (try (exfalso; omega)))))
                    | ((first
                          | (refine awl_none rfl fun K hK => ?_)
                          | (refine awl_nil ?_)
                          | (refine awl_some rfl rfl (Nat.le_of_ble_eq_true rfl) rfl rfl ?_ ?_ <;> (intro hc; first | cases hc | ((try rw [hc]); (try simp only [stH] at hc); (try (exfalso; omega)))) <;> (try intro K hK))
                          | (refine awl_skip rfl rfl (Nat.le_of_ble_eq_true rfl) rfl rfl ?_)
                          | (refine awc_none rfl fun K hK => ?_)
                          | (refine awc_some rfl rfl (Nat.le_of_ble_eq_true rfl) rfl rfl ?_ ?_ <;> (intro hc; first | cases hc | ((try rw [hc]); (try simp only [stH] at hc); (try (exfalso; omega)))) <;> (try intro K hK))
                          | exact each_nil
                          | (refine each_some rfl rfl (Nat.le_of_ble_eq_true rfl) (fun bb => by (simp only [Sg3, St.updIf, St.upd, St.put, ifc_nil, gt_ifc, gt, List.nil_append, List.cons_append, Option.some.injEq, reduceCtorEq, Nat.reduceEqDiff, ↓reduceIte, ite_self]; try rfl)) rfl ?_ ?_ <;> first | (show Each _ _ _ _ _ _ _ _; skip) | (rw [if_pos rfl]; intro bb K hK) | (rw [if_neg (by decide)]; exact ⟨rfl, rfl⟩))
                          | (refine each_none rfl ?_ ?_ <;> (try intro bb K hK))
                          | (refine awc_leaf [some 22, some 23, some 24, some 25, none, none] cc_overdublaw14_SuperUnlike_1 rfl (by kernel_rfl) (by kernel_rfl) ?_ ?_)
                          | (refine awc_leaf [some 35, some 36, some 37, some 38, some 39, some 40, some 13, some 14] cc_overdublaw14_SuperUnlike_5 rfl (by kernel_rfl) (by kernel_rfl) ?_ ?_)
                          | (refine awc_leaf [some 41, some 42, some 43, some 44, some 45, some 46, some 47, some 48, some 49, some 50, some 51, some 52, some 53, some 54, some 55, some 56, some 57] cc_overdublaw14_SuperUnlike_6 rfl (by kernel_rfl) (by kernel_rfl) ?_ ?_))
                       all_goals first
                         | (show Awl _ _ _ _ _; simp only [St.upd, St.put, List.nil_append, List.cons_append, List.singleton_append, List.append_nil])
                         | (show Awc _ _ _ _ _ _; simp only [St.upd, St.put, List.nil_append, List.cons_append, List.singleton_append, List.append_nil])
                         | (show Each _ _ _ _ _ _ _ _; skip)
                         | (simp (disch := omega) only [awl, ev1, evk, evc, gv, e_move, e_pick, e_bin, binW, e_un, e_cnv, e_conv, e_str, e_mark, e_copy, e_extract, e_len, e_mm, e_nil, e_index, e_field, e_load, e_fld, e_cut, e_alloc, e_box, e_make, e_build, e_lit, e_store, e_app, e_call, args, pus, pu, pu1, toDL, toD, toD1, toDs, elems, idsW, idsV, lenV, oint, cutOk, ldV, subD, newD, fillV, cellsV, one1, one0, zD, cD0, scs, St.upd, St.put, St.ev, St.keep, gt, go, tmOf, ofD, dOk, cV, cV0, renM, Value.oneCell', keepL, freshL, vaOL, outB, wkTm, subL, ninL, injL, nm, resW, resL, resV, shift, ren, ren2, ren1, renO, va, va2, va1, vaO, inDom, stA, Int.reduceEq, ↓reduceIte, reduceCtorEq, Nat.reduceEqDiff, Nat.reduceLT, Nat.reduceLeDiff, Nat.reduceAdd, Nat.reduceSub, Nat.reduceMul, Int.reduceToNat, Int.reduceLE, Int.reduceLT, Z8, Sp_overdublaw14_Small, Sp_overdubkeep_Within, Sp_super_Pack, Sp_overdubkeep_Same_byte, Sp_super_Unpack, Sp_overdublaw14_wakes, x_bt23, x_bt3, x_bt4, x_el24, x_es23, x_fo23_0, x_fo23_1, x_fo23_3, x_pt23, x_pt3, x_pt4, x_slt24, x_tk23, x_tk3, x_zc23, bxS, stU, Sg3, St.updIf, ifc_nil, gt_ifc, go_ifc, ite_self, Option.none_or, Option.some_or]
                            (try ((repeat' first | (refine And.intro ?_ ?_) | (intro hc; first | cases hc | ((try rw [hc]); (try simp only [stH] at hc); (try (exfalso; omega)))))
                                  all_goals first | (refine hK _ _ ?_; clear hK K; simp only [St.upd, St.put, List.nil_append, List.cons_append, List.singleton_append, List.append_nil]) | exact hK | omega))))
      refine ⟨rfl, (s, s, 1 + within n 99, 1 + within n 99), ⟨s1, s1, by dsimp only; omega, by dsimp only; omega⟩, nm [], Wk.of ?_⟩
      simp (disch := omega) only [awl, ev1, evk, evc, gv, e_move, e_pick, e_bin, binW, e_un, e_cnv, e_conv, e_str, e_mark, e_copy, e_extract, e_len, e_mm, e_nil, e_index, e_field, e_load, e_fld, e_cut, e_alloc, e_box, e_make, e_build, e_lit, e_store, e_app, e_call, args, pus, pu, pu1, toDL, toD, toD1, toDs, elems, idsW, idsV, lenV, oint, cutOk, ldV, subD, newD, fillV, cellsV, one1, one0, zD, cD0, scs, St.upd, St.put, St.ev, St.keep, gt, go, tmOf, ofD, dOk, cV, cV0, renM, Value.oneCell', keepL, freshL, vaOL, outB, wkTm, subL, ninL, injL, nm, resW, resL, resV, shift, ren, ren2, ren1, renO, va, va2, va1, vaO, inDom, stA, Int.reduceEq, ↓reduceIte, reduceCtorEq, Nat.reduceEqDiff, Nat.reduceLT, Nat.reduceLeDiff, Nat.reduceAdd, Nat.reduceSub, Nat.reduceMul, Int.reduceToNat, Int.reduceLE, Int.reduceLT, Z8, Sp_overdublaw14_Small, Sp_overdubkeep_Within, Sp_super_Pack, Sp_overdubkeep_Same_byte, Sp_super_Unpack, Sp_overdublaw14_wakes, x_bt23, x_bt3, x_bt4, x_el24, x_es23, x_fo23_0, x_fo23_1, x_fo23_3, x_pt23, x_pt3, x_pt4, x_slt24, x_tk23, x_tk3, x_zc23, bxS, stU]
  · clear s1 s2 w1 w2
    rintro ⟨⟨g, l, d, r⟩, ⟨g', l', d', r'⟩, n, m⟩ ⟨h1, h2, h3, h4⟩
    unfold smS at h1 h2
    simp only at h1 h2 h3 h4
    obtain ⟨a1, a2, a3, a4, a5, a6, a7, a8⟩ := h1
    obtain ⟨b1, b2, b3, b4, b5, b6, b7, b8⟩ := h2
    obtain ⟨n1, n2⟩ := h3
    obtain ⟨m1, m2⟩ := h4
    have ug : u32 g := ⟨by omega, by omega⟩
    have ul : u32 l := ⟨by omega, by omega⟩
    have ud : u32 d := ⟨by omega, by omega⟩
    have ur : u32 r := ⟨by omega, by omega⟩
    have un : u32 n := ⟨by omega, by omega⟩
    have hi := supP_inj ug ul ud ur un (g' := g') (l' := l') (d' := d') (r' := r') (c' := m) ⟨by omega, by omega⟩ ⟨by omega, by omega⟩ ⟨by omega, by omega⟩ ⟨by omega, by omega⟩ ⟨by omega, by omega⟩
    refine AW.mids ⟨[(2, .d (.v (.int .i64 n))), (3, .d (.v (.int .i64 m))), (5, .d (.v (.int .i64 wh))), (6, .ptr 6 0), (7, .ptr 7 0), (12, .d (.v (.bool false))), (13, .sl 37 1 0 128 true), (14, .sl 40 1 0 128 true)], [(6, .box (bxS ⟨g, l, d, r⟩)), (7, .box (bxS ⟨g', l', d', r'⟩)), (37, .row 5 1 ((supP g l d r n).map mB)), (40, .row 5 1 ((supP g' l' d' r' m).map mB))], 96⟩ ?_ ?_
    · clear hi
      repeat' first
                    | (refine AW.seq ?_)
                    | (refine AW.block ?_)
                    | (refine AW.regl Z8_ok [0, 1, 2, 3, 4, 5, 6, 7, 12, 13, 14, 15, 18, 21, 32, 57, 60, 61, 64, 67, 70] ?_)
                    | (refine AW.regc (id := 1) Z8_ok follows [0, 1, 0, 7, 15, 31] (by kernel_rfl) [0, 1, 2, 3, 4, 5, 6, 7, 12, 13, 14, 15, 18, 21, 32, 57, 60, 61, 64, 67, 70] ?_)
                    | (refine AW.regc (id := 5) Z8_ok follows [0, 0, 3, 0, 0, 31, 63, 127] (by kernel_rfl) [0, 1, 2, 3, 4, 5, 6, 7, 12, 13, 14, 15, 18, 21, 32, 57, 60, 61, 64, 67, 70] ?_)
                    | (refine AW.regc (id := 6) Z8_ok follows [0, 1, 3, 7, 15, 15, 63, 15, 15, 399, 1023, 2047, 2047, 8191, 16383, 32767, 65535] (by kernel_rfl) [0, 1, 2, 3, 4, 5, 6, 7, 12, 13, 14, 15, 18, 21, 32, 57, 60, 61, 64, 67, 70] ?_)
                    | (refine then_n ?_)
                    | (refine then_r ?_)
                    | (refine then_x ?_)
                    | (refine block_x ?_)
                    | (refine block_o (by decide) ?_)
                    | (refine block_n ?_)
                    | (refine block_r ?_)
                    | (refine AW.skip ?_)
                    | (refine AW.ret ?_)
                    | (refine AW.exit ?_)
                    | (refine AW.cond rfl ?_ ?_ <;> (intro hc; first | cases hc | ((try rw [hc]); (try simp only [stH] at hc); (try (exfalso; omega)))))
                    | ((first
                          | (refine awl_none rfl fun K hK => ?_)
                          | (refine awl_nil ?_)
                          | (refine awl_some rfl rfl (Nat.le_of_ble_eq_true rfl) rfl rfl ?_ ?_ <;> (intro hc; first | cases hc | ((try rw [hc]); (try simp only [stH] at hc); (try (exfalso; omega)))) <;> (try intro K hK))
                          | (refine awl_skip rfl rfl (Nat.le_of_ble_eq_true rfl) rfl rfl ?_)
                          | (refine awc_none rfl fun K hK => ?_)
                          | (refine awc_some rfl rfl (Nat.le_of_ble_eq_true rfl) rfl rfl ?_ ?_ <;> (intro hc; first | cases hc | ((try rw [hc]); (try simp only [stH] at hc); (try (exfalso; omega)))) <;> (try intro K hK))
                          | exact each_nil
                          | (refine each_some rfl rfl (Nat.le_of_ble_eq_true rfl) (fun bb => by (simp only [Sg3, St.updIf, St.upd, St.put, ifc_nil, gt_ifc, gt, List.nil_append, List.cons_append, Option.some.injEq, reduceCtorEq, Nat.reduceEqDiff, ↓reduceIte, ite_self]; try rfl)) rfl ?_ ?_ <;> first | (show Each _ _ _ _ _ _ _ _; skip) | (rw [if_pos rfl]; intro bb K hK) | (rw [if_neg (by decide)]; exact ⟨rfl, rfl⟩))
                          | (refine each_none rfl ?_ ?_ <;> (try intro bb K hK))
                          | (refine awc_leaf [some 22, some 23, some 24, some 25, none, none] cc_overdublaw14_SuperUnlike_1 rfl (by kernel_rfl) (by kernel_rfl) ?_ ?_)
                          | (refine awc_leaf [some 35, some 36, some 37, some 38, some 39, some 40, some 13, some 14] cc_overdublaw14_SuperUnlike_5 rfl (by kernel_rfl) (by kernel_rfl) ?_ ?_)
                          | (refine awc_leaf [some 41, some 42, some 43, some 44, some 45, some 46, some 47, some 48, some 49, some 50, some 51, some 52, some 53, some 54, some 55, some 56, some 57] cc_overdublaw14_SuperUnlike_6 rfl (by kernel_rfl) (by kernel_rfl) ?_ ?_))
                       all_goals first
                         | (show Awl _ _ _ _ _; simp only [St.upd, St.put, List.nil_append, List.cons_append, List.singleton_append, List.append_nil])
                         | (show Awc _ _ _ _ _ _; simp only [St.upd, St.put, List.nil_append, List.cons_append, List.singleton_append, List.append_nil])
                         | (show Each _ _ _ _ _ _ _ _; skip)
                         | (simp (disch := omega) only [awl, ev1, evk, evc, gv, e_move, e_pick, e_bin, binW, e_un, e_cnv, e_conv, e_str, e_mark, e_copy, e_extract, e_len, e_mm, e_nil, e_index, e_field, e_load, e_fld, e_cut, e_alloc, e_box, e_make, e_build, e_lit, e_store, e_app, e_call, args, pus, pu, pu1, toDL, toD, toD1, toDs, elems, idsW, idsV, lenV, oint, cutOk, ldV, subD, newD, fillV, cellsV, one1, one0, zD, cD0, scs, St.upd, St.put, St.ev, St.keep, gt, go, tmOf, ofD, dOk, cV, cV0, renM, Value.oneCell', keepL, freshL, vaOL, outB, wkTm, subL, ninL, injL, nm, resW, resL, resV, shift, ren, ren2, ren1, renO, va, va2, va1, vaO, inDom, stA, Int.reduceEq, ↓reduceIte, reduceCtorEq, Nat.reduceEqDiff, Nat.reduceLT, Nat.reduceLeDiff, Nat.reduceAdd, Nat.reduceSub, Nat.reduceMul, Int.reduceToNat, Int.reduceLE, Int.reduceLT, Z8, Sp_overdublaw14_Small, Sp_overdubkeep_Within, Sp_super_Pack, Sp_overdubkeep_Same_byte, Sp_super_Unpack, Sp_overdublaw14_wakes, x_bt23, x_bt3, x_bt4, x_el24, x_es23, x_fo23_0, x_fo23_1, x_fo23_3, x_pt23, x_pt3, x_pt4, x_slt24, x_tk23, x_tk3, x_zc23, bxS, stU, Sg3, St.updIf, ifc_nil, gt_ifc, go_ifc, ite_self, Option.none_or, Option.some_or]
                            (try ((repeat' first | (refine And.intro ?_ ?_) | (intro hc; first | cases hc | ((try rw [hc]); (try simp only [stH] at hc); (try (exfalso; omega)))))
                                  all_goals first | (refine hK _ _ ?_; clear hK K; simp only [St.upd, St.put, List.nil_append, List.cons_append, List.singleton_append, List.append_nil]) | exact hK | omega))))
      refine ⟨rfl, nm [], Wk.of ?_⟩
      simp (disch := omega) only [awl, ev1, evk, evc, gv, e_move, e_pick, e_bin, binW, e_un, e_cnv, e_conv, e_str, e_mark, e_copy, e_extract, e_len, e_mm, e_nil, e_index, e_field, e_load, e_fld, e_cut, e_alloc, e_box, e_make, e_build, e_lit, e_store, e_app, e_call, args, pus, pu, pu1, toDL, toD, toD1, toDs, elems, idsW, idsV, lenV, oint, cutOk, ldV, subD, newD, fillV, cellsV, one1, one0, zD, cD0, scs, St.upd, St.put, St.ev, St.keep, gt, go, tmOf, ofD, dOk, cV, cV0, renM, Value.oneCell', keepL, freshL, vaOL, outB, wkTm, subL, ninL, injL, nm, resW, resL, resV, shift, ren, ren2, ren1, renO, va, va2, va1, vaO, inDom, stA, Int.reduceEq, ↓reduceIte, reduceCtorEq, Nat.reduceEqDiff, Nat.reduceLT, Nat.reduceLeDiff, Nat.reduceAdd, Nat.reduceSub, Nat.reduceMul, Int.reduceToNat, Int.reduceLE, Int.reduceLT, Z8, Sp_overdublaw14_Small, Sp_overdubkeep_Within, Sp_super_Pack, Sp_overdubkeep_Same_byte, Sp_super_Unpack, Sp_overdublaw14_wakes, x_bt23, x_bt3, x_bt4, x_el24, x_es23, x_fo23_0, x_fo23_1, x_fo23_3, x_pt23, x_pt3, x_pt4, x_slt24, x_tk23, x_tk3, x_zc23, bxS]
    have hbA : Byt (supP g l d r n) = True := eq_true (supP_byt _ _ _ _ _)
    have hbB : Byt (supP g' l' d' r' m) = True := eq_true (supP_byt _ _ _ _ _)
    have hlA : (supP g l d r n).length = 128 := supP_len _ _ _ _ _
    have hlB : (supP g' l' d' r' m).length = 128 := supP_len _ _ _ _ _
    have htA : ((supP g l d r n).map mB).take 128 = (supP g l d r n).map mB := List.take_of_length_le (by simp [hlA])
    have htB : ((supP g' l' d' r' m).map mB).take 128 = (supP g' l' d' r' m).map mB := List.take_of_length_le (by simp [hlB])
    refine AW.mids ⟨[(2, .d (.v (.int .i64 n))), (5, .d (.v (.int .i64 wh))), (6, .ptr 6 0), (12, .d (.v (.bool false))), (13, .sl 37 1 0 128 true)], [(6, .box (bxS ⟨g, l, d, r⟩)), (37, .row 5 1 ((supP g l d r n).map mB))], 96⟩ ?_ ?_
    · by_cases hs : g = g' ∧ l = l' ∧ d = d' ∧ r = r'
      · obtain ⟨rfl, rfl, rfl, rfl⟩ := hs
        by_cases hn : n = m
        · subst hn
          repeat' first
                    | (refine AW.seq ?_)
                    | (refine AW.block ?_)
                    | (refine AW.regl Z8_ok [0, 1, 2, 3, 4, 5, 6, 7, 12, 13, 14, 15, 18, 21, 32, 57, 60, 61, 64, 67, 70] ?_)
                    | (refine AW.regc (id := 1) Z8_ok follows [0, 1, 0, 7, 15, 31] (by kernel_rfl) [0, 1, 2, 3, 4, 5, 6, 7, 12, 13, 14, 15, 18, 21, 32, 57, 60, 61, 64, 67, 70] ?_)
                    | (refine AW.regc (id := 5) Z8_ok follows [0, 0, 3, 0, 0, 31, 63, 127] (by kernel_rfl) [0, 1, 2, 3, 4, 5, 6, 7, 12, 13, 14, 15, 18, 21, 32, 57, 60, 61, 64, 67, 70] ?_)
                    | (refine AW.regc (id := 6) Z8_ok follows [0, 1, 3, 7, 15, 15, 63, 15, 15, 399, 1023, 2047, 2047, 8191, 16383, 32767, 65535] (by kernel_rfl) [0, 1, 2, 3, 4, 5, 6, 7, 12, 13, 14, 15, 18, 21, 32, 57, 60, 61, 64, 67, 70] ?_)
                    | (refine then_n ?_)
                    | (refine then_r ?_)
                    | (refine then_x ?_)
                    | (refine block_x ?_)
                    | (refine block_o (by decide) ?_)
                    | (refine block_n ?_)
                    | (refine block_r ?_)
                    | (refine AW.skip ?_)
                    | (refine AW.ret ?_)
                    | (refine AW.exit ?_)
                    | (refine AW.cond rfl ?_ ?_ <;> (intro hc; first | cases hc | ((try rw [hc]); (try simp only [stH] at hc); (try (exfalso; omega)))))
                    | ((first
                          | (refine awl_none rfl fun K hK => ?_)
                          | (refine awl_nil ?_)
                          | (refine awl_some rfl rfl (Nat.le_of_ble_eq_true rfl) rfl rfl ?_ ?_ <;> (intro hc; first | cases hc | ((try rw [hc]); (try simp only [stH] at hc); (try (exfalso; omega)))) <;> (try intro K hK))
                          | (refine awl_skip rfl rfl (Nat.le_of_ble_eq_true rfl) rfl rfl ?_)
                          | (refine awc_none rfl fun K hK => ?_)
                          | (refine awc_some rfl rfl (Nat.le_of_ble_eq_true rfl) rfl rfl ?_ ?_ <;> (intro hc; first | cases hc | ((try rw [hc]); (try simp only [stH] at hc); (try (exfalso; omega)))) <;> (try intro K hK))
                          | exact each_nil
                          | (refine each_some rfl rfl (Nat.le_of_ble_eq_true rfl) (fun bb => by (simp only [Sg3, St.updIf, St.upd, St.put, ifc_nil, gt_ifc, gt, List.nil_append, List.cons_append, Option.some.injEq, reduceCtorEq, Nat.reduceEqDiff, ↓reduceIte, ite_self]; try rfl)) rfl ?_ ?_ <;> first | (show Each _ _ _ _ _ _ _ _; skip) | (rw [if_pos rfl]; intro bb K hK) | (rw [if_neg (by decide)]; exact ⟨rfl, rfl⟩))
                          | (refine each_none rfl ?_ ?_ <;> (try intro bb K hK))
                          | (refine awc_leaf [some 22, some 23, some 24, some 25, none, none] cc_overdublaw14_SuperUnlike_1 rfl (by kernel_rfl) (by kernel_rfl) ?_ ?_)
                          | (refine awc_leaf [some 35, some 36, some 37, some 38, some 39, some 40, some 13, some 14] cc_overdublaw14_SuperUnlike_5 rfl (by kernel_rfl) (by kernel_rfl) ?_ ?_)
                          | (refine awc_leaf [some 41, some 42, some 43, some 44, some 45, some 46, some 47, some 48, some 49, some 50, some 51, some 52, some 53, some 54, some 55, some 56, some 57] cc_overdublaw14_SuperUnlike_6 rfl (by kernel_rfl) (by kernel_rfl) ?_ ?_))
                       all_goals first
                         | (show Awl _ _ _ _ _; simp only [St.upd, St.put, List.nil_append, List.cons_append, List.singleton_append, List.append_nil])
                         | (show Awc _ _ _ _ _ _; simp only [St.upd, St.put, List.nil_append, List.cons_append, List.singleton_append, List.append_nil])
                         | (show Each _ _ _ _ _ _ _ _; skip)
                         | (simp (disch := omega) only [awl, ev1, evk, evc, gv, e_move, e_pick, e_bin, binW, e_un, e_cnv, e_conv, e_str, e_mark, e_copy, e_extract, e_len, e_mm, e_nil, e_index, e_field, e_load, e_fld, e_cut, e_alloc, e_box, e_make, e_build, e_lit, e_store, e_app, e_call, args, pus, pu, pu1, toDL, toD, toD1, toDs, elems, idsW, idsV, lenV, oint, cutOk, ldV, subD, newD, fillV, cellsV, one1, one0, zD, cD0, scs, St.upd, St.put, St.ev, St.keep, gt, go, tmOf, ofD, dOk, cV, cV0, renM, Value.oneCell', keepL, freshL, vaOL, outB, wkTm, subL, ninL, injL, nm, resW, resL, resV, shift, ren, ren2, ren1, renO, va, va2, va1, vaO, inDom, stA, Int.reduceEq, ↓reduceIte, reduceCtorEq, Nat.reduceEqDiff, Nat.reduceLT, Nat.reduceLeDiff, Nat.reduceAdd, Nat.reduceSub, Nat.reduceMul, Int.reduceToNat, Int.reduceLE, Int.reduceLT, Z8, Sp_overdublaw14_Small, Sp_overdubkeep_Within, Sp_super_Pack, Sp_overdubkeep_Same_byte, Sp_super_Unpack, Sp_overdublaw14_wakes, x_bt23, x_bt3, x_bt4, x_el24, x_es23, x_fo23_0, x_fo23_1, x_fo23_3, x_pt23, x_pt3, x_pt4, x_slt24, x_tk23, x_tk3, x_zc23, bxS, hbA, hbB, hlA, hlB, htA, htB, mB_inj, Sg3, St.updIf, ifc_nil, gt_ifc, go_ifc, ite_self, Option.none_or, Option.some_or]
                            (try ((repeat' first | (refine And.intro ?_ ?_) | (intro hc; first | cases hc | ((try rw [hc]); (try simp only [stH] at hc); (try (exfalso; omega)))))
                                  all_goals first | (refine hK _ _ ?_; clear hK K; simp only [St.upd, St.put, List.nil_append, List.cons_append, List.singleton_append, List.append_nil]) | exact hK | omega))))
          refine ⟨rfl, nm [], Wk.of ?_⟩
          simp (disch := omega) only [awl, ev1, evk, evc, gv, e_move, e_pick, e_bin, binW, e_un, e_cnv, e_conv, e_str, e_mark, e_copy, e_extract, e_len, e_mm, e_nil, e_index, e_field, e_load, e_fld, e_cut, e_alloc, e_box, e_make, e_build, e_lit, e_store, e_app, e_call, args, pus, pu, pu1, toDL, toD, toD1, toDs, elems, idsW, idsV, lenV, oint, cutOk, ldV, subD, newD, fillV, cellsV, one1, one0, zD, cD0, scs, St.upd, St.put, St.ev, St.keep, gt, go, tmOf, ofD, dOk, cV, cV0, renM, Value.oneCell', keepL, freshL, vaOL, outB, wkTm, subL, ninL, injL, nm, resW, resL, resV, shift, ren, ren2, ren1, renO, va, va2, va1, vaO, inDom, stA, Int.reduceEq, ↓reduceIte, reduceCtorEq, Nat.reduceEqDiff, Nat.reduceLT, Nat.reduceLeDiff, Nat.reduceAdd, Nat.reduceSub, Nat.reduceMul, Int.reduceToNat, Int.reduceLE, Int.reduceLT, Z8, Sp_overdublaw14_Small, Sp_overdubkeep_Within, Sp_super_Pack, Sp_overdubkeep_Same_byte, Sp_super_Unpack, Sp_overdublaw14_wakes, x_bt23, x_bt3, x_bt4, x_el24, x_es23, x_fo23_0, x_fo23_1, x_fo23_3, x_pt23, x_pt3, x_pt4, x_slt24, x_tk23, x_tk3, x_zc23, bxS]
        · have hne : decide (supP g l d r n = supP g l d r m) = false := decide_eq_false fun h => hn (hi.1 h).2.2.2.2
          have hnm : decide (n = m) = false := decide_eq_false hn
          repeat' first
                    | (refine AW.seq ?_)
                    | (refine AW.block ?_)
                    | (refine AW.regl Z8_ok [0, 1, 2, 3, 4, 5, 6, 7, 12, 13, 14, 15, 18, 21, 32, 57, 60, 61, 64, 67, 70] ?_)
                    | (refine AW.regc (id := 1) Z8_ok follows [0, 1, 0, 7, 15, 31] (by kernel_rfl) [0, 1, 2, 3, 4, 5, 6, 7, 12, 13, 14, 15, 18, 21, 32, 57, 60, 61, 64, 67, 70] ?_)
                    | (refine AW.regc (id := 5) Z8_ok follows [0, 0, 3, 0, 0, 31, 63, 127] (by kernel_rfl) [0, 1, 2, 3, 4, 5, 6, 7, 12, 13, 14, 15, 18, 21, 32, 57, 60, 61, 64, 67, 70] ?_)
                    | (refine AW.regc (id := 6) Z8_ok follows [0, 1, 3, 7, 15, 15, 63, 15, 15, 399, 1023, 2047, 2047, 8191, 16383, 32767, 65535] (by kernel_rfl) [0, 1, 2, 3, 4, 5, 6, 7, 12, 13, 14, 15, 18, 21, 32, 57, 60, 61, 64, 67, 70] ?_)
                    | (refine then_n ?_)
                    | (refine then_r ?_)
                    | (refine then_x ?_)
                    | (refine block_x ?_)
                    | (refine block_o (by decide) ?_)
                    | (refine block_n ?_)
                    | (refine block_r ?_)
                    | (refine AW.skip ?_)
                    | (refine AW.ret ?_)
                    | (refine AW.exit ?_)
                    | (refine AW.cond rfl ?_ ?_ <;> (intro hc; first | cases hc | ((try rw [hc]); (try simp only [stH] at hc); (try (exfalso; omega)))))
                    | ((first
                          | (refine awl_none rfl fun K hK => ?_)
                          | (refine awl_nil ?_)
                          | (refine awl_some rfl rfl (Nat.le_of_ble_eq_true rfl) rfl rfl ?_ ?_ <;> (intro hc; first | cases hc | ((try rw [hc]); (try simp only [stH] at hc); (try (exfalso; omega)))) <;> (try intro K hK))
                          | (refine awl_skip rfl rfl (Nat.le_of_ble_eq_true rfl) rfl rfl ?_)
                          | (refine awc_none rfl fun K hK => ?_)
                          | (refine awc_some rfl rfl (Nat.le_of_ble_eq_true rfl) rfl rfl ?_ ?_ <;> (intro hc; first | cases hc | ((try rw [hc]); (try simp only [stH] at hc); (try (exfalso; omega)))) <;> (try intro K hK))
                          | exact each_nil
                          | (refine each_some rfl rfl (Nat.le_of_ble_eq_true rfl) (fun bb => by (simp only [Sg3, St.updIf, St.upd, St.put, ifc_nil, gt_ifc, gt, List.nil_append, List.cons_append, Option.some.injEq, reduceCtorEq, Nat.reduceEqDiff, ↓reduceIte, ite_self]; try rfl)) rfl ?_ ?_ <;> first | (show Each _ _ _ _ _ _ _ _; skip) | (rw [if_pos rfl]; intro bb K hK) | (rw [if_neg (by decide)]; exact ⟨rfl, rfl⟩))
                          | (refine each_none rfl ?_ ?_ <;> (try intro bb K hK))
                          | (refine awc_leaf [some 22, some 23, some 24, some 25, none, none] cc_overdublaw14_SuperUnlike_1 rfl (by kernel_rfl) (by kernel_rfl) ?_ ?_)
                          | (refine awc_leaf [some 35, some 36, some 37, some 38, some 39, some 40, some 13, some 14] cc_overdublaw14_SuperUnlike_5 rfl (by kernel_rfl) (by kernel_rfl) ?_ ?_)
                          | (refine awc_leaf [some 41, some 42, some 43, some 44, some 45, some 46, some 47, some 48, some 49, some 50, some 51, some 52, some 53, some 54, some 55, some 56, some 57] cc_overdublaw14_SuperUnlike_6 rfl (by kernel_rfl) (by kernel_rfl) ?_ ?_))
                       all_goals first
                         | (show Awl _ _ _ _ _; simp only [St.upd, St.put, List.nil_append, List.cons_append, List.singleton_append, List.append_nil])
                         | (show Awc _ _ _ _ _ _; simp only [St.upd, St.put, List.nil_append, List.cons_append, List.singleton_append, List.append_nil])
                         | (show Each _ _ _ _ _ _ _ _; skip)
                         | (simp (disch := omega) only [awl, ev1, evk, evc, gv, e_move, e_pick, e_bin, binW, e_un, e_cnv, e_conv, e_str, e_mark, e_copy, e_extract, e_len, e_mm, e_nil, e_index, e_field, e_load, e_fld, e_cut, e_alloc, e_box, e_make, e_build, e_lit, e_store, e_app, e_call, args, pus, pu, pu1, toDL, toD, toD1, toDs, elems, idsW, idsV, lenV, oint, cutOk, ldV, subD, newD, fillV, cellsV, one1, one0, zD, cD0, scs, St.upd, St.put, St.ev, St.keep, gt, go, tmOf, ofD, dOk, cV, cV0, renM, Value.oneCell', keepL, freshL, vaOL, outB, wkTm, subL, ninL, injL, nm, resW, resL, resV, shift, ren, ren2, ren1, renO, va, va2, va1, vaO, inDom, stA, Int.reduceEq, ↓reduceIte, reduceCtorEq, Nat.reduceEqDiff, Nat.reduceLT, Nat.reduceLeDiff, Nat.reduceAdd, Nat.reduceSub, Nat.reduceMul, Int.reduceToNat, Int.reduceLE, Int.reduceLT, Z8, Sp_overdublaw14_Small, Sp_overdubkeep_Within, Sp_super_Pack, Sp_overdubkeep_Same_byte, Sp_super_Unpack, Sp_overdublaw14_wakes, x_bt23, x_bt3, x_bt4, x_el24, x_es23, x_fo23_0, x_fo23_1, x_fo23_3, x_pt23, x_pt3, x_pt4, x_slt24, x_tk23, x_tk3, x_zc23, bxS, hbA, hbB, hlA, hlB, htA, htB, mB_inj, hne, hnm, Sg3, St.updIf, ifc_nil, gt_ifc, go_ifc, ite_self, Option.none_or, Option.some_or]
                            (try ((repeat' first | (refine And.intro ?_ ?_) | (intro hc; first | cases hc | ((try rw [hc]); (try simp only [stH] at hc); (try (exfalso; omega)))))
                                  all_goals first | (refine hK _ _ ?_; clear hK K; simp only [St.upd, St.put, List.nil_append, List.cons_append, List.singleton_append, List.append_nil]) | exact hK | omega))))
          refine ⟨rfl, nm [], Wk.of ?_⟩
          simp (disch := omega) only [awl, ev1, evk, evc, gv, e_move, e_pick, e_bin, binW, e_un, e_cnv, e_conv, e_str, e_mark, e_copy, e_extract, e_len, e_mm, e_nil, e_index, e_field, e_load, e_fld, e_cut, e_alloc, e_box, e_make, e_build, e_lit, e_store, e_app, e_call, args, pus, pu, pu1, toDL, toD, toD1, toDs, elems, idsW, idsV, lenV, oint, cutOk, ldV, subD, newD, fillV, cellsV, one1, one0, zD, cD0, scs, St.upd, St.put, St.ev, St.keep, gt, go, tmOf, ofD, dOk, cV, cV0, renM, Value.oneCell', keepL, freshL, vaOL, outB, wkTm, subL, ninL, injL, nm, resW, resL, resV, shift, ren, ren2, ren1, renO, va, va2, va1, vaO, inDom, stA, Int.reduceEq, ↓reduceIte, reduceCtorEq, Nat.reduceEqDiff, Nat.reduceLT, Nat.reduceLeDiff, Nat.reduceAdd, Nat.reduceSub, Nat.reduceMul, Int.reduceToNat, Int.reduceLE, Int.reduceLT, Z8, Sp_overdublaw14_Small, Sp_overdubkeep_Within, Sp_super_Pack, Sp_overdubkeep_Same_byte, Sp_super_Unpack, Sp_overdublaw14_wakes, x_bt23, x_bt3, x_bt4, x_el24, x_es23, x_fo23_0, x_fo23_1, x_fo23_3, x_pt23, x_pt3, x_pt4, x_slt24, x_tk23, x_tk3, x_zc23, bxS]
      · have hne : decide (supP g l d r n = supP g' l' d' r' m) = false := decide_eq_false fun h => hs ⟨(hi.1 h).1, (hi.1 h).2.1, (hi.1 h).2.2.1, (hi.1 h).2.2.2.1⟩
        have hsd : decide (g = g' ∧ l = l' ∧ d = d' ∧ r = r') = false := decide_eq_false hs
        repeat' first
                    | (refine AW.seq ?_)
                    | (refine AW.block ?_)
                    | (refine AW.regl Z8_ok [0, 1, 2, 3, 4, 5, 6, 7, 12, 13, 14, 15, 18, 21, 32, 57, 60, 61, 64, 67, 70] ?_)
                    | (refine AW.regc (id := 1) Z8_ok follows [0, 1, 0, 7, 15, 31] (by kernel_rfl) [0, 1, 2, 3, 4, 5, 6, 7, 12, 13, 14, 15, 18, 21, 32, 57, 60, 61, 64, 67, 70] ?_)
                    | (refine AW.regc (id := 5) Z8_ok follows [0, 0, 3, 0, 0, 31, 63, 127] (by kernel_rfl) [0, 1, 2, 3, 4, 5, 6, 7, 12, 13, 14, 15, 18, 21, 32, 57, 60, 61, 64, 67, 70] ?_)
                    | (refine AW.regc (id := 6) Z8_ok follows [0, 1, 3, 7, 15, 15, 63, 15, 15, 399, 1023, 2047, 2047, 8191, 16383, 32767, 65535] (by kernel_rfl) [0, 1, 2, 3, 4, 5, 6, 7, 12, 13, 14, 15, 18, 21, 32, 57, 60, 61, 64, 67, 70] ?_)
                    | (refine then_n ?_)
                    | (refine then_r ?_)
                    | (refine then_x ?_)
                    | (refine block_x ?_)
                    | (refine block_o (by decide) ?_)
                    | (refine block_n ?_)
                    | (refine block_r ?_)
                    | (refine AW.skip ?_)
                    | (refine AW.ret ?_)
                    | (refine AW.exit ?_)
                    | (refine AW.cond rfl ?_ ?_ <;> (intro hc; first | cases hc | ((try rw [hc]); (try simp only [stH] at hc); (try (exfalso; omega)))))
                    | ((first
                          | (refine awl_none rfl fun K hK => ?_)
                          | (refine awl_nil ?_)
                          | (refine awl_some rfl rfl (Nat.le_of_ble_eq_true rfl) rfl rfl ?_ ?_ <;> (intro hc; first | cases hc | ((try rw [hc]); (try simp only [stH] at hc); (try (exfalso; omega)))) <;> (try intro K hK))
                          | (refine awl_skip rfl rfl (Nat.le_of_ble_eq_true rfl) rfl rfl ?_)
                          | (refine awc_none rfl fun K hK => ?_)
                          | (refine awc_some rfl rfl (Nat.le_of_ble_eq_true rfl) rfl rfl ?_ ?_ <;> (intro hc; first | cases hc | ((try rw [hc]); (try simp only [stH] at hc); (try (exfalso; omega)))) <;> (try intro K hK))
                          | exact each_nil
                          | (refine each_some rfl rfl (Nat.le_of_ble_eq_true rfl) (fun bb => by (simp only [Sg3, St.updIf, St.upd, St.put, ifc_nil, gt_ifc, gt, List.nil_append, List.cons_append, Option.some.injEq, reduceCtorEq, Nat.reduceEqDiff, ↓reduceIte, ite_self]; try rfl)) rfl ?_ ?_ <;> first | (show Each _ _ _ _ _ _ _ _; skip) | (rw [if_pos rfl]; intro bb K hK) | (rw [if_neg (by decide)]; exact ⟨rfl, rfl⟩))
                          | (refine each_none rfl ?_ ?_ <;> (try intro bb K hK))
                          | (refine awc_leaf [some 22, some 23, some 24, some 25, none, none] cc_overdublaw14_SuperUnlike_1 rfl (by kernel_rfl) (by kernel_rfl) ?_ ?_)
                          | (refine awc_leaf [some 35, some 36, some 37, some 38, some 39, some 40, some 13, some 14] cc_overdublaw14_SuperUnlike_5 rfl (by kernel_rfl) (by kernel_rfl) ?_ ?_)
                          | (refine awc_leaf [some 41, some 42, some 43, some 44, some 45, some 46, some 47, some 48, some 49, some 50, some 51, some 52, some 53, some 54, some 55, some 56, some 57] cc_overdublaw14_SuperUnlike_6 rfl (by kernel_rfl) (by kernel_rfl) ?_ ?_))
                       all_goals first
                         | (show Awl _ _ _ _ _; simp only [St.upd, St.put, List.nil_append, List.cons_append, List.singleton_append, List.append_nil])
                         | (show Awc _ _ _ _ _ _; simp only [St.upd, St.put, List.nil_append, List.cons_append, List.singleton_append, List.append_nil])
                         | (show Each _ _ _ _ _ _ _ _; skip)
                         | (simp (disch := omega) only [awl, ev1, evk, evc, gv, e_move, e_pick, e_bin, binW, e_un, e_cnv, e_conv, e_str, e_mark, e_copy, e_extract, e_len, e_mm, e_nil, e_index, e_field, e_load, e_fld, e_cut, e_alloc, e_box, e_make, e_build, e_lit, e_store, e_app, e_call, args, pus, pu, pu1, toDL, toD, toD1, toDs, elems, idsW, idsV, lenV, oint, cutOk, ldV, subD, newD, fillV, cellsV, one1, one0, zD, cD0, scs, St.upd, St.put, St.ev, St.keep, gt, go, tmOf, ofD, dOk, cV, cV0, renM, Value.oneCell', keepL, freshL, vaOL, outB, wkTm, subL, ninL, injL, nm, resW, resL, resV, shift, ren, ren2, ren1, renO, va, va2, va1, vaO, inDom, stA, Int.reduceEq, ↓reduceIte, reduceCtorEq, Nat.reduceEqDiff, Nat.reduceLT, Nat.reduceLeDiff, Nat.reduceAdd, Nat.reduceSub, Nat.reduceMul, Int.reduceToNat, Int.reduceLE, Int.reduceLT, Z8, Sp_overdublaw14_Small, Sp_overdubkeep_Within, Sp_super_Pack, Sp_overdubkeep_Same_byte, Sp_super_Unpack, Sp_overdublaw14_wakes, x_bt23, x_bt3, x_bt4, x_el24, x_es23, x_fo23_0, x_fo23_1, x_fo23_3, x_pt23, x_pt3, x_pt4, x_slt24, x_tk23, x_tk3, x_zc23, bxS, hbA, hbB, hlA, hlB, htA, htB, mB_inj, hne, hsd, Sg3, St.updIf, ifc_nil, gt_ifc, go_ifc, ite_self, Option.none_or, Option.some_or]
                            (try ((repeat' first | (refine And.intro ?_ ?_) | (intro hc; first | cases hc | ((try rw [hc]); (try simp only [stH] at hc); (try (exfalso; omega)))))
                                  all_goals first | (refine hK _ _ ?_; clear hK K; simp only [St.upd, St.put, List.nil_append, List.cons_append, List.singleton_append, List.append_nil]) | exact hK | omega))))
        refine ⟨rfl, nm [], Wk.of ?_⟩
        simp (disch := omega) only [awl, ev1, evk, evc, gv, e_move, e_pick, e_bin, binW, e_un, e_cnv, e_conv, e_str, e_mark, e_copy, e_extract, e_len, e_mm, e_nil, e_index, e_field, e_load, e_fld, e_cut, e_alloc, e_box, e_make, e_build, e_lit, e_store, e_app, e_call, args, pus, pu, pu1, toDL, toD, toD1, toDs, elems, idsW, idsV, lenV, oint, cutOk, ldV, subD, newD, fillV, cellsV, one1, one0, zD, cD0, scs, St.upd, St.put, St.ev, St.keep, gt, go, tmOf, ofD, dOk, cV, cV0, renM, Value.oneCell', keepL, freshL, vaOL, outB, wkTm, subL, ninL, injL, nm, resW, resL, resV, shift, ren, ren2, ren1, renO, va, va2, va1, vaO, inDom, stA, Int.reduceEq, ↓reduceIte, reduceCtorEq, Nat.reduceEqDiff, Nat.reduceLT, Nat.reduceLeDiff, Nat.reduceAdd, Nat.reduceSub, Nat.reduceMul, Int.reduceToNat, Int.reduceLE, Int.reduceLT, Z8, Sp_overdublaw14_Small, Sp_overdubkeep_Within, Sp_super_Pack, Sp_overdubkeep_Same_byte, Sp_super_Unpack, Sp_overdublaw14_wakes, x_bt23, x_bt3, x_bt4, x_el24, x_es23, x_fo23_0, x_fo23_1, x_fo23_3, x_pt23, x_pt3, x_pt4, x_slt24, x_tk23, x_tk3, x_zc23, bxS]
    clear hi hbB hlB htB m1 m2 b1 b2 b3 b4 b5 b6 b7 b8
    have w5 := within_rng (v := wh) (n := 5) (by omega)
    have hol : ¬ sOk ((supP g l d r n).take 127) := sOk_less _ (by rw [List.length_take]; omega)
    have hb7 : Byt ((supP g l d r n).take 127) = True := eq_true (byt_take (supP_byt _ _ _ _ _) _)
    have hl7 : ((supP g l d r n).take 127).length = 127 := by rw [List.length_take]; omega
    have hm7 : ((supP g l d r n).map mB).take 127 = ((supP g l d r n).take 127).map mB := List.map_take.symm
    have ho7 := sup_no hol
    have case5 : within wh 5 = 0 ∨ within wh 5 = 1 ∨ within wh 5 = 2 ∨ within wh 5 = 3 ∨ within wh 5 = 4 := by omega
    clear w5
    rcases case5 with hw | hw | hw | hw | hw
    case' inl =>
      have ho := sup_no (mt (sOk_sup (g := 0) (l := l) (d := d) (r := r) (c := n) ⟨by omega, by omega⟩ ul ud ur un).1 (by unfold sRng; omega))
      have hbx : Byt (supP 0 l d r n) = True := eq_true (supP_byt _ _ _ _ _)
      have hlx : (supP 0 l d r n).length = 128 := supP_len _ _ _ _ _
      have htx : ((supP 0 l d r n).map mB).take 128 = (supP 0 l d r n).map mB := List.take_of_length_le (by simp [hlx])
    case' inr.inl =>
      have ho := sup_no (mt (sOk_sup (g := g) (l := 0) (d := d) (r := r) (c := n) ug ⟨by omega, by omega⟩ ud ur un).1 (by unfold sRng; omega))
      have hbx : Byt (supP g 0 d r n) = True := eq_true (supP_byt _ _ _ _ _)
      have hlx : (supP g 0 d r n).length = 128 := supP_len _ _ _ _ _
      have htx : ((supP g 0 d r n).map mB).take 128 = (supP g 0 d r n).map mB := List.take_of_length_le (by simp [hlx])
    case' inr.inr.inl =>
      have ho := sup_no (mt (sOk_sup (g := g) (l := l) (d := d) (r := 4096) (c := n) ug ul ud ⟨by omega, by omega⟩ un).1 (by unfold sRng; omega))
      have hbx : Byt (supP g l d 4096 n) = True := eq_true (supP_byt _ _ _ _ _)
      have hlx : (supP g l d 4096 n).length = 128 := supP_len _ _ _ _ _
      have htx : ((supP g l d 4096 n).map mB).take 128 = (supP g l d 4096 n).map mB := List.take_of_length_le (by simp [hlx])
    case' inr.inr.inr.inl =>
      have ho := sup_no (mt (sOk_sup (g := g) (l := l) (d := d) (r := r) (c := 0) ug ul ud ur ⟨by omega, by omega⟩).1 (by unfold sRng; omega))
      have hbx : Byt (supP g l d r 0) = True := eq_true (supP_byt _ _ _ _ _)
      have hlx : (supP g l d r 0).length = 128 := supP_len _ _ _ _ _
      have htx : ((supP g l d r 0).map mB).take 128 = (supP g l d r 0).map mB := List.take_of_length_le (by simp [hlx])
    case' inr.inr.inr.inr =>
      have ho := sup_no (mt (sOk_sup (g := g) (l := l) (d := d) (r := r) (c := 1025) ug ul ud ur ⟨by omega, by omega⟩).1 (by unfold sRng; omega))
      have hbx : Byt (supP g l d r 1025) = True := eq_true (supP_byt _ _ _ _ _)
      have hlx : (supP g l d r 1025).length = 128 := supP_len _ _ _ _ _
      have htx : ((supP g l d r 1025).map mB).take 128 = (supP g l d r 1025).map mB := List.take_of_length_le (by simp [hlx])
    all_goals repeat' first
                    | (refine AW.seq ?_)
                    | (refine AW.block ?_)
                    | (refine AW.regl Z8_ok [0, 1, 2, 3, 4, 5, 6, 7, 12, 13, 14, 15, 18, 21, 32, 57, 60, 61, 64, 67, 70] ?_)
                    | (refine AW.regc (id := 1) Z8_ok follows [0, 1, 0, 7, 15, 31] (by kernel_rfl) [0, 1, 2, 3, 4, 5, 6, 7, 12, 13, 14, 15, 18, 21, 32, 57, 60, 61, 64, 67, 70] ?_)
                    | (refine AW.regc (id := 5) Z8_ok follows [0, 0, 3, 0, 0, 31, 63, 127] (by kernel_rfl) [0, 1, 2, 3, 4, 5, 6, 7, 12, 13, 14, 15, 18, 21, 32, 57, 60, 61, 64, 67, 70] ?_)
                    | (refine AW.regc (id := 6) Z8_ok follows [0, 1, 3, 7, 15, 15, 63, 15, 15, 399, 1023, 2047, 2047, 8191, 16383, 32767, 65535] (by kernel_rfl) [0, 1, 2, 3, 4, 5, 6, 7, 12, 13, 14, 15, 18, 21, 32, 57, 60, 61, 64, 67, 70] ?_)
                    | (refine then_n ?_)
                    | (refine then_r ?_)
                    | (refine then_x ?_)
                    | (refine block_x ?_)
                    | (refine block_o (by decide) ?_)
                    | (refine block_n ?_)
                    | (refine block_r ?_)
                    | (refine AW.skip ?_)
                    | (refine AW.ret ?_)
                    | (refine AW.exit ?_)
                    | (refine AW.cond rfl ?_ ?_ <;> (intro hc; first | cases hc | ((try rw [hc]); (try simp only [stH] at hc); (try (exfalso; omega)))))
                    | ((first
                          | (refine awl_none rfl fun K hK => ?_)
                          | (refine awl_nil ?_)
                          | (refine awl_some rfl rfl (Nat.le_of_ble_eq_true rfl) rfl rfl ?_ ?_ <;> (intro hc; first | cases hc | ((try rw [hc]); (try simp only [stH] at hc); (try (exfalso; omega)))) <;> (try intro K hK))
                          | (refine awl_skip rfl rfl (Nat.le_of_ble_eq_true rfl) rfl rfl ?_)
                          | (refine awc_none rfl fun K hK => ?_)
                          | (refine awc_some rfl rfl (Nat.le_of_ble_eq_true rfl) rfl rfl ?_ ?_ <;> (intro hc; first | cases hc | ((try rw [hc]); (try simp only [stH] at hc); (try (exfalso; omega)))) <;> (try intro K hK))
                          | exact each_nil
                          | (refine each_some rfl rfl (Nat.le_of_ble_eq_true rfl) (fun bb => by (simp only [Sg3, St.updIf, St.upd, St.put, ifc_nil, gt_ifc, gt, List.nil_append, List.cons_append, Option.some.injEq, reduceCtorEq, Nat.reduceEqDiff, ↓reduceIte, ite_self]; try rfl)) rfl ?_ ?_ <;> first | (show Each _ _ _ _ _ _ _ _; skip) | (rw [if_pos rfl]; intro bb K hK) | (rw [if_neg (by decide)]; exact ⟨rfl, rfl⟩))
                          | (refine each_none rfl ?_ ?_ <;> (try intro bb K hK))
                          | (refine awc_leaf [some 22, some 23, some 24, some 25, none, none] cc_overdublaw14_SuperUnlike_1 rfl (by kernel_rfl) (by kernel_rfl) ?_ ?_)
                          | (refine awc_leaf [some 35, some 36, some 37, some 38, some 39, some 40, some 13, some 14] cc_overdublaw14_SuperUnlike_5 rfl (by kernel_rfl) (by kernel_rfl) ?_ ?_)
                          | (refine awc_leaf [some 41, some 42, some 43, some 44, some 45, some 46, some 47, some 48, some 49, some 50, some 51, some 52, some 53, some 54, some 55, some 56, some 57] cc_overdublaw14_SuperUnlike_6 rfl (by kernel_rfl) (by kernel_rfl) ?_ ?_))
                       all_goals first
                         | (show Awl _ _ _ _ _; simp only [St.upd, St.put, List.nil_append, List.cons_append, List.singleton_append, List.append_nil])
                         | (show Awc _ _ _ _ _ _; simp only [St.upd, St.put, List.nil_append, List.cons_append, List.singleton_append, List.append_nil])
                         | (show Each _ _ _ _ _ _ _ _; skip)
                         | (simp (disch := omega) only [awl, ev1, evk, evc, gv, e_move, e_pick, e_bin, binW, e_un, e_cnv, e_conv, e_str, e_mark, e_copy, e_extract, e_len, e_mm, e_nil, e_index, e_field, e_load, e_fld, e_cut, e_alloc, e_box, e_make, e_build, e_lit, e_store, e_app, e_call, args, pus, pu, pu1, toDL, toD, toD1, toDs, elems, idsW, idsV, lenV, oint, cutOk, ldV, subD, newD, fillV, cellsV, one1, one0, zD, cD0, scs, St.upd, St.put, St.ev, St.keep, gt, go, tmOf, ofD, dOk, cV, cV0, renM, Value.oneCell', keepL, freshL, vaOL, outB, wkTm, subL, ninL, injL, nm, resW, resL, resV, shift, ren, ren2, ren1, renO, va, va2, va1, vaO, inDom, stA, Int.reduceEq, ↓reduceIte, reduceCtorEq, Nat.reduceEqDiff, Nat.reduceLT, Nat.reduceLeDiff, Nat.reduceAdd, Nat.reduceSub, Nat.reduceMul, Int.reduceToNat, Int.reduceLE, Int.reduceLT, Z8, Sp_overdublaw14_Small, Sp_overdubkeep_Within, Sp_super_Pack, Sp_overdubkeep_Same_byte, Sp_super_Unpack, Sp_overdublaw14_wakes, x_bt23, x_bt3, x_bt4, x_el24, x_es23, x_fo23_0, x_fo23_1, x_fo23_3, x_pt23, x_pt3, x_pt4, x_slt24, x_tk23, x_tk3, x_zc23, bxS, hw, hbA, hlA, htA, hb7, hl7, hm7, ho7, ho, hbx, hlx, htx, mB_inj, Sg3, St.updIf, ifc_nil, gt_ifc, go_ifc, ite_self, Option.none_or, Option.some_or]
                            (try ((repeat' first | (refine And.intro ?_ ?_) | (intro hc; first | cases hc | ((try rw [hc]); (try simp only [stH] at hc); (try (exfalso; omega)))))
                                  all_goals first | (refine hK _ _ ?_; clear hK K; simp only [St.upd, St.put, List.nil_append, List.cons_append, List.singleton_append, List.append_nil]) | exact hK | omega))))
    all_goals (refine Ends.of (nm []) (by first | exact .inl rfl | exact .inr rfl) ?_; simp (disch := omega) only [awl, ev1, evk, evc, gv, e_move, e_pick, e_bin, binW, e_un, e_cnv, e_conv, e_str, e_mark, e_copy, e_extract, e_len, e_mm, e_nil, e_index, e_field, e_load, e_fld, e_cut, e_alloc, e_box, e_make, e_build, e_lit, e_store, e_app, e_call, args, pus, pu, pu1, toDL, toD, toD1, toDs, elems, idsW, idsV, lenV, oint, cutOk, ldV, subD, newD, fillV, cellsV, one1, one0, zD, cD0, scs, St.upd, St.put, St.ev, St.keep, gt, go, tmOf, ofD, dOk, cV, cV0, renM, Value.oneCell', keepL, freshL, vaOL, outB, wkTm, subL, ninL, injL, nm, resW, resL, resV, shift, ren, ren2, ren1, renO, va, va2, va1, vaO, inDom, stA, Int.reduceEq, ↓reduceIte, reduceCtorEq, Nat.reduceEqDiff, Nat.reduceLT, Nat.reduceLeDiff, Nat.reduceAdd, Nat.reduceSub, Nat.reduceMul, Int.reduceToNat, Int.reduceLE, Int.reduceLT, Z8, Sp_overdublaw14_Small, Sp_overdubkeep_Within, Sp_super_Pack, Sp_overdubkeep_Same_byte, Sp_super_Unpack, Sp_overdublaw14_wakes, x_bt23, x_bt3, x_bt4, x_el24, x_es23, x_fo23_0, x_fo23_1, x_fo23_3, x_pt23, x_pt3, x_pt4, x_slt24, x_tk23, x_tk3, x_zc23])
theorem ent_overdublaw14_SuperUnlike : Ent Try.prog 4 := ⟨_, Try.func4, rfl, by decide⟩
end Go.Proofs.Ytceoegbljkbgeaa.Am
