import Derived.Test.YtceoegbljkbgeaaZD3
import Derived.Test.YtceoegbljkbgeaaZFlS
set_option linter.unusedVariables false
set_option linter.unusedSimpArgs false
set_option maxRecDepth 10000
set_option maxHeartbeats 0
namespace Go.Proofs.Ytceoegbljkbgeaa.Am
open Go Go.RowKit Go.Proofs
noncomputable def ZP : Env := ⟨Try.prog, fun f ds out => (f = 9 ∧ Sp_overdublaw14_Small ds out) ∨ (f = 10 ∧ Sp_overdubkeep_Within ds out) ∨ (f = 15 ∧ Sp_super_Pack ds out) ∨ (f = 8 ∧ Sp_overdubref14_PackSuper ds out) ∨ (f = 16 ∧ Sp_overdubkeep_Same_byte ds out) ∨ (f = 19 ∧ Sp_overdubkeep_Copy_byte ds out) ∨ (f = 20 ∧ Sp_overdublaw14_resum ds out) ∨ (f = 11 ∧ Sp_overdubkeep_Cut_byte ds out) ∨ (f = 17 ∧ Sp_super_Unpack ds out) ∨ (f = 21 ∧ Sp_overdubref14_UnpackSuper ds out) ∨ (f = 18 ∧ Sp_super_Next ds out) ∨ (f = 14 ∧ Sp_overdublaw14_wakes ds out), Es⟩
theorem ZP_sp : ∀ f ds out, ZP.Sp f ds out → Ent ZP.P f ∧ Good ZP.P f (fun a b => a = ds ∧ b = out) := by
  rintro f ds out (⟨rfl, h⟩ | ⟨rfl, h⟩ | ⟨rfl, h⟩ | ⟨rfl, h⟩ | ⟨rfl, h⟩ | ⟨rfl, h⟩ | ⟨rfl, h⟩ | ⟨rfl, h⟩ | ⟨rfl, h⟩ | ⟨rfl, h⟩ | ⟨rfl, h⟩ | ⟨rfl, h⟩)
  · exact ⟨ent_overdublaw14_Small, good_overdublaw14_Small.one h⟩
  · exact ⟨ent_overdubkeep_Within, good_overdubkeep_Within.one h⟩
  · exact ⟨ent_super_Pack, good_super_Pack.one h⟩
  · exact ⟨ent_overdubref14_PackSuper, good_overdubref14_PackSuper.one h⟩
  · exact ⟨ent_overdubkeep_Same_byte, good_overdubkeep_Same_byte.one h⟩
  · exact ⟨ent_overdubkeep_Copy_byte, good_overdubkeep_Copy_byte.one h⟩
  · exact ⟨ent_overdublaw14_resum, good_overdublaw14_resum.one h⟩
  · exact ⟨ent_overdubkeep_Cut_byte, good_overdubkeep_Cut_byte.one h⟩
  · exact ⟨ent_super_Unpack, good_super_Unpack.one h⟩
  · exact ⟨ent_overdubref14_UnpackSuper, good_overdubref14_UnpackSuper.one h⟩
  · exact ⟨ent_super_Next, good_super_Next.one h⟩
  · exact ⟨ent_overdublaw14_wakes, good_overdublaw14_wakes.one h⟩
theorem ZP_ok : ZP.Ok := ⟨ZP_sp, Es_ok⟩
theorem within2 (g : Int) : within (max g 0) 2 = max 0 g % 2 := by
  unfold within
  rw [if_neg (by omega), Int.tmod_eq_emod_of_nonneg (by omega), show max g 0 = max 0 g by omega]
  split
  · omega
  · rfl
def wfQ (p : Su × Int) : Prop := i64 p.1.g ∧ i64 p.1.l ∧ i64 p.1.d ∧ i64 p.1.r ∧ i64 p.2
def stQ (b : List Int) (at' c : Int) (sm : Bool) (p : Su × Int) : St := ⟨[(1, .d (.v (.int .i64 p.2))), (3, .d (.list (b.map mB))), (4, .d (.v (.int .i64 at'))), (5, .d (.v (.int .u8 c))), (6, .d (.v (.bool sm))), (7, .ptr 7 0), (14, .d (.v (.bool false)))], [(7, .box (bxS p.1))], 103⟩
def stR (b : List Int) (s : Su) (P : List Int) (X : List Int) : St := ⟨[(3, .d (.list (b.map mB))), (7, .ptr 7 0), (14, .d (.v (.bool false))), (16, .sl 37 1 0 128 true), (17, .sl 43 1 0 128 true)], [(7, .box (bxS s)), (37, .row 5 1 (P.map mB)), (43, .row 5 1 (X.map mB))], 103⟩
def Sp_overdublaw14_SuperPacks (ds : List D) (out : Out) : Prop := ∃ (g l d r cs : Int) (small : Bool) (b : List Int) (at' c : Int) (sm : Bool), ds = [.agg [.v (.int .i64 g), .v (.int .i64 l), .v (.int .i64 d), .v (.int .i64 r)], .v (.int .i64 cs), .v (.bool small), .list (b.map mB), .v (.int .i64 at'), .v (.int .u8 c), .v (.bool sm)] ∧ (i64 g ∧ i64 l ∧ i64 d ∧ i64 r ∧ i64 cs) ∧ (0 ≤ c ∧ c < 256) ∧ Byt b ∧ b.length ≤ 9223372036854775807 ∧ out = ⟨.d (.v (.bool true)), []⟩
def cc_overdublaw14_SuperPacks_19 : List (List (Option Bool)) := [[some false, some false, none, none, none, some false, some false, some false, some false, some false, some false], [some true, some false, none, none, none, some false, some false, some false, some false, some false, some false], [none, none, some false, some false, some false, some false, some false, some false, some false, some false, some false], [none, none, some true, some false, some false, some false, some false, some false, some false, some false, some false], [none, none, some true, some true, some false, some false, some false, some false, some false, some false, some false], [some true, some true, some true, some true, some true, some false, some false, some false, some false, some false, some false], [some true, some true, some true, some true, some true, some true, some false, some false, some false, some false, some false], [some true, some true, some true, some true, some true, some true, some true, some false, some false, some false, some false], [some true, some true, some true, some true, some true, some true, some true, some true, some false, some false, some false], [some true, some true, some true, some true, some true, some true, some true, some true, some true, some false, some false], [some true, some true, some true, some true, some true, some true, some true, some true, some true, some true, some false]]
theorem good_overdublaw14_SuperPacks : Good Try.prog 6 Sp_overdublaw14_SuperPacks := by
  refine good_body (E := ZP) (nt := 103) (rs := #[.tmp 14]) Try.func6 rfl rfl rfl ?_
  rintro ds out ⟨g, l, d, r, cs, small, b, at', c, sm, rfl, ⟨g1, l1, d1, r1, cs1⟩, hc, hb, hbl, rfl⟩
  refine ⟨by simp, ?_⟩
  refine AW.mx2 (stQ b at' c sm) wfQ ?_ ?_
  · cases small
    · repeat' first
                    | (refine AW.seq ?_)
                    | (refine AW.block ?_)
                    | (refine AW.regl ZP_ok [0, 1, 2, 3, 4, 5, 6, 7, 14, 15, 16, 17, 19, 20, 21, 22, 23, 24, 25, 26, 41, 54, 61, 62, 63, 64, 91] ?_)
                    | (refine AW.regc (id := 19) ZP_ok follows [0, 1, 0, 4, 12, 31, 63, 127, 255, 511, 1023] (by kernel_rfl) [0, 1, 2, 3, 4, 5, 6, 7, 14, 15, 16, 17, 19, 20, 21, 22, 23, 24, 25, 26, 41, 54, 61, 62, 63, 64, 91] ?_)
                    | (refine then_n ?_)
                    | (refine then_r ?_)
                    | (refine then_x ?_)
                    | (refine block_x ?_)
                    | (refine block_o (by decide) ?_)
                    | (refine block_n ?_)
                    | (refine block_r ?_)
                    | (refine AW.skip ?_)
                    | (refine AW.ret ?_)
                    | (refine AW.exit ?_)
                    | (refine AW.cond rfl ?_ ?_ <;> (intro hc; first | cases hc | ((try rw [hc]); (try simp only [stH] at hc); (try (exfalso; omega)))))
                    | ((first
                          | (refine awl_none rfl fun K hK => ?_)
                          | (refine awl_nil ?_)
                          | (refine awl_some rfl rfl (Nat.le_of_ble_eq_true rfl) rfl rfl ?_ ?_ <;> (intro hc; first | cases hc | ((try rw [hc]); (try simp only [stH] at hc); (try (exfalso; omega)))) <;> (try intro K hK))
                          | (refine awl_skip rfl rfl (Nat.le_of_ble_eq_true rfl) rfl rfl ?_)
                          | (refine awc_none rfl fun K hK => ?_)
                          | (refine awc_some rfl rfl (Nat.le_of_ble_eq_true rfl) rfl rfl ?_ ?_ <;> (intro hc; first | cases hc | ((try rw [hc]); (try simp only [stH] at hc); (try (exfalso; omega)))) <;> (try intro K hK))
                          | exact each_nil
                          | (refine each_some rfl rfl (Nat.le_of_ble_eq_true rfl) (fun bb => by (simp only [Sg3, St.updIf, St.upd, St.put, ifc_nil, gt_ifc, gt, List.nil_append, List.cons_append, Option.some.injEq, reduceCtorEq, Nat.reduceEqDiff, ↓reduceIte, ite_self]; try rfl)) rfl ?_ ?_ <;> first | (show Each _ _ _ _ _ _ _ _; skip) | (rw [if_pos rfl]; intro bb K hK) | (rw [if_neg (by decide)]; exact ⟨rfl, rfl⟩))
                          | (refine each_none rfl ?_ ?_ <;> (try intro bb K hK))
                          | (refine awc_leaf [some 93, some 94, some 95, some 96, some 97, some 98, some 99, some 100, some 101, some 102, some 14] cc_overdublaw14_SuperPacks_19 rfl (by kernel_rfl) (by kernel_rfl) ?_ ?_))
                       all_goals first
                         | (show Awl _ _ _ _ _; simp only [St.upd, St.put, List.nil_append, List.cons_append, List.singleton_append, List.append_nil])
                         | (show Awc _ _ _ _ _ _; simp only [St.upd, St.put, List.nil_append, List.cons_append, List.singleton_append, List.append_nil])
                         | (show Each _ _ _ _ _ _ _ _; skip)
                         | (simp (disch := omega) only [awl, ev1, evk, evc, gv, e_move, e_pick, e_bin, binW, e_un, e_cnv, e_conv, e_str, e_mark, e_copy, e_extract, e_len, e_mm, e_nil, e_index, e_field, e_load, e_fld, e_cut, e_alloc, e_box, e_make, e_build, e_lit, e_store, e_app, e_call, args, pus, pu, pu1, toDL, toD, toD1, toDs, elems, idsW, idsV, lenV, oint, cutOk, ldV, subD, newD, fillV, cellsV, one1, one0, zD, cD0, scs, St.upd, St.put, St.ev, St.keep, gt, go, tmOf, ofD, dOk, cV, cV0, renM, Value.oneCell', keepL, freshL, vaOL, outB, wkTm, subL, ninL, injL, nm, resW, resL, resV, shift, ren, ren2, ren1, renO, va, va2, va1, vaO, inDom, stA, Int.reduceEq, ↓reduceIte, reduceCtorEq, Nat.reduceEqDiff, Nat.reduceLT, Nat.reduceLeDiff, Nat.reduceAdd, Nat.reduceSub, Nat.reduceMul, Int.reduceToNat, Int.reduceLE, Int.reduceLT, ZP, Sp_overdublaw14_Small, Sp_overdubkeep_Within, Sp_super_Pack, Sp_overdubref14_PackSuper, Sp_overdubkeep_Same_byte, Sp_overdubkeep_Copy_byte, Sp_overdublaw14_resum, Sp_overdubkeep_Cut_byte, Sp_super_Unpack, Sp_overdubref14_UnpackSuper, Sp_super_Next, Sp_overdublaw14_wakes, x_ar24, x_ar41, x_bt23, x_bt3, x_bt4, x_bt5, x_el24, x_el41, x_es23, x_fo23_0, x_pt23, x_pt3, x_pt4, x_pt5, x_slt24, x_slt41, x_tk23, x_tk24, x_tk3, x_tk5, x_zc23, x_zc24, Sg3, St.updIf, ifc_nil, gt_ifc, go_ifc, ite_self, Option.none_or, Option.some_or]
                            (try ((repeat' first | (refine And.intro ?_ ?_) | (intro hc; first | cases hc | ((try rw [hc]); (try simp only [stH] at hc); (try (exfalso; omega)))))
                                  all_goals first | (refine hK _ _ ?_; clear hK K; simp only [St.upd, St.put, List.nil_append, List.cons_append, List.singleton_append, List.append_nil]) | exact hK | omega))))
      refine ⟨(⟨g, l, d, r⟩, cs), ⟨g1, l1, d1, r1, cs1⟩, nm [], Wk.of ?_⟩
      simp (disch := omega) only [awl, ev1, evk, evc, gv, e_move, e_pick, e_bin, binW, e_un, e_cnv, e_conv, e_str, e_mark, e_copy, e_extract, e_len, e_mm, e_nil, e_index, e_field, e_load, e_fld, e_cut, e_alloc, e_box, e_make, e_build, e_lit, e_store, e_app, e_call, args, pus, pu, pu1, toDL, toD, toD1, toDs, elems, idsW, idsV, lenV, oint, cutOk, ldV, subD, newD, fillV, cellsV, one1, one0, zD, cD0, scs, St.upd, St.put, St.ev, St.keep, gt, go, tmOf, ofD, dOk, cV, cV0, renM, Value.oneCell', keepL, freshL, vaOL, outB, wkTm, subL, ninL, injL, nm, resW, resL, resV, shift, ren, ren2, ren1, renO, va, va2, va1, vaO, inDom, stA, Int.reduceEq, ↓reduceIte, reduceCtorEq, Nat.reduceEqDiff, Nat.reduceLT, Nat.reduceLeDiff, Nat.reduceAdd, Nat.reduceSub, Nat.reduceMul, Int.reduceToNat, Int.reduceLE, Int.reduceLT, ZP, Sp_overdublaw14_Small, Sp_overdubkeep_Within, Sp_super_Pack, Sp_overdubref14_PackSuper, Sp_overdubkeep_Same_byte, Sp_overdubkeep_Copy_byte, Sp_overdublaw14_resum, Sp_overdubkeep_Cut_byte, Sp_super_Unpack, Sp_overdubref14_UnpackSuper, Sp_super_Next, Sp_overdublaw14_wakes, x_ar24, x_ar41, x_bt23, x_bt3, x_bt4, x_bt5, x_el24, x_el41, x_es23, x_fo23_0, x_pt23, x_pt3, x_pt4, x_pt5, x_slt24, x_slt41, x_tk23, x_tk24, x_tk3, x_tk5, x_zc23, x_zc24, bxS, stQ]
    · have w1 := within_rng (v := g) (n := 9) (by omega)
      have w2 := within_rng (v := l) (n := 9) (by omega)
      have w3 := within_rng (v := d) (n := 9) (by omega)
      have w4 := within_rng (v := r) (n := 90) (by omega)
      have w5 := within_rng (v := cs) (n := 40) (by omega)
      repeat' first
                    | (refine AW.seq ?_)
                    | (refine AW.block ?_)
                    | (refine AW.regl ZP_ok [0, 1, 2, 3, 4, 5, 6, 7, 14, 15, 16, 17, 19, 20, 21, 22, 23, 24, 25, 26, 41, 54, 61, 62, 63, 64, 91] ?_)
                    | (refine AW.regc (id := 19) ZP_ok follows [0, 1, 0, 4, 12, 31, 63, 127, 255, 511, 1023] (by kernel_rfl) [0, 1, 2, 3, 4, 5, 6, 7, 14, 15, 16, 17, 19, 20, 21, 22, 23, 24, 25, 26, 41, 54, 61, 62, 63, 64, 91] ?_)
                    | (refine then_n ?_)
                    | (refine then_r ?_)
                    | (refine then_x ?_)
                    | (refine block_x ?_)
                    | (refine block_o (by decide) ?_)
                    | (refine block_n ?_)
                    | (refine block_r ?_)
                    | (refine AW.skip ?_)
                    | (refine AW.ret ?_)
                    | (refine AW.exit ?_)
                    | (refine AW.cond rfl ?_ ?_ <;> (intro hc; first | cases hc | ((try rw [hc]); (try simp only [stH] at hc); (try (exfalso; omega)))))
                    | ((first
                          | (refine awl_none rfl fun K hK => ?_)
                          | (refine awl_nil ?_)
                          | (refine awl_some rfl rfl (Nat.le_of_ble_eq_true rfl) rfl rfl ?_ ?_ <;> (intro hc; first | cases hc | ((try rw [hc]); (try simp only [stH] at hc); (try (exfalso; omega)))) <;> (try intro K hK))
                          | (refine awl_skip rfl rfl (Nat.le_of_ble_eq_true rfl) rfl rfl ?_)
                          | (refine awc_none rfl fun K hK => ?_)
                          | (refine awc_some rfl rfl (Nat.le_of_ble_eq_true rfl) rfl rfl ?_ ?_ <;> (intro hc; first | cases hc | ((try rw [hc]); (try simp only [stH] at hc); (try (exfalso; omega)))) <;> (try intro K hK))
                          | exact each_nil
                          | (refine each_some rfl rfl (Nat.le_of_ble_eq_true rfl) (fun bb => by (simp only [Sg3, St.updIf, St.upd, St.put, ifc_nil, gt_ifc, gt, List.nil_append, List.cons_append, Option.some.injEq, reduceCtorEq, Nat.reduceEqDiff, ↓reduceIte, ite_self]; try rfl)) rfl ?_ ?_ <;> first | (show Each _ _ _ _ _ _ _ _; skip) | (rw [if_pos rfl]; intro bb K hK) | (rw [if_neg (by decide)]; exact ⟨rfl, rfl⟩))
                          | (refine each_none rfl ?_ ?_ <;> (try intro bb K hK))
                          | (refine awc_leaf [some 93, some 94, some 95, some 96, some 97, some 98, some 99, some 100, some 101, some 102, some 14] cc_overdublaw14_SuperPacks_19 rfl (by kernel_rfl) (by kernel_rfl) ?_ ?_))
                       all_goals first
                         | (show Awl _ _ _ _ _; simp only [St.upd, St.put, List.nil_append, List.cons_append, List.singleton_append, List.append_nil])
                         | (show Awc _ _ _ _ _ _; simp only [St.upd, St.put, List.nil_append, List.cons_append, List.singleton_append, List.append_nil])
                         | (show Each _ _ _ _ _ _ _ _; skip)
                         | (simp (disch := omega) only [awl, ev1, evk, evc, gv, e_move, e_pick, e_bin, binW, e_un, e_cnv, e_conv, e_str, e_mark, e_copy, e_extract, e_len, e_mm, e_nil, e_index, e_field, e_load, e_fld, e_cut, e_alloc, e_box, e_make, e_build, e_lit, e_store, e_app, e_call, args, pus, pu, pu1, toDL, toD, toD1, toDs, elems, idsW, idsV, lenV, oint, cutOk, ldV, subD, newD, fillV, cellsV, one1, one0, zD, cD0, scs, St.upd, St.put, St.ev, St.keep, gt, go, tmOf, ofD, dOk, cV, cV0, renM, Value.oneCell', keepL, freshL, vaOL, outB, wkTm, subL, ninL, injL, nm, resW, resL, resV, shift, ren, ren2, ren1, renO, va, va2, va1, vaO, inDom, stA, Int.reduceEq, ↓reduceIte, reduceCtorEq, Nat.reduceEqDiff, Nat.reduceLT, Nat.reduceLeDiff, Nat.reduceAdd, Nat.reduceSub, Nat.reduceMul, Int.reduceToNat, Int.reduceLE, Int.reduceLT, ZP, Sp_overdublaw14_Small, Sp_overdubkeep_Within, Sp_super_Pack, Sp_overdubref14_PackSuper, Sp_overdubkeep_Same_byte, Sp_overdubkeep_Copy_byte, Sp_overdublaw14_resum, Sp_overdubkeep_Cut_byte, Sp_super_Unpack, Sp_overdubref14_UnpackSuper, Sp_super_Next, Sp_overdublaw14_wakes, x_ar24, x_ar41, x_bt23, x_bt3, x_bt4, x_bt5, x_el24, x_el41, x_es23, x_fo23_0, x_pt23, x_pt3, x_pt4, x_pt5, x_slt24, x_slt41, x_tk23, x_tk24, x_tk3, x_tk5, x_zc23, x_zc24, Sg3, St.updIf, ifc_nil, gt_ifc, go_ifc, ite_self, Option.none_or, Option.some_or]
                            (try ((repeat' first | (refine And.intro ?_ ?_) | (intro hc; first | cases hc | ((try rw [hc]); (try simp only [stH] at hc); (try (exfalso; omega)))))
                                  all_goals first | (refine hK _ _ ?_; clear hK K; simp only [St.upd, St.put, List.nil_append, List.cons_append, List.singleton_append, List.append_nil]) | exact hK | omega))))
      refine ⟨(⟨1 + within g 9, 1 + within l 9, within d 9, within r 90⟩, 1 + within cs 40), ⟨?_, ?_, ?_, ?_, ?_⟩, nm [], Wk.of ?_⟩
      all_goals first | (unfold i64; dsimp only; omega) | skip
      simp (disch := omega) only [awl, ev1, evk, evc, gv, e_move, e_pick, e_bin, binW, e_un, e_cnv, e_conv, e_str, e_mark, e_copy, e_extract, e_len, e_mm, e_nil, e_index, e_field, e_load, e_fld, e_cut, e_alloc, e_box, e_make, e_build, e_lit, e_store, e_app, e_call, args, pus, pu, pu1, toDL, toD, toD1, toDs, elems, idsW, idsV, lenV, oint, cutOk, ldV, subD, newD, fillV, cellsV, one1, one0, zD, cD0, scs, St.upd, St.put, St.ev, St.keep, gt, go, tmOf, ofD, dOk, cV, cV0, renM, Value.oneCell', keepL, freshL, vaOL, outB, wkTm, subL, ninL, injL, nm, resW, resL, resV, shift, ren, ren2, ren1, renO, va, va2, va1, vaO, inDom, stA, Int.reduceEq, ↓reduceIte, reduceCtorEq, Nat.reduceEqDiff, Nat.reduceLT, Nat.reduceLeDiff, Nat.reduceAdd, Nat.reduceSub, Nat.reduceMul, Int.reduceToNat, Int.reduceLE, Int.reduceLT, ZP, Sp_overdublaw14_Small, Sp_overdubkeep_Within, Sp_super_Pack, Sp_overdubref14_PackSuper, Sp_overdubkeep_Same_byte, Sp_overdubkeep_Copy_byte, Sp_overdublaw14_resum, Sp_overdubkeep_Cut_byte, Sp_super_Unpack, Sp_overdubref14_UnpackSuper, Sp_super_Next, Sp_overdublaw14_wakes, x_ar24, x_ar41, x_bt23, x_bt3, x_bt4, x_bt5, x_el24, x_el41, x_es23, x_fo23_0, x_pt23, x_pt3, x_pt4, x_pt5, x_slt24, x_slt41, x_tk23, x_tk24, x_tk3, x_tk5, x_zc23, x_zc24, bxS, stQ]
  clear g1 l1 d1 r1 cs1 g l d r cs
  rintro ⟨⟨g, l, d, r⟩, cs⟩ ⟨⟨g0, g1⟩, ⟨l0, l1⟩, ⟨d0, d1⟩, ⟨r0, r1⟩, ⟨c0, cs1⟩⟩
  clear g0 l0 d0 r0 c0
  dsimp only at g1 l1 d1 r1 cs1
  obtain ⟨P, hP⟩ : ∃ P, supP g l d r cs = P := ⟨_, rfl⟩
  have hPb : Byt P := hP ▸ supP_byt _ _ _ _ _
  have hPl : P.length = 128 := hP ▸ supP_len _ _ _ _ _
  have hPt : (P.map mB).take 128 = P.map mB := List.take_of_length_le (by simp [hPl])
  have wa := within_rng (v := at') (n := 128) (by omega)
  obtain ⟨i, hi⟩ : ∃ i : Nat, within at' 128 = i := ⟨(within at' 128).toNat, by omega⟩
  have hi8 : i < 128 := by omega
  have e2 := getD_byt hPb i
  have e6 : nth (P.map mB) i = .v (.int .u8 (P.getD i 0)) := nth_B P i (by omega)
  have hst : (P.map mB).set i (.v (.int .u8 (Go.bits .xor .u8 (P.getD i 0) c))) = (P.set i (Go.bits .xor .u8 (P.getD i 0) c)).map mB := by rw [List.map_set]; rfl
  refine AW.m5 ⟨[(3, .d (.list (b.map mB))), (6, .d (.v (.bool sm))), (7, .ptr 7 0), (14, .d (.v (.bool false))), (16, .sl 37 1 0 128 true), (17, .sl 43 1 0 128 true)], [(7, .box (bxS ⟨g, l, d, r⟩)), (37, .row 5 1 (P.map mB)), (43, .row 5 1 ((P.set i (Go.bits .xor .u8 (P.getD i 0) c)).map mB))], 103⟩ ?_ ?_
  · clear wa
    repeat' first
                    | (refine AW.seq ?_)
                    | (refine AW.block ?_)
                    | (refine AW.regl ZP_ok [0, 1, 2, 3, 4, 5, 6, 7, 14, 15, 16, 17, 19, 20, 21, 22, 23, 24, 25, 26, 41, 54, 61, 62, 63, 64, 91] ?_)
                    | (refine AW.regc (id := 19) ZP_ok follows [0, 1, 0, 4, 12, 31, 63, 127, 255, 511, 1023] (by kernel_rfl) [0, 1, 2, 3, 4, 5, 6, 7, 14, 15, 16, 17, 19, 20, 21, 22, 23, 24, 25, 26, 41, 54, 61, 62, 63, 64, 91] ?_)
                    | (refine then_n ?_)
                    | (refine then_r ?_)
                    | (refine then_x ?_)
                    | (refine block_x ?_)
                    | (refine block_o (by decide) ?_)
                    | (refine block_n ?_)
                    | (refine block_r ?_)
                    | (refine AW.skip ?_)
                    | (refine AW.ret ?_)
                    | (refine AW.exit ?_)
                    | (refine AW.cond rfl ?_ ?_ <;> (intro hc; first | cases hc | ((try rw [hc]); (try simp only [stH] at hc); (try (exfalso; omega)))))
                    | ((first
                          | (refine awl_none rfl fun K hK => ?_)
                          | (refine awl_nil ?_)
                          | (refine awl_some rfl rfl (Nat.le_of_ble_eq_true rfl) rfl rfl ?_ ?_ <;> (intro hc; first | cases hc | ((try rw [hc]); (try simp only [stH] at hc); (try (exfalso; omega)))) <;> (try intro K hK))
                          | (refine awl_skip rfl rfl (Nat.le_of_ble_eq_true rfl) rfl rfl ?_)
                          | (refine awc_none rfl fun K hK => ?_)
                          | (refine awc_some rfl rfl (Nat.le_of_ble_eq_true rfl) rfl rfl ?_ ?_ <;> (intro hc; first | cases hc | ((try rw [hc]); (try simp only [stH] at hc); (try (exfalso; omega)))) <;> (try intro K hK))
                          | exact each_nil
                          | (refine each_some rfl rfl (Nat.le_of_ble_eq_true rfl) (fun bb => by (simp only [Sg3, St.updIf, St.upd, St.put, ifc_nil, gt_ifc, gt, List.nil_append, List.cons_append, Option.some.injEq, reduceCtorEq, Nat.reduceEqDiff, ↓reduceIte, ite_self]; try rfl)) rfl ?_ ?_ <;> first | (show Each _ _ _ _ _ _ _ _; skip) | (rw [if_pos rfl]; intro bb K hK) | (rw [if_neg (by decide)]; exact ⟨rfl, rfl⟩))
                          | (refine each_none rfl ?_ ?_ <;> (try intro bb K hK))
                          | (refine awc_leaf [some 93, some 94, some 95, some 96, some 97, some 98, some 99, some 100, some 101, some 102, some 14] cc_overdublaw14_SuperPacks_19 rfl (by kernel_rfl) (by kernel_rfl) ?_ ?_))
                       all_goals first
                         | (show Awl _ _ _ _ _; simp only [St.upd, St.put, List.nil_append, List.cons_append, List.singleton_append, List.append_nil])
                         | (show Awc _ _ _ _ _ _; simp only [St.upd, St.put, List.nil_append, List.cons_append, List.singleton_append, List.append_nil])
                         | (show Each _ _ _ _ _ _ _ _; skip)
                         | (simp (disch := omega) only [awl, ev1, evk, evc, gv, e_move, e_pick, e_bin, binW, e_un, e_cnv, e_conv, e_str, e_mark, e_copy, e_extract, e_len, e_mm, e_nil, e_index, e_field, e_load, e_fld, e_cut, e_alloc, e_box, e_make, e_build, e_lit, e_store, e_app, e_call, args, pus, pu, pu1, toDL, toD, toD1, toDs, elems, idsW, idsV, lenV, oint, cutOk, ldV, subD, newD, fillV, cellsV, one1, one0, zD, cD0, scs, St.upd, St.put, St.ev, St.keep, gt, go, tmOf, ofD, dOk, cV, cV0, renM, Value.oneCell', keepL, freshL, vaOL, outB, wkTm, subL, ninL, injL, nm, resW, resL, resV, shift, ren, ren2, ren1, renO, va, va2, va1, vaO, inDom, stA, Int.reduceEq, ↓reduceIte, reduceCtorEq, Nat.reduceEqDiff, Nat.reduceLT, Nat.reduceLeDiff, Nat.reduceAdd, Nat.reduceSub, Nat.reduceMul, Int.reduceToNat, Int.reduceLE, Int.reduceLT, ZP, Sp_overdublaw14_Small, Sp_overdubkeep_Within, Sp_super_Pack, Sp_overdubref14_PackSuper, Sp_overdubkeep_Same_byte, Sp_overdubkeep_Copy_byte, Sp_overdublaw14_resum, Sp_overdubkeep_Cut_byte, Sp_super_Unpack, Sp_overdubref14_UnpackSuper, Sp_super_Next, Sp_overdublaw14_wakes, x_ar24, x_ar41, x_bt23, x_bt3, x_bt4, x_bt5, x_el24, x_el41, x_es23, x_fo23_0, x_pt23, x_pt3, x_pt4, x_pt5, x_slt24, x_slt41, x_tk23, x_tk24, x_tk3, x_tk5, x_zc23, x_zc24, bxS, stQ, hP, hPl, hPt, hi, e6, hst, mB_inj, Sg3, St.updIf, ifc_nil, gt_ifc, go_ifc, ite_self, Option.none_or, Option.some_or]
                            (try ((repeat' first | (refine And.intro ?_ ?_) | (intro hc; first | cases hc | ((try rw [hc]); (try simp only [stH] at hc); (try (exfalso; omega)))))
                                  all_goals first | (refine hK _ _ ?_; clear hK K; simp only [St.upd, St.put, List.nil_append, List.cons_append, List.singleton_append, List.append_nil]) | exact hK | omega))))
    refine ⟨nm [], Wk.of ?_⟩
    simp (disch := omega) only [awl, ev1, evk, evc, gv, e_move, e_pick, e_bin, binW, e_un, e_cnv, e_conv, e_str, e_mark, e_copy, e_extract, e_len, e_mm, e_nil, e_index, e_field, e_load, e_fld, e_cut, e_alloc, e_box, e_make, e_build, e_lit, e_store, e_app, e_call, args, pus, pu, pu1, toDL, toD, toD1, toDs, elems, idsW, idsV, lenV, oint, cutOk, ldV, subD, newD, fillV, cellsV, one1, one0, zD, cD0, scs, St.upd, St.put, St.ev, St.keep, gt, go, tmOf, ofD, dOk, cV, cV0, renM, Value.oneCell', keepL, freshL, vaOL, outB, wkTm, subL, ninL, injL, nm, resW, resL, resV, shift, ren, ren2, ren1, renO, va, va2, va1, vaO, inDom, stA, Int.reduceEq, ↓reduceIte, reduceCtorEq, Nat.reduceEqDiff, Nat.reduceLT, Nat.reduceLeDiff, Nat.reduceAdd, Nat.reduceSub, Nat.reduceMul, Int.reduceToNat, Int.reduceLE, Int.reduceLT, ZP, Sp_overdublaw14_Small, Sp_overdubkeep_Within, Sp_super_Pack, Sp_overdubref14_PackSuper, Sp_overdubkeep_Same_byte, Sp_overdubkeep_Copy_byte, Sp_overdublaw14_resum, Sp_overdubkeep_Cut_byte, Sp_super_Unpack, Sp_overdubref14_UnpackSuper, Sp_super_Next, Sp_overdublaw14_wakes, x_ar24, x_ar41, x_bt23, x_bt3, x_bt4, x_bt5, x_el24, x_el41, x_es23, x_fo23_0, x_pt23, x_pt3, x_pt4, x_pt5, x_slt24, x_slt41, x_tk23, x_tk24, x_tk3, x_tk5, x_zc23, x_zc24, bxS]
  have hXb : Byt (P.set i (Go.bits .xor .u8 (P.getD i 0) c)) := fun x hx => by
    rcases List.mem_or_eq_of_mem_set hx with h | rfl
    · exact hPb x h
    · exact QC.xor8_rng _ _
  have hXl : (P.set i (Go.bits .xor .u8 (P.getD i 0) c)).length = 128 := by rw [List.length_set, hPl]
  generalize P.set i (Go.bits .xor .u8 (P.getD i 0) c) = X at *
  clear e6 hst e2 hi hi8 wa at' hc c
  refine AW.mx1 (stR b ⟨g, l, d, r⟩ P) (fun X => Byt X ∧ X.length = 128) ?_ ?_
  · have hXt : (X.map mB).take 128 = X.map mB := List.take_of_length_le (by simp [hXl])
    have hXy : Byt X = True := eq_true hXb
    cases sm
    · repeat' first
                    | (refine AW.seq ?_)
                    | (refine AW.block ?_)
                    | (refine AW.regl ZP_ok [0, 1, 2, 3, 4, 5, 6, 7, 14, 15, 16, 17, 19, 20, 21, 22, 23, 24, 25, 26, 41, 54, 61, 62, 63, 64, 91] ?_)
                    | (refine AW.regc (id := 19) ZP_ok follows [0, 1, 0, 4, 12, 31, 63, 127, 255, 511, 1023] (by kernel_rfl) [0, 1, 2, 3, 4, 5, 6, 7, 14, 15, 16, 17, 19, 20, 21, 22, 23, 24, 25, 26, 41, 54, 61, 62, 63, 64, 91] ?_)
                    | (refine then_n ?_)
                    | (refine then_r ?_)
                    | (refine then_x ?_)
                    | (refine block_x ?_)
                    | (refine block_o (by decide) ?_)
                    | (refine block_n ?_)
                    | (refine block_r ?_)
                    | (refine AW.skip ?_)
                    | (refine AW.ret ?_)
                    | (refine AW.exit ?_)
                    | (refine AW.cond rfl ?_ ?_ <;> (intro hc; first | cases hc | ((try rw [hc]); (try simp only [stH] at hc); (try (exfalso; omega)))))
                    | ((first
                          | (refine awl_none rfl fun K hK => ?_)
                          | (refine awl_nil ?_)
                          | (refine awl_some rfl rfl (Nat.le_of_ble_eq_true rfl) rfl rfl ?_ ?_ <;> (intro hc; first | cases hc | ((try rw [hc]); (try simp only [stH] at hc); (try (exfalso; omega)))) <;> (try intro K hK))
                          | (refine awl_skip rfl rfl (Nat.le_of_ble_eq_true rfl) rfl rfl ?_)
                          | (refine awc_none rfl fun K hK => ?_)
                          | (refine awc_some rfl rfl (Nat.le_of_ble_eq_true rfl) rfl rfl ?_ ?_ <;> (intro hc; first | cases hc | ((try rw [hc]); (try simp only [stH] at hc); (try (exfalso; omega)))) <;> (try intro K hK))
                          | exact each_nil
                          | (refine each_some rfl rfl (Nat.le_of_ble_eq_true rfl) (fun bb => by (simp only [Sg3, St.updIf, St.upd, St.put, ifc_nil, gt_ifc, gt, List.nil_append, List.cons_append, Option.some.injEq, reduceCtorEq, Nat.reduceEqDiff, ↓reduceIte, ite_self]; try rfl)) rfl ?_ ?_ <;> first | (show Each _ _ _ _ _ _ _ _; skip) | (rw [if_pos rfl]; intro bb K hK) | (rw [if_neg (by decide)]; exact ⟨rfl, rfl⟩))
                          | (refine each_none rfl ?_ ?_ <;> (try intro bb K hK))
                          | (refine awc_leaf [some 93, some 94, some 95, some 96, some 97, some 98, some 99, some 100, some 101, some 102, some 14] cc_overdublaw14_SuperPacks_19 rfl (by kernel_rfl) (by kernel_rfl) ?_ ?_))
                       all_goals first
                         | (show Awl _ _ _ _ _; simp only [St.upd, St.put, List.nil_append, List.cons_append, List.singleton_append, List.append_nil])
                         | (show Awc _ _ _ _ _ _; simp only [St.upd, St.put, List.nil_append, List.cons_append, List.singleton_append, List.append_nil])
                         | (show Each _ _ _ _ _ _ _ _; skip)
                         | (simp (disch := omega) only [awl, ev1, evk, evc, gv, e_move, e_pick, e_bin, binW, e_un, e_cnv, e_conv, e_str, e_mark, e_copy, e_extract, e_len, e_mm, e_nil, e_index, e_field, e_load, e_fld, e_cut, e_alloc, e_box, e_make, e_build, e_lit, e_store, e_app, e_call, args, pus, pu, pu1, toDL, toD, toD1, toDs, elems, idsW, idsV, lenV, oint, cutOk, ldV, subD, newD, fillV, cellsV, one1, one0, zD, cD0, scs, St.upd, St.put, St.ev, St.keep, gt, go, tmOf, ofD, dOk, cV, cV0, renM, Value.oneCell', keepL, freshL, vaOL, outB, wkTm, subL, ninL, injL, nm, resW, resL, resV, shift, ren, ren2, ren1, renO, va, va2, va1, vaO, inDom, stA, Int.reduceEq, ↓reduceIte, reduceCtorEq, Nat.reduceEqDiff, Nat.reduceLT, Nat.reduceLeDiff, Nat.reduceAdd, Nat.reduceSub, Nat.reduceMul, Int.reduceToNat, Int.reduceLE, Int.reduceLT, ZP, Sp_overdublaw14_Small, Sp_overdubkeep_Within, Sp_super_Pack, Sp_overdubref14_PackSuper, Sp_overdubkeep_Same_byte, Sp_overdubkeep_Copy_byte, Sp_overdublaw14_resum, Sp_overdubkeep_Cut_byte, Sp_super_Unpack, Sp_overdubref14_UnpackSuper, Sp_super_Next, Sp_overdublaw14_wakes, x_ar24, x_ar41, x_bt23, x_bt3, x_bt4, x_bt5, x_el24, x_el41, x_es23, x_fo23_0, x_pt23, x_pt3, x_pt4, x_pt5, x_slt24, x_slt41, x_tk23, x_tk24, x_tk3, x_tk5, x_zc23, x_zc24, hXt, bxS, Sg3, St.updIf, ifc_nil, gt_ifc, go_ifc, ite_self, Option.none_or, Option.some_or]
                            (try ((repeat' first | (refine And.intro ?_ ?_) | (intro hc; first | cases hc | ((try rw [hc]); (try simp only [stH] at hc); (try (exfalso; omega)))))
                                  all_goals first | (refine hK _ _ ?_; clear hK K; simp only [St.upd, St.put, List.nil_append, List.cons_append, List.singleton_append, List.append_nil]) | exact hK | omega))))
      refine ⟨X, ⟨hXb, hXl⟩, nm [], Wk.of ?_⟩
      simp (disch := omega) only [awl, ev1, evk, evc, gv, e_move, e_pick, e_bin, binW, e_un, e_cnv, e_conv, e_str, e_mark, e_copy, e_extract, e_len, e_mm, e_nil, e_index, e_field, e_load, e_fld, e_cut, e_alloc, e_box, e_make, e_build, e_lit, e_store, e_app, e_call, args, pus, pu, pu1, toDL, toD, toD1, toDs, elems, idsW, idsV, lenV, oint, cutOk, ldV, subD, newD, fillV, cellsV, one1, one0, zD, cD0, scs, St.upd, St.put, St.ev, St.keep, gt, go, tmOf, ofD, dOk, cV, cV0, renM, Value.oneCell', keepL, freshL, vaOL, outB, wkTm, subL, ninL, injL, nm, resW, resL, resV, shift, ren, ren2, ren1, renO, va, va2, va1, vaO, inDom, stA, Int.reduceEq, ↓reduceIte, reduceCtorEq, Nat.reduceEqDiff, Nat.reduceLT, Nat.reduceLeDiff, Nat.reduceAdd, Nat.reduceSub, Nat.reduceMul, Int.reduceToNat, Int.reduceLE, Int.reduceLT, ZP, Sp_overdublaw14_Small, Sp_overdubkeep_Within, Sp_super_Pack, Sp_overdubref14_PackSuper, Sp_overdubkeep_Same_byte, Sp_overdubkeep_Copy_byte, Sp_overdublaw14_resum, Sp_overdubkeep_Cut_byte, Sp_super_Unpack, Sp_overdubref14_UnpackSuper, Sp_super_Next, Sp_overdublaw14_wakes, x_ar24, x_ar41, x_bt23, x_bt3, x_bt4, x_bt5, x_el24, x_el41, x_es23, x_fo23_0, x_pt23, x_pt3, x_pt4, x_pt5, x_slt24, x_slt41, x_tk23, x_tk24, x_tk3, x_tk5, x_zc23, x_zc24, stR, bxS]
    · repeat' first
                    | (refine AW.seq ?_)
                    | (refine AW.block ?_)
                    | (refine AW.regl ZP_ok [0, 1, 2, 3, 4, 5, 6, 7, 14, 15, 16, 17, 19, 20, 21, 22, 23, 24, 25, 26, 41, 54, 61, 62, 63, 64, 91] ?_)
                    | (refine AW.regc (id := 19) ZP_ok follows [0, 1, 0, 4, 12, 31, 63, 127, 255, 511, 1023] (by kernel_rfl) [0, 1, 2, 3, 4, 5, 6, 7, 14, 15, 16, 17, 19, 20, 21, 22, 23, 24, 25, 26, 41, 54, 61, 62, 63, 64, 91] ?_)
                    | (refine then_n ?_)
                    | (refine then_r ?_)
                    | (refine then_x ?_)
                    | (refine block_x ?_)
                    | (refine block_o (by decide) ?_)
                    | (refine block_n ?_)
                    | (refine block_r ?_)
                    | (refine AW.skip ?_)
                    | (refine AW.ret ?_)
                    | (refine AW.exit ?_)
                    | (refine AW.cond rfl ?_ ?_ <;> (intro hc; first | cases hc | ((try rw [hc]); (try simp only [stH] at hc); (try (exfalso; omega)))))
                    | ((first
                          | (refine awl_none rfl fun K hK => ?_)
                          | (refine awl_nil ?_)
                          | (refine awl_some rfl rfl (Nat.le_of_ble_eq_true rfl) rfl rfl ?_ ?_ <;> (intro hc; first | cases hc | ((try rw [hc]); (try simp only [stH] at hc); (try (exfalso; omega)))) <;> (try intro K hK))
                          | (refine awl_skip rfl rfl (Nat.le_of_ble_eq_true rfl) rfl rfl ?_)
                          | (refine awc_none rfl fun K hK => ?_)
                          | (refine awc_some rfl rfl (Nat.le_of_ble_eq_true rfl) rfl rfl ?_ ?_ <;> (intro hc; first | cases hc | ((try rw [hc]); (try simp only [stH] at hc); (try (exfalso; omega)))) <;> (try intro K hK))
                          | exact each_nil
                          | (refine each_some rfl rfl (Nat.le_of_ble_eq_true rfl) (fun bb => by (simp only [Sg3, St.updIf, St.upd, St.put, ifc_nil, gt_ifc, gt, List.nil_append, List.cons_append, Option.some.injEq, reduceCtorEq, Nat.reduceEqDiff, ↓reduceIte, ite_self]; try rfl)) rfl ?_ ?_ <;> first | (show Each _ _ _ _ _ _ _ _; skip) | (rw [if_pos rfl]; intro bb K hK) | (rw [if_neg (by decide)]; exact ⟨rfl, rfl⟩))
                          | (refine each_none rfl ?_ ?_ <;> (try intro bb K hK))
                          | (refine awc_leaf [some 93, some 94, some 95, some 96, some 97, some 98, some 99, some 100, some 101, some 102, some 14] cc_overdublaw14_SuperPacks_19 rfl (by kernel_rfl) (by kernel_rfl) ?_ ?_))
                       all_goals first
                         | (show Awl _ _ _ _ _; simp only [St.upd, St.put, List.nil_append, List.cons_append, List.singleton_append, List.append_nil])
                         | (show Awc _ _ _ _ _ _; simp only [St.upd, St.put, List.nil_append, List.cons_append, List.singleton_append, List.append_nil])
                         | (show Each _ _ _ _ _ _ _ _; skip)
                         | (simp (disch := omega) only [awl, ev1, evk, evc, gv, e_move, e_pick, e_bin, binW, e_un, e_cnv, e_conv, e_str, e_mark, e_copy, e_extract, e_len, e_mm, e_nil, e_index, e_field, e_load, e_fld, e_cut, e_alloc, e_box, e_make, e_build, e_lit, e_store, e_app, e_call, args, pus, pu, pu1, toDL, toD, toD1, toDs, elems, idsW, idsV, lenV, oint, cutOk, ldV, subD, newD, fillV, cellsV, one1, one0, zD, cD0, scs, St.upd, St.put, St.ev, St.keep, gt, go, tmOf, ofD, dOk, cV, cV0, renM, Value.oneCell', keepL, freshL, vaOL, outB, wkTm, subL, ninL, injL, nm, resW, resL, resV, shift, ren, ren2, ren1, renO, va, va2, va1, vaO, inDom, stA, Int.reduceEq, ↓reduceIte, reduceCtorEq, Nat.reduceEqDiff, Nat.reduceLT, Nat.reduceLeDiff, Nat.reduceAdd, Nat.reduceSub, Nat.reduceMul, Int.reduceToNat, Int.reduceLE, Int.reduceLT, ZP, Sp_overdublaw14_Small, Sp_overdubkeep_Within, Sp_super_Pack, Sp_overdubref14_PackSuper, Sp_overdubkeep_Same_byte, Sp_overdubkeep_Copy_byte, Sp_overdublaw14_resum, Sp_overdubkeep_Cut_byte, Sp_super_Unpack, Sp_overdubref14_UnpackSuper, Sp_super_Next, Sp_overdublaw14_wakes, x_ar24, x_ar41, x_bt23, x_bt3, x_bt4, x_bt5, x_el24, x_el41, x_es23, x_fo23_0, x_pt23, x_pt3, x_pt4, x_pt5, x_slt24, x_slt41, x_tk23, x_tk24, x_tk3, x_tk5, x_zc23, x_zc24, hXt, hXy, hXl, bxS, mB_inj, Sg3, St.updIf, ifc_nil, gt_ifc, go_ifc, ite_self, Option.none_or, Option.some_or]
                            (try ((repeat' first | (refine And.intro ?_ ?_) | (intro hc; first | cases hc | ((try rw [hc]); (try simp only [stH] at hc); (try (exfalso; omega)))))
                                  all_goals first | (refine hK _ _ ?_; clear hK K; simp only [St.upd, St.put, List.nil_append, List.cons_append, List.singleton_append, List.append_nil]) | exact hK | omega))))
      refine ⟨rsmL X, ⟨rsmL_byt hXb, rsmL_len (by omega)⟩, nm [(43, 56)], Wk.of ?_⟩
      simp (disch := omega) only [awl, ev1, evk, evc, gv, e_move, e_pick, e_bin, binW, e_un, e_cnv, e_conv, e_str, e_mark, e_copy, e_extract, e_len, e_mm, e_nil, e_index, e_field, e_load, e_fld, e_cut, e_alloc, e_box, e_make, e_build, e_lit, e_store, e_app, e_call, args, pus, pu, pu1, toDL, toD, toD1, toDs, elems, idsW, idsV, lenV, oint, cutOk, ldV, subD, newD, fillV, cellsV, one1, one0, zD, cD0, scs, St.upd, St.put, St.ev, St.keep, gt, go, tmOf, ofD, dOk, cV, cV0, renM, Value.oneCell', keepL, freshL, vaOL, outB, wkTm, subL, ninL, injL, nm, resW, resL, resV, shift, ren, ren2, ren1, renO, va, va2, va1, vaO, inDom, stA, Int.reduceEq, ↓reduceIte, reduceCtorEq, Nat.reduceEqDiff, Nat.reduceLT, Nat.reduceLeDiff, Nat.reduceAdd, Nat.reduceSub, Nat.reduceMul, Int.reduceToNat, Int.reduceLE, Int.reduceLT, ZP, Sp_overdublaw14_Small, Sp_overdubkeep_Within, Sp_super_Pack, Sp_overdubref14_PackSuper, Sp_overdubkeep_Same_byte, Sp_overdubkeep_Copy_byte, Sp_overdublaw14_resum, Sp_overdubkeep_Cut_byte, Sp_super_Unpack, Sp_overdubref14_UnpackSuper, Sp_super_Next, Sp_overdublaw14_wakes, x_ar24, x_ar41, x_bt23, x_bt3, x_bt4, x_bt5, x_el24, x_el41, x_es23, x_fo23_0, x_pt23, x_pt3, x_pt4, x_pt5, x_slt24, x_slt41, x_tk23, x_tk24, x_tk3, x_tk5, x_zc23, x_zc24, stR, bxS]
  clear hXb hXl X
  rintro X ⟨hXb, hXl⟩
  have hPy : Byt P = True := eq_true hPb
  have hXy : Byt X = True := eq_true hXb
  have hXt : (X.map mB).take 128 = X.map mB := List.take_of_length_le (by simp [hXl])
  have hn : ((140 : Int)).toNat = 140 := rfl
  have hBl : (b.take 140).length ≤ 140 := List.length_take_le ..
  have hBb : Byt (b.take 140) := byt_take hb _
  generalize b.take 140 = B at *
  repeat' first
                    | (refine AW.seq ?_)
                    | (refine AW.block ?_)
                    | (refine AW.regl ZP_ok [0, 1, 2, 3, 4, 5, 6, 7, 14, 15, 16, 17, 19, 20, 21, 22, 23, 24, 25, 26, 41, 54, 61, 62, 63, 64, 91] ?_)
                    | (refine AW.regc (id := 19) ZP_ok follows [0, 1, 0, 4, 12, 31, 63, 127, 255, 511, 1023] (by kernel_rfl) [0, 1, 2, 3, 4, 5, 6, 7, 14, 15, 16, 17, 19, 20, 21, 22, 23, 24, 25, 26, 41, 54, 61, 62, 63, 64, 91] ?_)
                    | (refine then_n ?_)
                    | (refine then_r ?_)
                    | (refine then_x ?_)
                    | (refine block_x ?_)
                    | (refine block_o (by decide) ?_)
                    | (refine block_n ?_)
                    | (refine block_r ?_)
                    | (refine AW.skip ?_)
                    | (refine AW.ret ?_)
                    | (refine AW.exit ?_)
                    | (refine AW.cond rfl ?_ ?_ <;> (intro hc; first | cases hc | ((try rw [hc]); (try simp only [stH] at hc); (try (exfalso; omega)))))
                    | ((first
                          | (refine awl_none rfl fun K hK => ?_)
                          | (refine awl_nil ?_)
                          | (refine awl_some rfl rfl (Nat.le_of_ble_eq_true rfl) rfl rfl ?_ ?_ <;> (intro hc; first | cases hc | ((try rw [hc]); (try simp only [stH] at hc); (try (exfalso; omega)))) <;> (try intro K hK))
                          | (refine awl_skip rfl rfl (Nat.le_of_ble_eq_true rfl) rfl rfl ?_)
                          | (refine awc_none rfl fun K hK => ?_)
                          | (refine awc_some rfl rfl (Nat.le_of_ble_eq_true rfl) rfl rfl ?_ ?_ <;> (intro hc; first | cases hc | ((try rw [hc]); (try simp only [stH] at hc); (try (exfalso; omega)))) <;> (try intro K hK))
                          | exact each_nil
                          | (refine each_some rfl rfl (Nat.le_of_ble_eq_true rfl) (fun bb => by (simp only [Sg3, St.updIf, St.upd, St.put, ifc_nil, gt_ifc, gt, List.nil_append, List.cons_append, Option.some.injEq, reduceCtorEq, Nat.reduceEqDiff, ↓reduceIte, ite_self]; try rfl)) rfl ?_ ?_ <;> first | (show Each _ _ _ _ _ _ _ _; skip) | (rw [if_pos rfl]; intro bb K hK) | (rw [if_neg (by decide)]; exact ⟨rfl, rfl⟩))
                          | (refine each_none rfl ?_ ?_ <;> (try intro bb K hK))
                          | (refine awc_leaf [some 93, some 94, some 95, some 96, some 97, some 98, some 99, some 100, some 101, some 102, some 14] cc_overdublaw14_SuperPacks_19 rfl (by kernel_rfl) (by kernel_rfl) ?_ ?_))
                       all_goals first
                         | (show Awl _ _ _ _ _; simp only [St.upd, St.put, List.nil_append, List.cons_append, List.singleton_append, List.append_nil])
                         | (show Awc _ _ _ _ _ _; simp only [St.upd, St.put, List.nil_append, List.cons_append, List.singleton_append, List.append_nil])
                         | (show Each _ _ _ _ _ _ _ _; skip)
                         | (simp (disch := omega) only [awl, ev1, evk, evc, gv, e_move, e_pick, e_bin, binW, e_un, e_cnv, e_conv, e_str, e_mark, e_copy, e_extract, e_len, e_mm, e_nil, e_index, e_field, e_load, e_fld, e_cut, e_alloc, e_box, e_make, e_build, e_lit, e_store, e_app, e_call, args, pus, pu, pu1, toDL, toD, toD1, toDs, elems, idsW, idsV, lenV, oint, cutOk, ldV, subD, newD, fillV, cellsV, one1, one0, zD, cD0, scs, St.upd, St.put, St.ev, St.keep, gt, go, tmOf, ofD, dOk, cV, cV0, renM, Value.oneCell', keepL, freshL, vaOL, outB, wkTm, subL, ninL, injL, nm, resW, resL, resV, shift, ren, ren2, ren1, renO, va, va2, va1, vaO, inDom, stA, Int.reduceEq, ↓reduceIte, reduceCtorEq, Nat.reduceEqDiff, Nat.reduceLT, Nat.reduceLeDiff, Nat.reduceAdd, Nat.reduceSub, Nat.reduceMul, Int.reduceToNat, Int.reduceLE, Int.reduceLT, ZP, Sp_overdublaw14_Small, Sp_overdubkeep_Within, Sp_super_Pack, Sp_overdubref14_PackSuper, Sp_overdubkeep_Same_byte, Sp_overdubkeep_Copy_byte, Sp_overdublaw14_resum, Sp_overdubkeep_Cut_byte, Sp_super_Unpack, Sp_overdubref14_UnpackSuper, Sp_super_Next, Sp_overdublaw14_wakes, x_ar24, x_ar41, x_bt23, x_bt3, x_bt4, x_bt5, x_el24, x_el41, x_es23, x_fo23_0, x_pt23, x_pt3, x_pt4, x_pt5, x_slt24, x_slt41, x_tk23, x_tk24, x_tk3, x_tk5, x_zc23, x_zc24, stR, bxS, hn, hPt, hXt, Sg3, St.updIf, ifc_nil, gt_ifc, go_ifc, ite_self, Option.none_or, Option.some_or]
                            (try ((repeat' first | (refine And.intro ?_ ?_) | (intro hc; first | cases hc | ((try rw [hc]); (try simp only [stH] at hc); (try (exfalso; omega)))))
                                  all_goals first | (refine hK _ _ ?_; clear hK K; simp only [St.upd, St.put, List.nil_append, List.cons_append, List.singleton_append, List.append_nil]) | exact hK | omega))))
  have hT : ((b.take 140).map mB).take (b.take 140).length = (b.take 140).map mB := List.take_of_length_le (by simp)
  refine AW.loop_wk (fun k : Nat => ⟨[(7, .ptr 7 0), (14, .d (.v (.bool false))), (61, .sl 61 1 0 3 true), (62, .d (.v (.int .i64 3))), (63, .d (.v (.int .i64 k)))], [(61, .row 24 1 [.list (P.map mB), .list (X.map mB), .list ((b.take 140).map mB)]), (7, .box [.d (.v (.int .i64 g)), .d (.v (.int .i64 l)), .d (.v (.int .i64 d)), .d (.v (.int .i64 r))])], 103⟩)
    (fun k => k ≤ 3) (fun k => 3 - k) 0 (by omega) (fun w0 oa a w hs => Wk.sr (ρ := nm []) (Wk.of ?_) hs) ?_
  · simp (disch := omega) only [awl, ev1, evk, evc, gv, e_move, e_pick, e_bin, binW, e_un, e_cnv, e_conv, e_str, e_mark, e_copy, e_extract, e_len, e_mm, e_nil, e_index, e_field, e_load, e_fld, e_cut, e_alloc, e_box, e_make, e_build, e_lit, e_store, e_app, e_call, args, pus, pu, pu1, toDL, toD, toD1, toDs, elems, idsW, idsV, lenV, oint, cutOk, ldV, subD, newD, fillV, cellsV, one1, one0, zD, cD0, scs, St.upd, St.put, St.ev, St.keep, gt, go, tmOf, ofD, dOk, cV, cV0, renM, Value.oneCell', keepL, freshL, vaOL, outB, wkTm, subL, ninL, injL, nm, resW, resL, resV, shift, ren, ren2, ren1, renO, va, va2, va1, vaO, inDom, stA, Int.reduceEq, ↓reduceIte, reduceCtorEq, Nat.reduceEqDiff, Nat.reduceLT, Nat.reduceLeDiff, Nat.reduceAdd, Nat.reduceSub, Nat.reduceMul, Int.reduceToNat, Int.reduceLE, Int.reduceLT, ZP, Sp_overdublaw14_Small, Sp_overdubkeep_Within, Sp_super_Pack, Sp_overdubref14_PackSuper, Sp_overdubkeep_Same_byte, Sp_overdubkeep_Copy_byte, Sp_overdublaw14_resum, Sp_overdubkeep_Cut_byte, Sp_super_Unpack, Sp_overdubref14_UnpackSuper, Sp_super_Next, Sp_overdublaw14_wakes, x_ar24, x_ar41, x_bt23, x_bt3, x_bt4, x_bt5, x_el24, x_el41, x_es23, x_fo23_0, x_pt23, x_pt3, x_pt4, x_pt5, x_slt24, x_slt41, x_tk23, x_tk24, x_tk3, x_tk5, x_zc23, x_zc24]
  · intro k hk
    by_cases hk3 : k < 3
    · obtain ⟨Y, hY, hYb, hYl⟩ : ∃ Y : List Int, nth [.list (P.map mB), .list (X.map mB), .list ((b.take 140).map mB)] k = .list (Y.map mB) ∧ Byt Y ∧ Y.length ≤ 140 := by
        rcases (show k = 0 ∨ k = 1 ∨ k = 2 by omega) with rfl | rfl | rfl
        · exact ⟨P, rfl, hPb, by omega⟩
        · exact ⟨X, rfl, hXb, by omega⟩
        · exact ⟨b.take 140, rfl, byt_take hb _, List.length_take_le ..⟩
      have hYy : Byt Y = True := eq_true hYb
      have hYt : (Y.map mB).take Y.length = Y.map mB := List.take_of_length_le (by simp)
      obtain ⟨p1, p2, p3, p4, p5, p6, hsu⟩ := sup_form Y
      have hpp : (p6 == p6) = true := beq_self_eq_true p6
      clear hXt hPt hT hPl hXl hPb hXb hPy hXy hP
      repeat' first
                    | (refine AW.seq ?_)
                    | (refine AW.block ?_)
                    | (refine AW.regl ZP_ok [0, 1, 2, 3, 4, 5, 6, 7, 14, 15, 16, 17, 19, 20, 21, 22, 23, 24, 25, 26, 41, 54, 61, 62, 63, 64, 91] ?_)
                    | (refine AW.regc (id := 19) ZP_ok follows [0, 1, 0, 4, 12, 31, 63, 127, 255, 511, 1023] (by kernel_rfl) [0, 1, 2, 3, 4, 5, 6, 7, 14, 15, 16, 17, 19, 20, 21, 22, 23, 24, 25, 26, 41, 54, 61, 62, 63, 64, 91] ?_)
                    | (refine then_n ?_)
                    | (refine then_r ?_)
                    | (refine then_x ?_)
                    | (refine block_x ?_)
                    | (refine block_o (by decide) ?_)
                    | (refine block_n ?_)
                    | (refine block_r ?_)
                    | (refine AW.skip ?_)
                    | (refine AW.ret ?_)
                    | (refine AW.exit ?_)
                    | (refine AW.cond rfl ?_ ?_ <;> (intro hc; first | cases hc | ((try rw [hc]); (try simp only [stH] at hc); (try (exfalso; omega)))))
                    | ((first
                          | (refine awl_none rfl fun K hK => ?_)
                          | (refine awl_nil ?_)
                          | (refine awl_some rfl rfl (Nat.le_of_ble_eq_true rfl) rfl rfl ?_ ?_ <;> (intro hc; first | cases hc | ((try rw [hc]); (try simp only [stH] at hc); (try (exfalso; omega)))) <;> (try intro K hK))
                          | (refine awl_skip rfl rfl (Nat.le_of_ble_eq_true rfl) rfl rfl ?_)
                          | (refine awc_none rfl fun K hK => ?_)
                          | (refine awc_some rfl rfl (Nat.le_of_ble_eq_true rfl) rfl rfl ?_ ?_ <;> (intro hc; first | cases hc | ((try rw [hc]); (try simp only [stH] at hc); (try (exfalso; omega)))) <;> (try intro K hK))
                          | exact each_nil
                          | (refine each_some rfl rfl (Nat.le_of_ble_eq_true rfl) (fun bb => by (simp only [Sg3, St.updIf, St.upd, St.put, ifc_nil, gt_ifc, gt, List.nil_append, List.cons_append, Option.some.injEq, reduceCtorEq, Nat.reduceEqDiff, ↓reduceIte, ite_self]; try rfl)) rfl ?_ ?_ <;> first | (show Each _ _ _ _ _ _ _ _; skip) | (rw [if_pos rfl]; intro bb K hK) | (rw [if_neg (by decide)]; exact ⟨rfl, rfl⟩))
                          | (refine each_none rfl ?_ ?_ <;> (try intro bb K hK))
                          | (refine awc_leaf [some 93, some 94, some 95, some 96, some 97, some 98, some 99, some 100, some 101, some 102, some 14] cc_overdublaw14_SuperPacks_19 rfl (by kernel_rfl) (by kernel_rfl) ?_ ?_))
                       all_goals first
                         | (show Awl _ _ _ _ _; simp only [St.upd, St.put, List.nil_append, List.cons_append, List.singleton_append, List.append_nil])
                         | (show Awc _ _ _ _ _ _; simp only [St.upd, St.put, List.nil_append, List.cons_append, List.singleton_append, List.append_nil])
                         | (show Each _ _ _ _ _ _ _ _; skip)
                         | (simp (disch := omega) only [awl, ev1, evk, evc, gv, e_move, e_pick, e_bin, binW, e_un, e_cnv, e_conv, e_str, e_mark, e_copy, e_extract, e_len, e_mm, e_nil, e_index, e_field, e_load, e_fld, e_cut, e_alloc, e_box, e_make, e_build, e_lit, e_store, e_app, e_call, args, pus, pu, pu1, toDL, toD, toD1, toDs, elems, idsW, idsV, lenV, oint, cutOk, ldV, subD, newD, fillV, cellsV, one1, one0, zD, cD0, scs, St.upd, St.put, St.ev, St.keep, gt, go, tmOf, ofD, dOk, cV, cV0, renM, Value.oneCell', keepL, freshL, vaOL, outB, wkTm, subL, ninL, injL, nm, resW, resL, resV, shift, ren, ren2, ren1, renO, va, va2, va1, vaO, inDom, stA, Int.reduceEq, ↓reduceIte, reduceCtorEq, Nat.reduceEqDiff, Nat.reduceLT, Nat.reduceLeDiff, Nat.reduceAdd, Nat.reduceSub, Nat.reduceMul, Int.reduceToNat, Int.reduceLE, Int.reduceLT, ZP, Sp_overdublaw14_Small, Sp_overdubkeep_Within, Sp_super_Pack, Sp_overdubref14_PackSuper, Sp_overdubkeep_Same_byte, Sp_overdubkeep_Copy_byte, Sp_overdublaw14_resum, Sp_overdubkeep_Cut_byte, Sp_super_Unpack, Sp_overdubref14_UnpackSuper, Sp_super_Next, Sp_overdublaw14_wakes, x_ar24, x_ar41, x_bt23, x_bt3, x_bt4, x_bt5, x_el24, x_el41, x_es23, x_fo23_0, x_pt23, x_pt3, x_pt4, x_pt5, x_slt24, x_slt41, x_tk23, x_tk24, x_tk3, x_tk5, x_zc23, x_zc24, hY, hYy, hYt, hsu, hpp, mB_inj, Sg3, St.updIf, ifc_nil, gt_ifc, go_ifc, ite_self, Option.none_or, Option.some_or]
                            (try ((repeat' first | (refine And.intro ?_ ?_) | (intro hc; first | cases hc | ((try rw [hc]); (try simp only [stH] at hc); (try (exfalso; omega)))))
                                  all_goals first | (refine hK _ _ ?_; clear hK K; simp only [St.upd, St.put, List.nil_append, List.cons_append, List.singleton_append, List.append_nil]) | exact hK | omega))))
      refine ⟨k + 1, by omega, by omega, nm [], Wk.of ?_⟩
      simp (disch := omega) only [awl, ev1, evk, evc, gv, e_move, e_pick, e_bin, binW, e_un, e_cnv, e_conv, e_str, e_mark, e_copy, e_extract, e_len, e_mm, e_nil, e_index, e_field, e_load, e_fld, e_cut, e_alloc, e_box, e_make, e_build, e_lit, e_store, e_app, e_call, args, pus, pu, pu1, toDL, toD, toD1, toDs, elems, idsW, idsV, lenV, oint, cutOk, ldV, subD, newD, fillV, cellsV, one1, one0, zD, cD0, scs, St.upd, St.put, St.ev, St.keep, gt, go, tmOf, ofD, dOk, cV, cV0, renM, Value.oneCell', keepL, freshL, vaOL, outB, wkTm, subL, ninL, injL, nm, resW, resL, resV, shift, ren, ren2, ren1, renO, va, va2, va1, vaO, inDom, stA, Int.reduceEq, ↓reduceIte, reduceCtorEq, Nat.reduceEqDiff, Nat.reduceLT, Nat.reduceLeDiff, Nat.reduceAdd, Nat.reduceSub, Nat.reduceMul, Int.reduceToNat, Int.reduceLE, Int.reduceLT, ZP, Sp_overdublaw14_Small, Sp_overdubkeep_Within, Sp_super_Pack, Sp_overdubref14_PackSuper, Sp_overdubkeep_Same_byte, Sp_overdubkeep_Copy_byte, Sp_overdublaw14_resum, Sp_overdubkeep_Cut_byte, Sp_super_Unpack, Sp_overdubref14_UnpackSuper, Sp_super_Next, Sp_overdublaw14_wakes, x_ar24, x_ar41, x_bt23, x_bt3, x_bt4, x_bt5, x_el24, x_el41, x_es23, x_fo23_0, x_pt23, x_pt3, x_pt4, x_pt5, x_slt24, x_slt41, x_tk23, x_tk24, x_tk3, x_tk5, x_zc23, x_zc24]
      rfl
    · obtain rfl : k = 3 := by omega
      have hw := within2 g
      repeat' first
                    | (refine AW.seq ?_)
                    | (refine AW.block ?_)
                    | (refine AW.regl ZP_ok [0, 1, 2, 3, 4, 5, 6, 7, 14, 15, 16, 17, 19, 20, 21, 22, 23, 24, 25, 26, 41, 54, 61, 62, 63, 64, 91] ?_)
                    | (refine AW.regc (id := 19) ZP_ok follows [0, 1, 0, 4, 12, 31, 63, 127, 255, 511, 1023] (by kernel_rfl) [0, 1, 2, 3, 4, 5, 6, 7, 14, 15, 16, 17, 19, 20, 21, 22, 23, 24, 25, 26, 41, 54, 61, 62, 63, 64, 91] ?_)
                    | (refine then_n ?_)
                    | (refine then_r ?_)
                    | (refine then_x ?_)
                    | (refine block_x ?_)
                    | (refine block_o (by decide) ?_)
                    | (refine block_n ?_)
                    | (refine block_r ?_)
                    | (refine AW.skip ?_)
                    | (refine AW.ret ?_)
                    | (refine AW.exit ?_)
                    | (refine AW.cond rfl ?_ ?_ <;> (intro hc; first | cases hc | ((try rw [hc]); (try simp only [stH] at hc); (try (exfalso; omega)))))
                    | ((first
                          | (refine awl_none rfl fun K hK => ?_)
                          | (refine awl_nil ?_)
                          | (refine awl_some rfl rfl (Nat.le_of_ble_eq_true rfl) rfl rfl ?_ ?_ <;> (intro hc; first | cases hc | ((try rw [hc]); (try simp only [stH] at hc); (try (exfalso; omega)))) <;> (try intro K hK))
                          | (refine awl_skip rfl rfl (Nat.le_of_ble_eq_true rfl) rfl rfl ?_)
                          | (refine awc_none rfl fun K hK => ?_)
                          | (refine awc_some rfl rfl (Nat.le_of_ble_eq_true rfl) rfl rfl ?_ ?_ <;> (intro hc; first | cases hc | ((try rw [hc]); (try simp only [stH] at hc); (try (exfalso; omega)))) <;> (try intro K hK))
                          | exact each_nil
                          | (refine each_some rfl rfl (Nat.le_of_ble_eq_true rfl) (fun bb => by (simp only [Sg3, St.updIf, St.upd, St.put, ifc_nil, gt_ifc, gt, List.nil_append, List.cons_append, Option.some.injEq, reduceCtorEq, Nat.reduceEqDiff, ↓reduceIte, ite_self]; try rfl)) rfl ?_ ?_ <;> first | (show Each _ _ _ _ _ _ _ _; skip) | (rw [if_pos rfl]; intro bb K hK) | (rw [if_neg (by decide)]; exact ⟨rfl, rfl⟩))
                          | (refine each_none rfl ?_ ?_ <;> (try intro bb K hK))
                          | (refine awc_leaf [some 93, some 94, some 95, some 96, some 97, some 98, some 99, some 100, some 101, some 102, some 14] cc_overdublaw14_SuperPacks_19 rfl (by kernel_rfl) (by kernel_rfl) ?_ ?_))
                       all_goals first
                         | (show Awl _ _ _ _ _; simp only [St.upd, St.put, List.nil_append, List.cons_append, List.singleton_append, List.append_nil])
                         | (show Awc _ _ _ _ _ _; simp only [St.upd, St.put, List.nil_append, List.cons_append, List.singleton_append, List.append_nil])
                         | (show Each _ _ _ _ _ _ _ _; skip)
                         | (simp (disch := omega) only [awl, ev1, evk, evc, gv, e_move, e_pick, e_bin, binW, e_un, e_cnv, e_conv, e_str, e_mark, e_copy, e_extract, e_len, e_mm, e_nil, e_index, e_field, e_load, e_fld, e_cut, e_alloc, e_box, e_make, e_build, e_lit, e_store, e_app, e_call, args, pus, pu, pu1, toDL, toD, toD1, toDs, elems, idsW, idsV, lenV, oint, cutOk, ldV, subD, newD, fillV, cellsV, one1, one0, zD, cD0, scs, St.upd, St.put, St.ev, St.keep, gt, go, tmOf, ofD, dOk, cV, cV0, renM, Value.oneCell', keepL, freshL, vaOL, outB, wkTm, subL, ninL, injL, nm, resW, resL, resV, shift, ren, ren2, ren1, renO, va, va2, va1, vaO, inDom, stA, Int.reduceEq, ↓reduceIte, reduceCtorEq, Nat.reduceEqDiff, Nat.reduceLT, Nat.reduceLeDiff, Nat.reduceAdd, Nat.reduceSub, Nat.reduceMul, Int.reduceToNat, Int.reduceLE, Int.reduceLT, ZP, Sp_overdublaw14_Small, Sp_overdubkeep_Within, Sp_super_Pack, Sp_overdubref14_PackSuper, Sp_overdubkeep_Same_byte, Sp_overdubkeep_Copy_byte, Sp_overdublaw14_resum, Sp_overdubkeep_Cut_byte, Sp_super_Unpack, Sp_overdubref14_UnpackSuper, Sp_super_Next, Sp_overdublaw14_wakes, x_ar24, x_ar41, x_bt23, x_bt3, x_bt4, x_bt5, x_el24, x_el41, x_es23, x_fo23_0, x_pt23, x_pt3, x_pt4, x_pt5, x_slt24, x_slt41, x_tk23, x_tk24, x_tk3, x_tk5, x_zc23, x_zc24, hw, exists_eq', Sg3, St.updIf, ifc_nil, gt_ifc, go_ifc, ite_self, Option.none_or, Option.some_or]
                            (try ((repeat' first | (refine And.intro ?_ ?_) | (intro hc; first | cases hc | ((try rw [hc]); (try simp only [stH] at hc); (try (exfalso; omega)))))
                                  all_goals first | (refine hK _ _ ?_; clear hK K; simp only [St.upd, St.put, List.nil_append, List.cons_append, List.singleton_append, List.append_nil]) | exact hK | omega))))
      (refine Ends.of (nm []) (by first | exact .inl rfl | exact .inr rfl) ?_; simp (disch := omega) only [awl, ev1, evk, evc, gv, e_move, e_pick, e_bin, binW, e_un, e_cnv, e_conv, e_str, e_mark, e_copy, e_extract, e_len, e_mm, e_nil, e_index, e_field, e_load, e_fld, e_cut, e_alloc, e_box, e_make, e_build, e_lit, e_store, e_app, e_call, args, pus, pu, pu1, toDL, toD, toD1, toDs, elems, idsW, idsV, lenV, oint, cutOk, ldV, subD, newD, fillV, cellsV, one1, one0, zD, cD0, scs, St.upd, St.put, St.ev, St.keep, gt, go, tmOf, ofD, dOk, cV, cV0, renM, Value.oneCell', keepL, freshL, vaOL, outB, wkTm, subL, ninL, injL, nm, resW, resL, resV, shift, ren, ren2, ren1, renO, va, va2, va1, vaO, inDom, stA, Int.reduceEq, ↓reduceIte, reduceCtorEq, Nat.reduceEqDiff, Nat.reduceLT, Nat.reduceLeDiff, Nat.reduceAdd, Nat.reduceSub, Nat.reduceMul, Int.reduceToNat, Int.reduceLE, Int.reduceLT, ZP, Sp_overdublaw14_Small, Sp_overdubkeep_Within, Sp_super_Pack, Sp_overdubref14_PackSuper, Sp_overdubkeep_Same_byte, Sp_overdubkeep_Copy_byte, Sp_overdublaw14_resum, Sp_overdubkeep_Cut_byte, Sp_super_Unpack, Sp_overdubref14_UnpackSuper, Sp_super_Next, Sp_overdublaw14_wakes, x_ar24, x_ar41, x_bt23, x_bt3, x_bt4, x_bt5, x_el24, x_el41, x_es23, x_fo23_0, x_pt23, x_pt3, x_pt4, x_pt5, x_slt24, x_slt41, x_tk23, x_tk24, x_tk3, x_tk5, x_zc23, x_zc24])
theorem ent_overdublaw14_SuperPacks : Ent Try.prog 6 := ⟨_, Try.func6, rfl, by decide⟩
end Go.Proofs.Ytceoegbljkbgeaa.Am
