import Derived.Test.YtceoegbljkbgeaaZSB
import Derived.Test.YtceoegbljkbgeaaZFlS
set_option linter.unusedVariables false
set_option linter.unusedSimpArgs false
set_option maxRecDepth 10000
set_option maxHeartbeats 0
namespace Go.Proofs.Ytceoegbljkbgeaa.Am
open Go Go.RowKit Go.Proofs
noncomputable def ZT : Env := ⟨Try.prog, fun f ds out => (f = 9 ∧ Sp_overdublaw14_Small ds out) ∨ (f = 10 ∧ Sp_overdubkeep_Within ds out) ∨ (f = 15 ∧ Sp_super_Pack ds out) ∨ (f = 12 ∧ Sp_super_Choose ds out) ∨ (f = 18 ∧ Sp_super_Next ds out) ∨ (f = 14 ∧ Sp_overdublaw14_wakes ds out), Es⟩
theorem ZT_sp : ∀ f ds out, ZT.Sp f ds out → Ent ZT.P f ∧ Good ZT.P f (fun a b => a = ds ∧ b = out) := by
  rintro f ds out (⟨rfl, h⟩ | ⟨rfl, h⟩ | ⟨rfl, h⟩ | ⟨rfl, h⟩ | ⟨rfl, h⟩ | ⟨rfl, h⟩)
  · exact ⟨ent_overdublaw14_Small, good_overdublaw14_Small.one h⟩
  · exact ⟨ent_overdubkeep_Within, good_overdubkeep_Within.one h⟩
  · exact ⟨ent_super_Pack, good_super_Pack.one h⟩
  · exact ⟨ent_super_Choose, good_super_Choose.one h⟩
  · exact ⟨ent_super_Next, good_super_Next.one h⟩
  · exact ⟨ent_overdublaw14_wakes, good_overdublaw14_wakes.one h⟩
theorem ZT_ok : ZT.Ok := ⟨ZT_sp, Es_ok⟩
def rtT (r : Int) (i : Nat) : Int := if i = 0 then r else i - 1
def curT (l d r : Int) (i : Nat) : List Int := supP (i + 1) l d (rtT r i) 4
def prvT (l d r : Int) (i : Nat) : List Int := if i = 0 then List.replicate 128 0 else curT l d r (i - 1)
def sloT (l d r : Int) (i : Nat) (k : Nat) : List Int := if i % 2 = k then curT l d r i else prvT l d r i
theorem curT_byt (l d r : Int) (i : Nat) : Byt (curT l d r i) := supP_byt _ _ _ _ _
theorem zeros_byt : Byt (List.replicate 128 0) := byt_replicate _
theorem curT_len (l d r : Int) (i : Nat) : (curT l d r i).length = 128 := supP_len _ _ _ _ _
theorem sloT_byt (l d r : Int) (i k : Nat) : Byt (sloT l d r i k) := by
  unfold sloT prvT
  split
  · exact fun x hx => curT_byt l d r i x hx
  · split
    · exact fun x hx => zeros_byt x hx
    · exact fun x hx => curT_byt l d r (i - 1) x hx
theorem sloT_len (l d r : Int) (i k : Nat) : (sloT l d r i k).length = 128 := by
  unfold sloT prvT
  split
  · exact curT_len ..
  · split
    · simp
    · exact curT_len ..
def bxT (l d r : Int) (i : Nat) : List V := [.d (.v (.int .i64 (i + 1))), .d (.v (.int .i64 l)), .d (.v (.int .i64 d)), .d (.v (.int .i64 (rtT r i)))]
def stT (n : Int) (lost : Bool) (l d r : Int) (i : Nat) : St := ⟨[(1, .d (.v (.int .i64 n))), (2, .d (.v (.bool lost))), (6, .d (.v (.bool false))), (7, .ptr 7 0), (8, .ptr 8 0), (9, .d (.v (.int .i64 i)))], [(7, .box [.sl 100 1 0 128 true, .sl 101 1 0 128 true]), (8, .box (bxT l d r i)), (100, .row 5 1 ((sloT l d r i 0).map mB)), (101, .row 5 1 ((sloT l d r i 1).map mB))], 90⟩
def stT' (n : Int) (lost : Bool) (l d r : Int) : St := ⟨[(1, .d (.v (.int .i64 n))), (2, .d (.v (.bool lost))), (6, .d (.v (.bool false))), (7, .ptr 7 0), (8, .ptr 8 0)], [(7, .box [.sl 100 1 0 128 true, .sl 101 1 0 128 true]), (8, .box [.d (.v (.int .i64 1)), .d (.v (.int .i64 l)), .d (.v (.int .i64 d)), .d (.v (.int .i64 r))]), (100, .row 5 1 ((sloT l d r 0 0).map mB)), (101, .row 5 1 ((List.replicate 128 (0 : Int)).map mB))], 90⟩
theorem cur_succ (l d r : Int) (i : Nat) : supP ((i : Int) + 1 + 1) l d i 4 = curT l d r (i + 1) := by
  unfold curT rtT
  rw [if_neg (by omega), show (((i + 1 : Nat) : Int)) + 1 = (i : Int) + 1 + 1 by omega, show ((i + 1 : Nat) : Int) - 1 = (i : Int) by omega]
theorem chT {l d r : Int} {i : Nat} (h : ∀ j : Nat, j ≤ 8 → sRng ((j : Int) + 1) l d (rtT r j) 4 ∧ 0 ≤ rtT r j) (hd : 0 ≤ d) (hi : i ≤ 8) :
    chOut (sloT l d r i 0) (sloT l d r i 1) = ⟨.tup [.agg [.d (.v (.int .i64 ((i : Int) + 1))), .d (.v (.int .i64 l)), .d (.v (.int .i64 d)), .d (.v (.int .i64 (rtT r i)))], .d (.v (.int .i64 4)), .d (.v (.int .i64 ((i % 2 : Nat) : Int))), .d (.v (.bool true))], []⟩ := by
  obtain ⟨r1, p1⟩ := h i hi
  by_cases hp : i % 2 = 0
  · have e0 : sloT l d r i 0 = curT l d r i := if_pos hp
    have e1 : sloT l d r i 1 = prvT l d r i := if_neg (by omega)
    rw [e0, e1, hp]
    by_cases h0 : i = 0
    · subst h0
      have e2 : prvT l d r 0 = List.replicate 128 0 := rfl
      obtain ⟨a1, a2, _, a4, a5⟩ := sup_back r1 hd p1
      have c1 : sOk (curT l d r 0) := a1
      have c4 : sAgg (curT l d r 0) = _ := a4
      have c5 : sC (curT l d r 0) = 4 := a5
      rw [e2, chOut, if_neg (fun k => sOk_zeros _ k.1), if_pos c1, c4, c5]
      rfl
    · obtain ⟨r2, p2⟩ := h (i - 1) (by omega)
      have e2 : prvT l d r i = curT l d r (i - 1) := if_neg h0
      rw [e2]
      exact (ch_back r1 hd p1 r2 hd p2).trans (if_neg (by omega))
  · have e0 : sloT l d r i 0 = prvT l d r i := if_neg hp
    have e1 : sloT l d r i 1 = curT l d r i := if_pos (by omega)
    obtain ⟨r2, p2⟩ := h (i - 1) (by omega)
    have e2 : prvT l d r i = curT l d r (i - 1) := if_neg (by omega)
    rw [e0, e1, e2, show i % 2 = 1 by omega]
    exact (ch_back r2 hd p2 r1 hd p1).trans (if_pos (by omega))
def Sp_overdublaw14_SuperTurns (ds : List D) (out : Out) : Prop := ∃ (g l d r n : Int) (lost : Bool), ds = [.agg [.v (.int .i64 g), .v (.int .i64 l), .v (.int .i64 d), .v (.int .i64 r)], .v (.int .i64 n), .v (.bool lost)] ∧ out = ⟨.d (.v (.bool true)), []⟩
def cc_overdublaw14_SuperTurns_4 : List (List (Option Bool)) := [[some false, some false, none, some false, none, some false], [some true, some false, none, some false, none, some false], [none, none, some false, some false, none, some false], [some true, some true, some true, some false, none, some false], [none, none, none, none, some false, some false], [some true, some true, some true, some true, some true, some false]]
theorem good_overdublaw14_SuperTurns : Good Try.prog 5 Sp_overdublaw14_SuperTurns := by
  refine good_body (E := ZT) (nt := 90) (rs := #[.tmp 6]) Try.func5 rfl rfl rfl ?_
  rintro ds out ⟨g, l, d, r, n, lost, rfl, rfl⟩
  refine ⟨by simp, ?_⟩
  have s1 := small_ok g l d r
  have w5 := within_rng (v := n) (n := 8) (by omega)
  have n1 : 1 ≤ 1 + within n 8 ∧ 1 + within n 8 ≤ 8 := by omega
  clear w5
  refine AW.m4 ⟨[(1, .d (.v (.int .i64 (1 + within n 8)))), (2, .d (.v (.bool lost))), (3, .ptr 3 0), (6, .d (.v (.bool false)))], [(3, .box [.d (.v (.int .i64 1)), .d (.v (.int .i64 (small g l d r).l)), .d (.v (.int .i64 (small g l d r).d)), .d (.v (.int .i64 (small g l d r).r))])], 90⟩ ?_ ?_
  · repeat' first
                    | (refine AW.seq ?_)
                    | (refine AW.block ?_)
                    | (refine AW.regl ZT_ok [0, 1, 2, 3, 6, 7, 8, 9, 10, 11, 12, 13, 14, 15, 29, 46, 53] ?_)
                    | (refine AW.regc (id := 4) ZT_ok follows [0, 1, 0, 7, 0, 31] (by kernel_rfl) [0, 1, 2, 3, 6, 7, 8, 9, 10, 11, 12, 13, 14, 15, 29, 46, 53] ?_)
                    | (refine then_n ?_)
                    | (refine then_r ?_)
                    | (refine then_x ?_)
                    | (refine block_x ?_)
                    | (refine block_o (by decide) ?_)
                    | (refine block_n ?_)
                    | (refine block_r ?_)
                    | (refine AW.skip ?_)
                    | (refine AW.ret ?_)
                    | (refine AW.exit ?_)
                    | (refine AW.cond rfl ?_ ?_ <;> (intro hc; first | cases hc | ((try rw [hc]); (try simp only [stH] at hc); (try (exfalso; omega)))))
                    | ((first
                          | (refine awl_none rfl fun K hK => ?_)
                          | (refine awl_nil ?_)
                          | (refine awl_some rfl rfl (Nat.le_of_ble_eq_true rfl) rfl rfl ?_ ?_ <;> (intro hc; first | cases hc | ((try rw [hc]); (try simp only [stH] at hc); (try (exfalso; omega)))) <;> (try intro K hK))
                          | (refine awl_skip rfl rfl (Nat.le_of_ble_eq_true rfl) rfl rfl ?_)
                          | (refine awc_none rfl fun K hK => ?_)
                          | (refine awc_some rfl rfl (Nat.le_of_ble_eq_true rfl) rfl rfl ?_ ?_ <;> (intro hc; first | cases hc | ((try rw [hc]); (try simp only [stH] at hc); (try (exfalso; omega)))) <;> (try intro K hK))
                          | exact each_nil
                          | (refine each_none rfl ?_ ?_ <;> (try intro bb K hK))
                          | (refine awc_leaf [some 22, some 23, some 24, some 25, some 7, none] cc_overdublaw14_SuperTurns_4 rfl (by kernel_rfl) (by kernel_rfl) ?_ ?_))
                       all_goals first
                         | (show Awl _ _ _ _ _; simp only [St.upd, St.put, List.nil_append, List.cons_append, List.singleton_append, List.append_nil])
                         | (show Awc _ _ _ _ _ _; simp only [St.upd, St.put, List.nil_append, List.cons_append, List.singleton_append, List.append_nil])
                         | (show Each _ _ _ _ _ _ _ _; skip)
                         | (simp (disch := omega) only [awl, ev1, evk, evc, gv, e_move, e_pick, e_bin, binW, e_un, e_cnv, e_conv, e_str, e_mark, e_copy, e_extract, e_len, e_mm, e_nil, e_index, e_field, e_load, e_fld, e_cut, e_alloc, e_box, e_make, e_build, e_lit, e_store, e_app, e_call, args, pus, pu, pu1, toDL, toD, toD1, toDs, elems, idsW, idsV, lenV, oint, cutOk, ldV, subD, newD, fillV, cellsV, one1, one0, zD, cD0, scs, St.upd, St.put, St.ev, St.keep, gt, go, tmOf, ofD, dOk, cV, cV0, renM, Value.oneCell', keepL, freshL, vaOL, outB, wkTm, subL, ninL, injL, nm, resW, resL, resV, shift, ren, ren2, ren1, renO, va, va2, va1, vaO, inDom, stA, Int.reduceEq, ↓reduceIte, reduceCtorEq, Nat.reduceEqDiff, Nat.reduceLT, Nat.reduceLeDiff, Nat.reduceAdd, Nat.reduceSub, Nat.reduceMul, Int.reduceToNat, Int.reduceLE, Int.reduceLT, ZT, Sp_overdublaw14_Small, Sp_overdubkeep_Within, Sp_super_Pack, Sp_super_Next, Sp_super_Choose, Sp_overdublaw14_wakes, x_ar37, x_bt23, x_bt3, x_el24, x_el37, x_es23, x_fo23_0, x_fo23_3, x_pl37, x_pt23, x_pt3, x_tk23, x_tk24, x_tk3, x_tk37, x_tk5, x_zc23, x_zc37, x_zc5, Sg3, St.updIf, ifc_nil, gt_ifc, go_ifc, ite_self, Option.none_or, Option.some_or]
                            (try ((repeat' first | (refine And.intro ?_ ?_) | (intro hc; first | cases hc | ((try rw [hc]); (try simp only [stH] at hc); (try (exfalso; omega)))))
                                  all_goals first | (refine hK _ _ ?_; clear hK K; simp only [St.upd, St.put, List.nil_append, List.cons_append, List.singleton_append, List.append_nil]) | exact hK | omega))))
    refine ⟨nm [], Wk.of ?_⟩
    simp (disch := omega) only [awl, ev1, evk, evc, gv, e_move, e_pick, e_bin, binW, e_un, e_cnv, e_conv, e_str, e_mark, e_copy, e_extract, e_len, e_mm, e_nil, e_index, e_field, e_load, e_fld, e_cut, e_alloc, e_box, e_make, e_build, e_lit, e_store, e_app, e_call, args, pus, pu, pu1, toDL, toD, toD1, toDs, elems, idsW, idsV, lenV, oint, cutOk, ldV, subD, newD, fillV, cellsV, one1, one0, zD, cD0, scs, St.upd, St.put, St.ev, St.keep, gt, go, tmOf, ofD, dOk, cV, cV0, renM, Value.oneCell', keepL, freshL, vaOL, outB, wkTm, subL, ninL, injL, nm, resW, resL, resV, shift, ren, ren2, ren1, renO, va, va2, va1, vaO, inDom, stA, Int.reduceEq, ↓reduceIte, reduceCtorEq, Nat.reduceEqDiff, Nat.reduceLT, Nat.reduceLeDiff, Nat.reduceAdd, Nat.reduceSub, Nat.reduceMul, Int.reduceToNat, Int.reduceLE, Int.reduceLT, ZT, Sp_overdublaw14_Small, Sp_overdubkeep_Within, Sp_super_Pack, Sp_super_Next, Sp_super_Choose, Sp_overdublaw14_wakes, x_ar37, x_bt23, x_bt3, x_el24, x_el37, x_es23, x_fo23_0, x_fo23_3, x_pl37, x_pt23, x_pt3, x_tk23, x_tk24, x_tk3, x_tk37, x_tk5, x_zc23, x_zc37, x_zc5, small]
  generalize 1 + within n 8 = n at *
  generalize small g l d r = s at *
  obtain ⟨g, l, d, r⟩ := s
  unfold smS at s1
  dsimp only at s1 ⊢
  obtain ⟨a1, a2, a3, a4, a5, a6, a7, a8⟩ := s1
  obtain ⟨n1, n2⟩ := n1
  have hg4 : ∀ i : Nat, i ≤ 8 → sRng ((i : Int) + 1) l d (rtT r i) 4 ∧ 0 ≤ rtT r i := fun i hi => by
    unfold sRng rtT
    split <;> omega
  have z128 : List.replicate 128 (D.v (.int .u8 0)) = (List.replicate 128 (0 : Int)).map mB := by rw [List.map_replicate]; rfl
  refine AW.m2 (stT' n lost l d r) ?_ ?_
  · have e0 : supP 1 l d r 4 = sloT l d r 0 0 := rfl
    repeat' first
                    | (refine AW.seq ?_)
                    | (refine AW.block ?_)
                    | (refine AW.regl ZT_ok [0, 1, 2, 3, 6, 7, 8, 9, 10, 11, 12, 13, 14, 15, 29, 46, 53] ?_)
                    | (refine AW.regc (id := 4) ZT_ok follows [0, 1, 0, 7, 0, 31] (by kernel_rfl) [0, 1, 2, 3, 6, 7, 8, 9, 10, 11, 12, 13, 14, 15, 29, 46, 53] ?_)
                    | (refine then_n ?_)
                    | (refine then_r ?_)
                    | (refine then_x ?_)
                    | (refine block_x ?_)
                    | (refine block_o (by decide) ?_)
                    | (refine block_n ?_)
                    | (refine block_r ?_)
                    | (refine AW.skip ?_)
                    | (refine AW.ret ?_)
                    | (refine AW.exit ?_)
                    | (refine AW.cond rfl ?_ ?_ <;> (intro hc; first | cases hc | ((try rw [hc]); (try simp only [stH] at hc); (try (exfalso; omega)))))
                    | ((first
                          | (refine awl_none rfl fun K hK => ?_)
                          | (refine awl_nil ?_)
                          | (refine awl_some rfl rfl (Nat.le_of_ble_eq_true rfl) rfl rfl ?_ ?_ <;> (intro hc; first | cases hc | ((try rw [hc]); (try simp only [stH] at hc); (try (exfalso; omega)))) <;> (try intro K hK))
                          | (refine awl_skip rfl rfl (Nat.le_of_ble_eq_true rfl) rfl rfl ?_)
                          | (refine awc_none rfl fun K hK => ?_)
                          | (refine awc_some rfl rfl (Nat.le_of_ble_eq_true rfl) rfl rfl ?_ ?_ <;> (intro hc; first | cases hc | ((try rw [hc]); (try simp only [stH] at hc); (try (exfalso; omega)))) <;> (try intro K hK))
                          | exact each_nil
                          | (refine each_none rfl ?_ ?_ <;> (try intro bb K hK))
                          | (refine awc_leaf [some 22, some 23, some 24, some 25, some 7, none] cc_overdublaw14_SuperTurns_4 rfl (by kernel_rfl) (by kernel_rfl) ?_ ?_))
                       all_goals first
                         | (show Awl _ _ _ _ _; simp only [St.upd, St.put, List.nil_append, List.cons_append, List.singleton_append, List.append_nil])
                         | (show Awc _ _ _ _ _ _; simp only [St.upd, St.put, List.nil_append, List.cons_append, List.singleton_append, List.append_nil])
                         | (show Each _ _ _ _ _ _ _ _; skip)
                         | (simp (disch := omega) only [awl, ev1, evk, evc, gv, e_move, e_pick, e_bin, binW, e_un, e_cnv, e_conv, e_str, e_mark, e_copy, e_extract, e_len, e_mm, e_nil, e_index, e_field, e_load, e_fld, e_cut, e_alloc, e_box, e_make, e_build, e_lit, e_store, e_app, e_call, args, pus, pu, pu1, toDL, toD, toD1, toDs, elems, idsW, idsV, lenV, oint, cutOk, ldV, subD, newD, fillV, cellsV, one1, one0, zD, cD0, scs, St.upd, St.put, St.ev, St.keep, gt, go, tmOf, ofD, dOk, cV, cV0, renM, Value.oneCell', keepL, freshL, vaOL, outB, wkTm, subL, ninL, injL, nm, resW, resL, resV, shift, ren, ren2, ren1, renO, va, va2, va1, vaO, inDom, stA, Int.reduceEq, ↓reduceIte, reduceCtorEq, Nat.reduceEqDiff, Nat.reduceLT, Nat.reduceLeDiff, Nat.reduceAdd, Nat.reduceSub, Nat.reduceMul, Int.reduceToNat, Int.reduceLE, Int.reduceLT, ZT, Sp_overdublaw14_Small, Sp_overdubkeep_Within, Sp_super_Pack, Sp_super_Next, Sp_super_Choose, Sp_overdublaw14_wakes, x_ar37, x_bt23, x_bt3, x_el24, x_el37, x_es23, x_fo23_0, x_fo23_3, x_pl37, x_pt23, x_pt3, x_tk23, x_tk24, x_tk3, x_tk37, x_tk5, x_zc23, x_zc37, x_zc5, z128, e0, Sg3, St.updIf, ifc_nil, gt_ifc, go_ifc, ite_self, Option.none_or, Option.some_or]
                            (try ((repeat' first | (refine And.intro ?_ ?_) | (intro hc; first | cases hc | ((try rw [hc]); (try simp only [stH] at hc); (try (exfalso; omega)))))
                                  all_goals first | (refine hK _ _ ?_; clear hK K; simp only [St.upd, St.put, List.nil_append, List.cons_append, List.singleton_append, List.append_nil]) | exact hK | omega))))
    refine ⟨nm [(100, 23), (101, 24)], Wk.of ?_⟩
    simp (disch := omega) only [awl, ev1, evk, evc, gv, e_move, e_pick, e_bin, binW, e_un, e_cnv, e_conv, e_str, e_mark, e_copy, e_extract, e_len, e_mm, e_nil, e_index, e_field, e_load, e_fld, e_cut, e_alloc, e_box, e_make, e_build, e_lit, e_store, e_app, e_call, args, pus, pu, pu1, toDL, toD, toD1, toDs, elems, idsW, idsV, lenV, oint, cutOk, ldV, subD, newD, fillV, cellsV, one1, one0, zD, cD0, scs, St.upd, St.put, St.ev, St.keep, gt, go, tmOf, ofD, dOk, cV, cV0, renM, Value.oneCell', keepL, freshL, vaOL, outB, wkTm, subL, ninL, injL, nm, resW, resL, resV, shift, ren, ren2, ren1, renO, va, va2, va1, vaO, inDom, stA, Int.reduceEq, ↓reduceIte, reduceCtorEq, Nat.reduceEqDiff, Nat.reduceLT, Nat.reduceLeDiff, Nat.reduceAdd, Nat.reduceSub, Nat.reduceMul, Int.reduceToNat, Int.reduceLE, Int.reduceLT, ZT, Sp_overdublaw14_Small, Sp_overdubkeep_Within, Sp_super_Pack, Sp_super_Next, Sp_super_Choose, Sp_overdublaw14_wakes, x_ar37, x_bt23, x_bt3, x_el24, x_el37, x_es23, x_fo23_0, x_fo23_3, x_pl37, x_pt23, x_pt3, x_tk23, x_tk24, x_tk3, x_tk37, x_tk5, x_zc23, x_zc37, x_zc5, stT']
  refine AW.mx1 (stT n lost l d r) (fun i => i ≤ 8) ?_ ?_
  · repeat' first
                    | (refine AW.seq ?_)
                    | (refine AW.block ?_)
                    | (refine AW.regl ZT_ok [0, 1, 2, 3, 6, 7, 8, 9, 10, 11, 12, 13, 14, 15, 29, 46, 53] ?_)
                    | (refine AW.regc (id := 4) ZT_ok follows [0, 1, 0, 7, 0, 31] (by kernel_rfl) [0, 1, 2, 3, 6, 7, 8, 9, 10, 11, 12, 13, 14, 15, 29, 46, 53] ?_)
                    | (refine then_n ?_)
                    | (refine then_r ?_)
                    | (refine then_x ?_)
                    | (refine block_x ?_)
                    | (refine block_o (by decide) ?_)
                    | (refine block_n ?_)
                    | (refine block_r ?_)
                    | (refine AW.skip ?_)
                    | (refine AW.ret ?_)
                    | (refine AW.exit ?_)
                    | (refine AW.cond rfl ?_ ?_ <;> (intro hc; first | cases hc | ((try rw [hc]); (try simp only [stH] at hc); (try (exfalso; omega)))))
                    | ((first
                          | (refine awl_none rfl fun K hK => ?_)
                          | (refine awl_nil ?_)
                          | (refine awl_some rfl rfl (Nat.le_of_ble_eq_true rfl) rfl rfl ?_ ?_ <;> (intro hc; first | cases hc | ((try rw [hc]); (try simp only [stH] at hc); (try (exfalso; omega)))) <;> (try intro K hK))
                          | (refine awl_skip rfl rfl (Nat.le_of_ble_eq_true rfl) rfl rfl ?_)
                          | (refine awc_none rfl fun K hK => ?_)
                          | (refine awc_some rfl rfl (Nat.le_of_ble_eq_true rfl) rfl rfl ?_ ?_ <;> (intro hc; first | cases hc | ((try rw [hc]); (try simp only [stH] at hc); (try (exfalso; omega)))) <;> (try intro K hK))
                          | exact each_nil
                          | (refine each_none rfl ?_ ?_ <;> (try intro bb K hK))
                          | (refine awc_leaf [some 22, some 23, some 24, some 25, some 7, none] cc_overdublaw14_SuperTurns_4 rfl (by kernel_rfl) (by kernel_rfl) ?_ ?_))
                       all_goals first
                         | (show Awl _ _ _ _ _; simp only [St.upd, St.put, List.nil_append, List.cons_append, List.singleton_append, List.append_nil])
                         | (show Awc _ _ _ _ _ _; simp only [St.upd, St.put, List.nil_append, List.cons_append, List.singleton_append, List.append_nil])
                         | (show Each _ _ _ _ _ _ _ _; skip)
                         | (simp (disch := omega) only [awl, ev1, evk, evc, gv, e_move, e_pick, e_bin, binW, e_un, e_cnv, e_conv, e_str, e_mark, e_copy, e_extract, e_len, e_mm, e_nil, e_index, e_field, e_load, e_fld, e_cut, e_alloc, e_box, e_make, e_build, e_lit, e_store, e_app, e_call, args, pus, pu, pu1, toDL, toD, toD1, toDs, elems, idsW, idsV, lenV, oint, cutOk, ldV, subD, newD, fillV, cellsV, one1, one0, zD, cD0, scs, St.upd, St.put, St.ev, St.keep, gt, go, tmOf, ofD, dOk, cV, cV0, renM, Value.oneCell', keepL, freshL, vaOL, outB, wkTm, subL, ninL, injL, nm, resW, resL, resV, shift, ren, ren2, ren1, renO, va, va2, va1, vaO, inDom, stA, Int.reduceEq, ↓reduceIte, reduceCtorEq, Nat.reduceEqDiff, Nat.reduceLT, Nat.reduceLeDiff, Nat.reduceAdd, Nat.reduceSub, Nat.reduceMul, Int.reduceToNat, Int.reduceLE, Int.reduceLT, ZT, Sp_overdublaw14_Small, Sp_overdubkeep_Within, Sp_super_Pack, Sp_super_Next, Sp_super_Choose, Sp_overdublaw14_wakes, x_ar37, x_bt23, x_bt3, x_el24, x_el37, x_es23, x_fo23_0, x_fo23_3, x_pl37, x_pt23, x_pt3, x_tk23, x_tk24, x_tk3, x_tk37, x_tk5, x_zc23, x_zc37, x_zc5, stT', Sg3, St.updIf, ifc_nil, gt_ifc, go_ifc, ite_self, Option.none_or, Option.some_or]
                            (try ((repeat' first | (refine And.intro ?_ ?_) | (intro hc; first | cases hc | ((try rw [hc]); (try simp only [stH] at hc); (try (exfalso; omega)))))
                                  all_goals first | (refine hK _ _ ?_; clear hK K; simp only [St.upd, St.put, List.nil_append, List.cons_append, List.singleton_append, List.append_nil]) | exact hK | omega))))
    refine AW.loop_wk (stT n lost l d r) (fun i => (i : Int) ≤ n) (fun i => n.toNat - i) 0 (by omega) (fun w0 oa a w hs => Wk.sr (ρ := nm []) (Wk.of ?_) hs) ?_
    · have e0 : rtT r 0 = r := rfl
      have e1 : sloT l d r 0 1 = List.replicate 128 0 := rfl
      simp (disch := omega) only [awl, ev1, evk, evc, gv, e_move, e_pick, e_bin, binW, e_un, e_cnv, e_conv, e_str, e_mark, e_copy, e_extract, e_len, e_mm, e_nil, e_index, e_field, e_load, e_fld, e_cut, e_alloc, e_box, e_make, e_build, e_lit, e_store, e_app, e_call, args, pus, pu, pu1, toDL, toD, toD1, toDs, elems, idsW, idsV, lenV, oint, cutOk, ldV, subD, newD, fillV, cellsV, one1, one0, zD, cD0, scs, St.upd, St.put, St.ev, St.keep, gt, go, tmOf, ofD, dOk, cV, cV0, renM, Value.oneCell', keepL, freshL, vaOL, outB, wkTm, subL, ninL, injL, nm, resW, resL, resV, shift, ren, ren2, ren1, renO, va, va2, va1, vaO, inDom, stA, Int.reduceEq, ↓reduceIte, reduceCtorEq, Nat.reduceEqDiff, Nat.reduceLT, Nat.reduceLeDiff, Nat.reduceAdd, Nat.reduceSub, Nat.reduceMul, Int.reduceToNat, Int.reduceLE, Int.reduceLT, ZT, Sp_overdublaw14_Small, Sp_overdubkeep_Within, Sp_super_Pack, Sp_super_Next, Sp_super_Choose, Sp_overdublaw14_wakes, x_ar37, x_bt23, x_bt3, x_el24, x_el37, x_es23, x_fo23_0, x_fo23_3, x_pl37, x_pt23, x_pt3, x_tk23, x_tk24, x_tk3, x_tk37, x_tk5, x_zc23, x_zc37, x_zc5, stT, bxT, e0, e1]
      all_goals first | rfl | exact ⟨rfl, rfl⟩
    · intro i hi
      have hcs := cur_succ l d r i
      have rs : rtT r (i + 1) = i := by unfold rtT; rw [if_neg (by omega)]; omega
      obtain ⟨R, hR⟩ : ∃ R, rtT r i = R := ⟨_, rfl⟩
      have hRr : 0 ≤ R ∧ R < 100 := by rw [← hR]; unfold rtT; split <;> omega
      clear hg4 z128
      by_cases hin : (i : Int) < n
      case neg =>
        repeat' first
                    | (refine AW.seq ?_)
                    | (refine AW.block ?_)
                    | (refine AW.regl ZT_ok [0, 1, 2, 3, 6, 7, 8, 9, 10, 11, 12, 13, 14, 15, 29, 46, 53] ?_)
                    | (refine AW.regc (id := 4) ZT_ok follows [0, 1, 0, 7, 0, 31] (by kernel_rfl) [0, 1, 2, 3, 6, 7, 8, 9, 10, 11, 12, 13, 14, 15, 29, 46, 53] ?_)
                    | (refine then_n ?_)
                    | (refine then_r ?_)
                    | (refine then_x ?_)
                    | (refine block_x ?_)
                    | (refine block_o (by decide) ?_)
                    | (refine block_n ?_)
                    | (refine block_r ?_)
                    | (refine AW.skip ?_)
                    | (refine AW.ret ?_)
                    | (refine AW.exit ?_)
                    | (refine AW.cond rfl ?_ ?_ <;> (intro hc; first | cases hc | ((try rw [hc]); (try simp only [stH] at hc); (try (exfalso; omega)))))
                    | ((first
                          | (refine awl_none rfl fun K hK => ?_)
                          | (refine awl_nil ?_)
                          | (refine awl_some rfl rfl (Nat.le_of_ble_eq_true rfl) rfl rfl ?_ ?_ <;> (intro hc; first | cases hc | ((try rw [hc]); (try simp only [stH] at hc); (try (exfalso; omega)))) <;> (try intro K hK))
                          | (refine awl_skip rfl rfl (Nat.le_of_ble_eq_true rfl) rfl rfl ?_)
                          | (refine awc_none rfl fun K hK => ?_)
                          | (refine awc_some rfl rfl (Nat.le_of_ble_eq_true rfl) rfl rfl ?_ ?_ <;> (intro hc; first | cases hc | ((try rw [hc]); (try simp only [stH] at hc); (try (exfalso; omega)))) <;> (try intro K hK))
                          | exact each_nil
                          | (refine each_none rfl ?_ ?_ <;> (try intro bb K hK))
                          | (refine awc_leaf [some 22, some 23, some 24, some 25, some 7, none] cc_overdublaw14_SuperTurns_4 rfl (by kernel_rfl) (by kernel_rfl) ?_ ?_))
                       all_goals first
                         | (show Awl _ _ _ _ _; simp only [St.upd, St.put, List.nil_append, List.cons_append, List.singleton_append, List.append_nil])
                         | (show Awc _ _ _ _ _ _; simp only [St.upd, St.put, List.nil_append, List.cons_append, List.singleton_append, List.append_nil])
                         | (show Each _ _ _ _ _ _ _ _; skip)
                         | (simp (disch := omega) only [awl, ev1, evk, evc, gv, e_move, e_pick, e_bin, binW, e_un, e_cnv, e_conv, e_str, e_mark, e_copy, e_extract, e_len, e_mm, e_nil, e_index, e_field, e_load, e_fld, e_cut, e_alloc, e_box, e_make, e_build, e_lit, e_store, e_app, e_call, args, pus, pu, pu1, toDL, toD, toD1, toDs, elems, idsW, idsV, lenV, oint, cutOk, ldV, subD, newD, fillV, cellsV, one1, one0, zD, cD0, scs, St.upd, St.put, St.ev, St.keep, gt, go, tmOf, ofD, dOk, cV, cV0, renM, Value.oneCell', keepL, freshL, vaOL, outB, wkTm, subL, ninL, injL, nm, resW, resL, resV, shift, ren, ren2, ren1, renO, va, va2, va1, vaO, inDom, stA, Int.reduceEq, ↓reduceIte, reduceCtorEq, Nat.reduceEqDiff, Nat.reduceLT, Nat.reduceLeDiff, Nat.reduceAdd, Nat.reduceSub, Nat.reduceMul, Int.reduceToNat, Int.reduceLE, Int.reduceLT, ZT, Sp_overdublaw14_Small, Sp_overdubkeep_Within, Sp_super_Pack, Sp_super_Next, Sp_super_Choose, Sp_overdublaw14_wakes, x_ar37, x_bt23, x_bt3, x_el24, x_el37, x_es23, x_fo23_0, x_fo23_3, x_pl37, x_pt23, x_pt3, x_tk23, x_tk24, x_tk3, x_tk37, x_tk5, x_zc23, x_zc37, x_zc5, stT, bxT, Sg3, St.updIf, ifc_nil, gt_ifc, go_ifc, ite_self, Option.none_or, Option.some_or]
                            (try ((repeat' first | (refine And.intro ?_ ?_) | (intro hc; first | cases hc | ((try rw [hc]); (try simp only [stH] at hc); (try (exfalso; omega)))))
                                  all_goals first | (refine hK _ _ ?_; clear hK K; simp only [St.upd, St.put, List.nil_append, List.cons_append, List.singleton_append, List.append_nil]) | exact hK | omega))))
        refine ⟨i, by omega, nm [], Wk.of ?_⟩
        simp (disch := omega) only [awl, ev1, evk, evc, gv, e_move, e_pick, e_bin, binW, e_un, e_cnv, e_conv, e_str, e_mark, e_copy, e_extract, e_len, e_mm, e_nil, e_index, e_field, e_load, e_fld, e_cut, e_alloc, e_box, e_make, e_build, e_lit, e_store, e_app, e_call, args, pus, pu, pu1, toDL, toD, toD1, toDs, elems, idsW, idsV, lenV, oint, cutOk, ldV, subD, newD, fillV, cellsV, one1, one0, zD, cD0, scs, St.upd, St.put, St.ev, St.keep, gt, go, tmOf, ofD, dOk, cV, cV0, renM, Value.oneCell', keepL, freshL, vaOL, outB, wkTm, subL, ninL, injL, nm, resW, resL, resV, shift, ren, ren2, ren1, renO, va, va2, va1, vaO, inDom, stA, Int.reduceEq, ↓reduceIte, reduceCtorEq, Nat.reduceEqDiff, Nat.reduceLT, Nat.reduceLeDiff, Nat.reduceAdd, Nat.reduceSub, Nat.reduceMul, Int.reduceToNat, Int.reduceLE, Int.reduceLT, ZT, Sp_overdublaw14_Small, Sp_overdubkeep_Within, Sp_super_Pack, Sp_super_Next, Sp_super_Choose, Sp_overdublaw14_wakes, x_ar37, x_bt23, x_bt3, x_el24, x_el37, x_es23, x_fo23_0, x_fo23_3, x_pl37, x_pt23, x_pt3, x_tk23, x_tk24, x_tk3, x_tk37, x_tk5, x_zc23, x_zc37, x_zc5, stT, bxT]
      by_cases hp : i % 2 = 0
      · have hnx : max 0 ((i : Int) + 1) % 2 = 1 := by omega
        have s0 : sloT l d r (i + 1) 0 = sloT l d r i 0 := by
          unfold sloT prvT
          rw [if_neg (by omega), if_neg (by omega), if_pos hp, Nat.add_sub_cancel]
        have s1 : sloT l d r (i + 1) 1 = curT l d r (i + 1) := if_pos (by omega)
        cases lost
        · repeat' first
                    | (refine AW.seq ?_)
                    | (refine AW.block ?_)
                    | (refine AW.regl ZT_ok [0, 1, 2, 3, 6, 7, 8, 9, 10, 11, 12, 13, 14, 15, 29, 46, 53] ?_)
                    | (refine AW.regc (id := 4) ZT_ok follows [0, 1, 0, 7, 0, 31] (by kernel_rfl) [0, 1, 2, 3, 6, 7, 8, 9, 10, 11, 12, 13, 14, 15, 29, 46, 53] ?_)
                    | (refine then_n ?_)
                    | (refine then_r ?_)
                    | (refine then_x ?_)
                    | (refine block_x ?_)
                    | (refine block_o (by decide) ?_)
                    | (refine block_n ?_)
                    | (refine block_r ?_)
                    | (refine AW.skip ?_)
                    | (refine AW.ret ?_)
                    | (refine AW.exit ?_)
                    | (refine AW.cond rfl ?_ ?_ <;> (intro hc; first | cases hc | ((try rw [hc]); (try simp only [stH] at hc); (try (exfalso; omega)))))
                    | ((first
                          | (refine awl_none rfl fun K hK => ?_)
                          | (refine awl_nil ?_)
                          | (refine awl_some rfl rfl (Nat.le_of_ble_eq_true rfl) rfl rfl ?_ ?_ <;> (intro hc; first | cases hc | ((try rw [hc]); (try simp only [stH] at hc); (try (exfalso; omega)))) <;> (try intro K hK))
                          | (refine awl_skip rfl rfl (Nat.le_of_ble_eq_true rfl) rfl rfl ?_)
                          | (refine awc_none rfl fun K hK => ?_)
                          | (refine awc_some rfl rfl (Nat.le_of_ble_eq_true rfl) rfl rfl ?_ ?_ <;> (intro hc; first | cases hc | ((try rw [hc]); (try simp only [stH] at hc); (try (exfalso; omega)))) <;> (try intro K hK))
                          | exact each_nil
                          | (refine each_none rfl ?_ ?_ <;> (try intro bb K hK))
                          | (refine awc_leaf [some 22, some 23, some 24, some 25, some 7, none] cc_overdublaw14_SuperTurns_4 rfl (by kernel_rfl) (by kernel_rfl) ?_ ?_))
                       all_goals first
                         | (show Awl _ _ _ _ _; simp only [St.upd, St.put, List.nil_append, List.cons_append, List.singleton_append, List.append_nil])
                         | (show Awc _ _ _ _ _ _; simp only [St.upd, St.put, List.nil_append, List.cons_append, List.singleton_append, List.append_nil])
                         | (show Each _ _ _ _ _ _ _ _; skip)
                         | (simp (disch := omega) only [awl, ev1, evk, evc, gv, e_move, e_pick, e_bin, binW, e_un, e_cnv, e_conv, e_str, e_mark, e_copy, e_extract, e_len, e_mm, e_nil, e_index, e_field, e_load, e_fld, e_cut, e_alloc, e_box, e_make, e_build, e_lit, e_store, e_app, e_call, args, pus, pu, pu1, toDL, toD, toD1, toDs, elems, idsW, idsV, lenV, oint, cutOk, ldV, subD, newD, fillV, cellsV, one1, one0, zD, cD0, scs, St.upd, St.put, St.ev, St.keep, gt, go, tmOf, ofD, dOk, cV, cV0, renM, Value.oneCell', keepL, freshL, vaOL, outB, wkTm, subL, ninL, injL, nm, resW, resL, resV, shift, ren, ren2, ren1, renO, va, va2, va1, vaO, inDom, stA, Int.reduceEq, ↓reduceIte, reduceCtorEq, Nat.reduceEqDiff, Nat.reduceLT, Nat.reduceLeDiff, Nat.reduceAdd, Nat.reduceSub, Nat.reduceMul, Int.reduceToNat, Int.reduceLE, Int.reduceLT, ZT, Sp_overdublaw14_Small, Sp_overdubkeep_Within, Sp_super_Pack, Sp_super_Next, Sp_super_Choose, Sp_overdublaw14_wakes, x_ar37, x_bt23, x_bt3, x_el24, x_el37, x_es23, x_fo23_0, x_fo23_3, x_pl37, x_pt23, x_pt3, x_tk23, x_tk24, x_tk3, x_tk37, x_tk5, x_zc23, x_zc37, x_zc5, stT, bxT, hR, hnx, hcs, exists_eq', Sg3, St.updIf, ifc_nil, gt_ifc, go_ifc, ite_self, Option.none_or, Option.some_or]
                            (try ((repeat' first | (refine And.intro ?_ ?_) | (intro hc; first | cases hc | ((try rw [hc]); (try simp only [stH] at hc); (try (exfalso; omega)))))
                                  all_goals first | (refine hK _ _ ?_; clear hK K; simp only [St.upd, St.put, List.nil_append, List.cons_append, List.singleton_append, List.append_nil]) | exact hK | omega))))
          refine ⟨i + 1, by omega, by omega, nm [(101, 56)], Wk.of ?_⟩
          simp (disch := omega) only [awl, ev1, evk, evc, gv, e_move, e_pick, e_bin, binW, e_un, e_cnv, e_conv, e_str, e_mark, e_copy, e_extract, e_len, e_mm, e_nil, e_index, e_field, e_load, e_fld, e_cut, e_alloc, e_box, e_make, e_build, e_lit, e_store, e_app, e_call, args, pus, pu, pu1, toDL, toD, toD1, toDs, elems, idsW, idsV, lenV, oint, cutOk, ldV, subD, newD, fillV, cellsV, one1, one0, zD, cD0, scs, St.upd, St.put, St.ev, St.keep, gt, go, tmOf, ofD, dOk, cV, cV0, renM, Value.oneCell', keepL, freshL, vaOL, outB, wkTm, subL, ninL, injL, nm, resW, resL, resV, shift, ren, ren2, ren1, renO, va, va2, va1, vaO, inDom, stA, Int.reduceEq, ↓reduceIte, reduceCtorEq, Nat.reduceEqDiff, Nat.reduceLT, Nat.reduceLeDiff, Nat.reduceAdd, Nat.reduceSub, Nat.reduceMul, Int.reduceToNat, Int.reduceLE, Int.reduceLT, ZT, Sp_overdublaw14_Small, Sp_overdubkeep_Within, Sp_super_Pack, Sp_super_Next, Sp_super_Choose, Sp_overdublaw14_wakes, x_ar37, x_bt23, x_bt3, x_el24, x_el37, x_es23, x_fo23_0, x_fo23_3, x_pl37, x_pt23, x_pt3, x_tk23, x_tk24, x_tk3, x_tk37, x_tk5, x_zc23, x_zc37, x_zc5, stT, bxT, s0, s1, rs]
          all_goals first | rfl | exact ⟨rfl, rfl⟩
        · by_cases hl : (i : Int) = n - 1
          · have dl : decide ((i : Int) = n - 1) = true := decide_eq_true hl
            repeat' first
                    | (refine AW.seq ?_)
                    | (refine AW.block ?_)
                    | (refine AW.regl ZT_ok [0, 1, 2, 3, 6, 7, 8, 9, 10, 11, 12, 13, 14, 15, 29, 46, 53] ?_)
                    | (refine AW.regc (id := 4) ZT_ok follows [0, 1, 0, 7, 0, 31] (by kernel_rfl) [0, 1, 2, 3, 6, 7, 8, 9, 10, 11, 12, 13, 14, 15, 29, 46, 53] ?_)
                    | (refine then_n ?_)
                    | (refine then_r ?_)
                    | (refine then_x ?_)
                    | (refine block_x ?_)
                    | (refine block_o (by decide) ?_)
                    | (refine block_n ?_)
                    | (refine block_r ?_)
                    | (refine AW.skip ?_)
                    | (refine AW.ret ?_)
                    | (refine AW.exit ?_)
                    | (refine AW.cond rfl ?_ ?_ <;> (intro hc; first | cases hc | ((try rw [hc]); (try simp only [stH] at hc); (try (exfalso; omega)))))
                    | ((first
                          | (refine awl_none rfl fun K hK => ?_)
                          | (refine awl_nil ?_)
                          | (refine awl_some rfl rfl (Nat.le_of_ble_eq_true rfl) rfl rfl ?_ ?_ <;> (intro hc; first | cases hc | ((try rw [hc]); (try simp only [stH] at hc); (try (exfalso; omega)))) <;> (try intro K hK))
                          | (refine awl_skip rfl rfl (Nat.le_of_ble_eq_true rfl) rfl rfl ?_)
                          | (refine awc_none rfl fun K hK => ?_)
                          | (refine awc_some rfl rfl (Nat.le_of_ble_eq_true rfl) rfl rfl ?_ ?_ <;> (intro hc; first | cases hc | ((try rw [hc]); (try simp only [stH] at hc); (try (exfalso; omega)))) <;> (try intro K hK))
                          | exact each_nil
                          | (refine each_none rfl ?_ ?_ <;> (try intro bb K hK))
                          | (refine awc_leaf [some 22, some 23, some 24, some 25, some 7, none] cc_overdublaw14_SuperTurns_4 rfl (by kernel_rfl) (by kernel_rfl) ?_ ?_))
                       all_goals first
                         | (show Awl _ _ _ _ _; simp only [St.upd, St.put, List.nil_append, List.cons_append, List.singleton_append, List.append_nil])
                         | (show Awc _ _ _ _ _ _; simp only [St.upd, St.put, List.nil_append, List.cons_append, List.singleton_append, List.append_nil])
                         | (show Each _ _ _ _ _ _ _ _; skip)
                         | (simp (disch := omega) only [awl, ev1, evk, evc, gv, e_move, e_pick, e_bin, binW, e_un, e_cnv, e_conv, e_str, e_mark, e_copy, e_extract, e_len, e_mm, e_nil, e_index, e_field, e_load, e_fld, e_cut, e_alloc, e_box, e_make, e_build, e_lit, e_store, e_app, e_call, args, pus, pu, pu1, toDL, toD, toD1, toDs, elems, idsW, idsV, lenV, oint, cutOk, ldV, subD, newD, fillV, cellsV, one1, one0, zD, cD0, scs, St.upd, St.put, St.ev, St.keep, gt, go, tmOf, ofD, dOk, cV, cV0, renM, Value.oneCell', keepL, freshL, vaOL, outB, wkTm, subL, ninL, injL, nm, resW, resL, resV, shift, ren, ren2, ren1, renO, va, va2, va1, vaO, inDom, stA, Int.reduceEq, ↓reduceIte, reduceCtorEq, Nat.reduceEqDiff, Nat.reduceLT, Nat.reduceLeDiff, Nat.reduceAdd, Nat.reduceSub, Nat.reduceMul, Int.reduceToNat, Int.reduceLE, Int.reduceLT, ZT, Sp_overdublaw14_Small, Sp_overdubkeep_Within, Sp_super_Pack, Sp_super_Next, Sp_super_Choose, Sp_overdublaw14_wakes, x_ar37, x_bt23, x_bt3, x_el24, x_el37, x_es23, x_fo23_0, x_fo23_3, x_pl37, x_pt23, x_pt3, x_tk23, x_tk24, x_tk3, x_tk37, x_tk5, x_zc23, x_zc37, x_zc5, stT, bxT, hR, hnx, hcs, dl, exists_eq', Sg3, St.updIf, ifc_nil, gt_ifc, go_ifc, ite_self, Option.none_or, Option.some_or]
                            (try ((repeat' first | (refine And.intro ?_ ?_) | (intro hc; first | cases hc | ((try rw [hc]); (try simp only [stH] at hc); (try (exfalso; omega)))))
                                  all_goals first | (refine hK _ _ ?_; clear hK K; simp only [St.upd, St.put, List.nil_append, List.cons_append, List.singleton_append, List.append_nil]) | exact hK | omega))))
            refine ⟨i, by omega, nm [], Wk.of ?_⟩
            simp (disch := omega) only [awl, ev1, evk, evc, gv, e_move, e_pick, e_bin, binW, e_un, e_cnv, e_conv, e_str, e_mark, e_copy, e_extract, e_len, e_mm, e_nil, e_index, e_field, e_load, e_fld, e_cut, e_alloc, e_box, e_make, e_build, e_lit, e_store, e_app, e_call, args, pus, pu, pu1, toDL, toD, toD1, toDs, elems, idsW, idsV, lenV, oint, cutOk, ldV, subD, newD, fillV, cellsV, one1, one0, zD, cD0, scs, St.upd, St.put, St.ev, St.keep, gt, go, tmOf, ofD, dOk, cV, cV0, renM, Value.oneCell', keepL, freshL, vaOL, outB, wkTm, subL, ninL, injL, nm, resW, resL, resV, shift, ren, ren2, ren1, renO, va, va2, va1, vaO, inDom, stA, Int.reduceEq, ↓reduceIte, reduceCtorEq, Nat.reduceEqDiff, Nat.reduceLT, Nat.reduceLeDiff, Nat.reduceAdd, Nat.reduceSub, Nat.reduceMul, Int.reduceToNat, Int.reduceLE, Int.reduceLT, ZT, Sp_overdublaw14_Small, Sp_overdubkeep_Within, Sp_super_Pack, Sp_super_Next, Sp_super_Choose, Sp_overdublaw14_wakes, x_ar37, x_bt23, x_bt3, x_el24, x_el37, x_es23, x_fo23_0, x_fo23_3, x_pl37, x_pt23, x_pt3, x_tk23, x_tk24, x_tk3, x_tk37, x_tk5, x_zc23, x_zc37, x_zc5, stT, bxT, hR]
          · have dl : decide ((i : Int) = n - 1) = false := decide_eq_false hl
            repeat' first
                    | (refine AW.seq ?_)
                    | (refine AW.block ?_)
                    | (refine AW.regl ZT_ok [0, 1, 2, 3, 6, 7, 8, 9, 10, 11, 12, 13, 14, 15, 29, 46, 53] ?_)
                    | (refine AW.regc (id := 4) ZT_ok follows [0, 1, 0, 7, 0, 31] (by kernel_rfl) [0, 1, 2, 3, 6, 7, 8, 9, 10, 11, 12, 13, 14, 15, 29, 46, 53] ?_)
                    | (refine then_n ?_)
                    | (refine then_r ?_)
                    | (refine then_x ?_)
                    | (refine block_x ?_)
                    | (refine block_o (by decide) ?_)
                    | (refine block_n ?_)
                    | (refine block_r ?_)
                    | (refine AW.skip ?_)
                    | (refine AW.ret ?_)
                    | (refine AW.exit ?_)
                    | (refine AW.cond rfl ?_ ?_ <;> (intro hc; first | cases hc | ((try rw [hc]); (try simp only [stH] at hc); (try (exfalso; omega)))))
                    | ((first
                          | (refine awl_none rfl fun K hK => ?_)
                          | (refine awl_nil ?_)
                          | (refine awl_some rfl rfl (Nat.le_of_ble_eq_true rfl) rfl rfl ?_ ?_ <;> (intro hc; first | cases hc | ((try rw [hc]); (try simp only [stH] at hc); (try (exfalso; omega)))) <;> (try intro K hK))
                          | (refine awl_skip rfl rfl (Nat.le_of_ble_eq_true rfl) rfl rfl ?_)
                          | (refine awc_none rfl fun K hK => ?_)
                          | (refine awc_some rfl rfl (Nat.le_of_ble_eq_true rfl) rfl rfl ?_ ?_ <;> (intro hc; first | cases hc | ((try rw [hc]); (try simp only [stH] at hc); (try (exfalso; omega)))) <;> (try intro K hK))
                          | exact each_nil
                          | (refine each_none rfl ?_ ?_ <;> (try intro bb K hK))
                          | (refine awc_leaf [some 22, some 23, some 24, some 25, some 7, none] cc_overdublaw14_SuperTurns_4 rfl (by kernel_rfl) (by kernel_rfl) ?_ ?_))
                       all_goals first
                         | (show Awl _ _ _ _ _; simp only [St.upd, St.put, List.nil_append, List.cons_append, List.singleton_append, List.append_nil])
                         | (show Awc _ _ _ _ _ _; simp only [St.upd, St.put, List.nil_append, List.cons_append, List.singleton_append, List.append_nil])
                         | (show Each _ _ _ _ _ _ _ _; skip)
                         | (simp (disch := omega) only [awl, ev1, evk, evc, gv, e_move, e_pick, e_bin, binW, e_un, e_cnv, e_conv, e_str, e_mark, e_copy, e_extract, e_len, e_mm, e_nil, e_index, e_field, e_load, e_fld, e_cut, e_alloc, e_box, e_make, e_build, e_lit, e_store, e_app, e_call, args, pus, pu, pu1, toDL, toD, toD1, toDs, elems, idsW, idsV, lenV, oint, cutOk, ldV, subD, newD, fillV, cellsV, one1, one0, zD, cD0, scs, St.upd, St.put, St.ev, St.keep, gt, go, tmOf, ofD, dOk, cV, cV0, renM, Value.oneCell', keepL, freshL, vaOL, outB, wkTm, subL, ninL, injL, nm, resW, resL, resV, shift, ren, ren2, ren1, renO, va, va2, va1, vaO, inDom, stA, Int.reduceEq, ↓reduceIte, reduceCtorEq, Nat.reduceEqDiff, Nat.reduceLT, Nat.reduceLeDiff, Nat.reduceAdd, Nat.reduceSub, Nat.reduceMul, Int.reduceToNat, Int.reduceLE, Int.reduceLT, ZT, Sp_overdublaw14_Small, Sp_overdubkeep_Within, Sp_super_Pack, Sp_super_Next, Sp_super_Choose, Sp_overdublaw14_wakes, x_ar37, x_bt23, x_bt3, x_el24, x_el37, x_es23, x_fo23_0, x_fo23_3, x_pl37, x_pt23, x_pt3, x_tk23, x_tk24, x_tk3, x_tk37, x_tk5, x_zc23, x_zc37, x_zc5, stT, bxT, hR, hnx, hcs, dl, exists_eq', Sg3, St.updIf, ifc_nil, gt_ifc, go_ifc, ite_self, Option.none_or, Option.some_or]
                            (try ((repeat' first | (refine And.intro ?_ ?_) | (intro hc; first | cases hc | ((try rw [hc]); (try simp only [stH] at hc); (try (exfalso; omega)))))
                                  all_goals first | (refine hK _ _ ?_; clear hK K; simp only [St.upd, St.put, List.nil_append, List.cons_append, List.singleton_append, List.append_nil]) | exact hK | omega))))
            refine ⟨i + 1, by omega, by omega, nm [(101, 56)], Wk.of ?_⟩
            simp (disch := omega) only [awl, ev1, evk, evc, gv, e_move, e_pick, e_bin, binW, e_un, e_cnv, e_conv, e_str, e_mark, e_copy, e_extract, e_len, e_mm, e_nil, e_index, e_field, e_load, e_fld, e_cut, e_alloc, e_box, e_make, e_build, e_lit, e_store, e_app, e_call, args, pus, pu, pu1, toDL, toD, toD1, toDs, elems, idsW, idsV, lenV, oint, cutOk, ldV, subD, newD, fillV, cellsV, one1, one0, zD, cD0, scs, St.upd, St.put, St.ev, St.keep, gt, go, tmOf, ofD, dOk, cV, cV0, renM, Value.oneCell', keepL, freshL, vaOL, outB, wkTm, subL, ninL, injL, nm, resW, resL, resV, shift, ren, ren2, ren1, renO, va, va2, va1, vaO, inDom, stA, Int.reduceEq, ↓reduceIte, reduceCtorEq, Nat.reduceEqDiff, Nat.reduceLT, Nat.reduceLeDiff, Nat.reduceAdd, Nat.reduceSub, Nat.reduceMul, Int.reduceToNat, Int.reduceLE, Int.reduceLT, ZT, Sp_overdublaw14_Small, Sp_overdubkeep_Within, Sp_super_Pack, Sp_super_Next, Sp_super_Choose, Sp_overdublaw14_wakes, x_ar37, x_bt23, x_bt3, x_el24, x_el37, x_es23, x_fo23_0, x_fo23_3, x_pl37, x_pt23, x_pt3, x_tk23, x_tk24, x_tk3, x_tk37, x_tk5, x_zc23, x_zc37, x_zc5, stT, bxT, s0, s1, rs]
            all_goals first | rfl | exact ⟨rfl, rfl⟩
      · have hnx : max 0 ((i : Int) + 1) % 2 = 0 := by omega
        have s1 : sloT l d r (i + 1) 1 = sloT l d r i 1 := by
          unfold sloT prvT
          rw [if_neg (by omega), if_neg (by omega), if_pos (by omega), Nat.add_sub_cancel]
        have s0 : sloT l d r (i + 1) 0 = curT l d r (i + 1) := if_pos (by omega)
        cases lost
        · repeat' first
                    | (refine AW.seq ?_)
                    | (refine AW.block ?_)
                    | (refine AW.regl ZT_ok [0, 1, 2, 3, 6, 7, 8, 9, 10, 11, 12, 13, 14, 15, 29, 46, 53] ?_)
                    | (refine AW.regc (id := 4) ZT_ok follows [0, 1, 0, 7, 0, 31] (by kernel_rfl) [0, 1, 2, 3, 6, 7, 8, 9, 10, 11, 12, 13, 14, 15, 29, 46, 53] ?_)
                    | (refine then_n ?_)
                    | (refine then_r ?_)
                    | (refine then_x ?_)
                    | (refine block_x ?_)
                    | (refine block_o (by decide) ?_)
                    | (refine block_n ?_)
                    | (refine block_r ?_)
                    | (refine AW.skip ?_)
                    | (refine AW.ret ?_)
                    | (refine AW.exit ?_)
                    | (refine AW.cond rfl ?_ ?_ <;> (intro hc; first | cases hc | ((try rw [hc]); (try simp only [stH] at hc); (try (exfalso; omega)))))
                    | ((first
                          | (refine awl_none rfl fun K hK => ?_)
                          | (refine awl_nil ?_)
                          | (refine awl_some rfl rfl (Nat.le_of_ble_eq_true rfl) rfl rfl ?_ ?_ <;> (intro hc; first | cases hc | ((try rw [hc]); (try simp only [stH] at hc); (try (exfalso; omega)))) <;> (try intro K hK))
                          | (refine awl_skip rfl rfl (Nat.le_of_ble_eq_true rfl) rfl rfl ?_)
                          | (refine awc_none rfl fun K hK => ?_)
                          | (refine awc_some rfl rfl (Nat.le_of_ble_eq_true rfl) rfl rfl ?_ ?_ <;> (intro hc; first | cases hc | ((try rw [hc]); (try simp only [stH] at hc); (try (exfalso; omega)))) <;> (try intro K hK))
                          | exact each_nil
                          | (refine each_none rfl ?_ ?_ <;> (try intro bb K hK))
                          | (refine awc_leaf [some 22, some 23, some 24, some 25, some 7, none] cc_overdublaw14_SuperTurns_4 rfl (by kernel_rfl) (by kernel_rfl) ?_ ?_))
                       all_goals first
                         | (show Awl _ _ _ _ _; simp only [St.upd, St.put, List.nil_append, List.cons_append, List.singleton_append, List.append_nil])
                         | (show Awc _ _ _ _ _ _; simp only [St.upd, St.put, List.nil_append, List.cons_append, List.singleton_append, List.append_nil])
                         | (show Each _ _ _ _ _ _ _ _; skip)
                         | (simp (disch := omega) only [awl, ev1, evk, evc, gv, e_move, e_pick, e_bin, binW, e_un, e_cnv, e_conv, e_str, e_mark, e_copy, e_extract, e_len, e_mm, e_nil, e_index, e_field, e_load, e_fld, e_cut, e_alloc, e_box, e_make, e_build, e_lit, e_store, e_app, e_call, args, pus, pu, pu1, toDL, toD, toD1, toDs, elems, idsW, idsV, lenV, oint, cutOk, ldV, subD, newD, fillV, cellsV, one1, one0, zD, cD0, scs, St.upd, St.put, St.ev, St.keep, gt, go, tmOf, ofD, dOk, cV, cV0, renM, Value.oneCell', keepL, freshL, vaOL, outB, wkTm, subL, ninL, injL, nm, resW, resL, resV, shift, ren, ren2, ren1, renO, va, va2, va1, vaO, inDom, stA, Int.reduceEq, ↓reduceIte, reduceCtorEq, Nat.reduceEqDiff, Nat.reduceLT, Nat.reduceLeDiff, Nat.reduceAdd, Nat.reduceSub, Nat.reduceMul, Int.reduceToNat, Int.reduceLE, Int.reduceLT, ZT, Sp_overdublaw14_Small, Sp_overdubkeep_Within, Sp_super_Pack, Sp_super_Next, Sp_super_Choose, Sp_overdublaw14_wakes, x_ar37, x_bt23, x_bt3, x_el24, x_el37, x_es23, x_fo23_0, x_fo23_3, x_pl37, x_pt23, x_pt3, x_tk23, x_tk24, x_tk3, x_tk37, x_tk5, x_zc23, x_zc37, x_zc5, stT, bxT, hR, hnx, hcs, exists_eq', Sg3, St.updIf, ifc_nil, gt_ifc, go_ifc, ite_self, Option.none_or, Option.some_or]
                            (try ((repeat' first | (refine And.intro ?_ ?_) | (intro hc; first | cases hc | ((try rw [hc]); (try simp only [stH] at hc); (try (exfalso; omega)))))
                                  all_goals first | (refine hK _ _ ?_; clear hK K; simp only [St.upd, St.put, List.nil_append, List.cons_append, List.singleton_append, List.append_nil]) | exact hK | omega))))
          refine ⟨i + 1, by omega, by omega, nm [(100, 56)], Wk.of ?_⟩
          simp (disch := omega) only [awl, ev1, evk, evc, gv, e_move, e_pick, e_bin, binW, e_un, e_cnv, e_conv, e_str, e_mark, e_copy, e_extract, e_len, e_mm, e_nil, e_index, e_field, e_load, e_fld, e_cut, e_alloc, e_box, e_make, e_build, e_lit, e_store, e_app, e_call, args, pus, pu, pu1, toDL, toD, toD1, toDs, elems, idsW, idsV, lenV, oint, cutOk, ldV, subD, newD, fillV, cellsV, one1, one0, zD, cD0, scs, St.upd, St.put, St.ev, St.keep, gt, go, tmOf, ofD, dOk, cV, cV0, renM, Value.oneCell', keepL, freshL, vaOL, outB, wkTm, subL, ninL, injL, nm, resW, resL, resV, shift, ren, ren2, ren1, renO, va, va2, va1, vaO, inDom, stA, Int.reduceEq, ↓reduceIte, reduceCtorEq, Nat.reduceEqDiff, Nat.reduceLT, Nat.reduceLeDiff, Nat.reduceAdd, Nat.reduceSub, Nat.reduceMul, Int.reduceToNat, Int.reduceLE, Int.reduceLT, ZT, Sp_overdublaw14_Small, Sp_overdubkeep_Within, Sp_super_Pack, Sp_super_Next, Sp_super_Choose, Sp_overdublaw14_wakes, x_ar37, x_bt23, x_bt3, x_el24, x_el37, x_es23, x_fo23_0, x_fo23_3, x_pl37, x_pt23, x_pt3, x_tk23, x_tk24, x_tk3, x_tk37, x_tk5, x_zc23, x_zc37, x_zc5, stT, bxT, s0, s1, rs]
          all_goals first | rfl | exact ⟨rfl, rfl⟩
        · by_cases hl : (i : Int) = n - 1
          · have dl : decide ((i : Int) = n - 1) = true := decide_eq_true hl
            repeat' first
                    | (refine AW.seq ?_)
                    | (refine AW.block ?_)
                    | (refine AW.regl ZT_ok [0, 1, 2, 3, 6, 7, 8, 9, 10, 11, 12, 13, 14, 15, 29, 46, 53] ?_)
                    | (refine AW.regc (id := 4) ZT_ok follows [0, 1, 0, 7, 0, 31] (by kernel_rfl) [0, 1, 2, 3, 6, 7, 8, 9, 10, 11, 12, 13, 14, 15, 29, 46, 53] ?_)
                    | (refine then_n ?_)
                    | (refine then_r ?_)
                    | (refine then_x ?_)
                    | (refine block_x ?_)
                    | (refine block_o (by decide) ?_)
                    | (refine block_n ?_)
                    | (refine block_r ?_)
                    | (refine AW.skip ?_)
                    | (refine AW.ret ?_)
                    | (refine AW.exit ?_)
                    | (refine AW.cond rfl ?_ ?_ <;> (intro hc; first | cases hc | ((try rw [hc]); (try simp only [stH] at hc); (try (exfalso; omega)))))
                    | ((first
                          | (refine awl_none rfl fun K hK => ?_)
                          | (refine awl_nil ?_)
                          | (refine awl_some rfl rfl (Nat.le_of_ble_eq_true rfl) rfl rfl ?_ ?_ <;> (intro hc; first | cases hc | ((try rw [hc]); (try simp only [stH] at hc); (try (exfalso; omega)))) <;> (try intro K hK))
                          | (refine awl_skip rfl rfl (Nat.le_of_ble_eq_true rfl) rfl rfl ?_)
                          | (refine awc_none rfl fun K hK => ?_)
                          | (refine awc_some rfl rfl (Nat.le_of_ble_eq_true rfl) rfl rfl ?_ ?_ <;> (intro hc; first | cases hc | ((try rw [hc]); (try simp only [stH] at hc); (try (exfalso; omega)))) <;> (try intro K hK))
                          | exact each_nil
                          | (refine each_none rfl ?_ ?_ <;> (try intro bb K hK))
                          | (refine awc_leaf [some 22, some 23, some 24, some 25, some 7, none] cc_overdublaw14_SuperTurns_4 rfl (by kernel_rfl) (by kernel_rfl) ?_ ?_))
                       all_goals first
                         | (show Awl _ _ _ _ _; simp only [St.upd, St.put, List.nil_append, List.cons_append, List.singleton_append, List.append_nil])
                         | (show Awc _ _ _ _ _ _; simp only [St.upd, St.put, List.nil_append, List.cons_append, List.singleton_append, List.append_nil])
                         | (show Each _ _ _ _ _ _ _ _; skip)
                         | (simp (disch := omega) only [awl, ev1, evk, evc, gv, e_move, e_pick, e_bin, binW, e_un, e_cnv, e_conv, e_str, e_mark, e_copy, e_extract, e_len, e_mm, e_nil, e_index, e_field, e_load, e_fld, e_cut, e_alloc, e_box, e_make, e_build, e_lit, e_store, e_app, e_call, args, pus, pu, pu1, toDL, toD, toD1, toDs, elems, idsW, idsV, lenV, oint, cutOk, ldV, subD, newD, fillV, cellsV, one1, one0, zD, cD0, scs, St.upd, St.put, St.ev, St.keep, gt, go, tmOf, ofD, dOk, cV, cV0, renM, Value.oneCell', keepL, freshL, vaOL, outB, wkTm, subL, ninL, injL, nm, resW, resL, resV, shift, ren, ren2, ren1, renO, va, va2, va1, vaO, inDom, stA, Int.reduceEq, ↓reduceIte, reduceCtorEq, Nat.reduceEqDiff, Nat.reduceLT, Nat.reduceLeDiff, Nat.reduceAdd, Nat.reduceSub, Nat.reduceMul, Int.reduceToNat, Int.reduceLE, Int.reduceLT, ZT, Sp_overdublaw14_Small, Sp_overdubkeep_Within, Sp_super_Pack, Sp_super_Next, Sp_super_Choose, Sp_overdublaw14_wakes, x_ar37, x_bt23, x_bt3, x_el24, x_el37, x_es23, x_fo23_0, x_fo23_3, x_pl37, x_pt23, x_pt3, x_tk23, x_tk24, x_tk3, x_tk37, x_tk5, x_zc23, x_zc37, x_zc5, stT, bxT, hR, hnx, hcs, dl, exists_eq', Sg3, St.updIf, ifc_nil, gt_ifc, go_ifc, ite_self, Option.none_or, Option.some_or]
                            (try ((repeat' first | (refine And.intro ?_ ?_) | (intro hc; first | cases hc | ((try rw [hc]); (try simp only [stH] at hc); (try (exfalso; omega)))))
                                  all_goals first | (refine hK _ _ ?_; clear hK K; simp only [St.upd, St.put, List.nil_append, List.cons_append, List.singleton_append, List.append_nil]) | exact hK | omega))))
            refine ⟨i, by omega, nm [], Wk.of ?_⟩
            simp (disch := omega) only [awl, ev1, evk, evc, gv, e_move, e_pick, e_bin, binW, e_un, e_cnv, e_conv, e_str, e_mark, e_copy, e_extract, e_len, e_mm, e_nil, e_index, e_field, e_load, e_fld, e_cut, e_alloc, e_box, e_make, e_build, e_lit, e_store, e_app, e_call, args, pus, pu, pu1, toDL, toD, toD1, toDs, elems, idsW, idsV, lenV, oint, cutOk, ldV, subD, newD, fillV, cellsV, one1, one0, zD, cD0, scs, St.upd, St.put, St.ev, St.keep, gt, go, tmOf, ofD, dOk, cV, cV0, renM, Value.oneCell', keepL, freshL, vaOL, outB, wkTm, subL, ninL, injL, nm, resW, resL, resV, shift, ren, ren2, ren1, renO, va, va2, va1, vaO, inDom, stA, Int.reduceEq, ↓reduceIte, reduceCtorEq, Nat.reduceEqDiff, Nat.reduceLT, Nat.reduceLeDiff, Nat.reduceAdd, Nat.reduceSub, Nat.reduceMul, Int.reduceToNat, Int.reduceLE, Int.reduceLT, ZT, Sp_overdublaw14_Small, Sp_overdubkeep_Within, Sp_super_Pack, Sp_super_Next, Sp_super_Choose, Sp_overdublaw14_wakes, x_ar37, x_bt23, x_bt3, x_el24, x_el37, x_es23, x_fo23_0, x_fo23_3, x_pl37, x_pt23, x_pt3, x_tk23, x_tk24, x_tk3, x_tk37, x_tk5, x_zc23, x_zc37, x_zc5, stT, bxT, hR]
          · have dl : decide ((i : Int) = n - 1) = false := decide_eq_false hl
            repeat' first
                    | (refine AW.seq ?_)
                    | (refine AW.block ?_)
                    | (refine AW.regl ZT_ok [0, 1, 2, 3, 6, 7, 8, 9, 10, 11, 12, 13, 14, 15, 29, 46, 53] ?_)
                    | (refine AW.regc (id := 4) ZT_ok follows [0, 1, 0, 7, 0, 31] (by kernel_rfl) [0, 1, 2, 3, 6, 7, 8, 9, 10, 11, 12, 13, 14, 15, 29, 46, 53] ?_)
                    | (refine then_n ?_)
                    | (refine then_r ?_)
                    | (refine then_x ?_)
                    | (refine block_x ?_)
                    | (refine block_o (by decide) ?_)
                    | (refine block_n ?_)
                    | (refine block_r ?_)
                    | (refine AW.skip ?_)
                    | (refine AW.ret ?_)
                    | (refine AW.exit ?_)
                    | (refine AW.cond rfl ?_ ?_ <;> (intro hc; first | cases hc | ((try rw [hc]); (try simp only [stH] at hc); (try (exfalso; omega)))))
                    | ((first
                          | (refine awl_none rfl fun K hK => ?_)
                          | (refine awl_nil ?_)
                          | (refine awl_some rfl rfl (Nat.le_of_ble_eq_true rfl) rfl rfl ?_ ?_ <;> (intro hc; first | cases hc | ((try rw [hc]); (try simp only [stH] at hc); (try (exfalso; omega)))) <;> (try intro K hK))
                          | (refine awl_skip rfl rfl (Nat.le_of_ble_eq_true rfl) rfl rfl ?_)
                          | (refine awc_none rfl fun K hK => ?_)
                          | (refine awc_some rfl rfl (Nat.le_of_ble_eq_true rfl) rfl rfl ?_ ?_ <;> (intro hc; first | cases hc | ((try rw [hc]); (try simp only [stH] at hc); (try (exfalso; omega)))) <;> (try intro K hK))
                          | exact each_nil
                          | (refine each_none rfl ?_ ?_ <;> (try intro bb K hK))
                          | (refine awc_leaf [some 22, some 23, some 24, some 25, some 7, none] cc_overdublaw14_SuperTurns_4 rfl (by kernel_rfl) (by kernel_rfl) ?_ ?_))
                       all_goals first
                         | (show Awl _ _ _ _ _; simp only [St.upd, St.put, List.nil_append, List.cons_append, List.singleton_append, List.append_nil])
                         | (show Awc _ _ _ _ _ _; simp only [St.upd, St.put, List.nil_append, List.cons_append, List.singleton_append, List.append_nil])
                         | (show Each _ _ _ _ _ _ _ _; skip)
                         | (simp (disch := omega) only [awl, ev1, evk, evc, gv, e_move, e_pick, e_bin, binW, e_un, e_cnv, e_conv, e_str, e_mark, e_copy, e_extract, e_len, e_mm, e_nil, e_index, e_field, e_load, e_fld, e_cut, e_alloc, e_box, e_make, e_build, e_lit, e_store, e_app, e_call, args, pus, pu, pu1, toDL, toD, toD1, toDs, elems, idsW, idsV, lenV, oint, cutOk, ldV, subD, newD, fillV, cellsV, one1, one0, zD, cD0, scs, St.upd, St.put, St.ev, St.keep, gt, go, tmOf, ofD, dOk, cV, cV0, renM, Value.oneCell', keepL, freshL, vaOL, outB, wkTm, subL, ninL, injL, nm, resW, resL, resV, shift, ren, ren2, ren1, renO, va, va2, va1, vaO, inDom, stA, Int.reduceEq, ↓reduceIte, reduceCtorEq, Nat.reduceEqDiff, Nat.reduceLT, Nat.reduceLeDiff, Nat.reduceAdd, Nat.reduceSub, Nat.reduceMul, Int.reduceToNat, Int.reduceLE, Int.reduceLT, ZT, Sp_overdublaw14_Small, Sp_overdubkeep_Within, Sp_super_Pack, Sp_super_Next, Sp_super_Choose, Sp_overdublaw14_wakes, x_ar37, x_bt23, x_bt3, x_el24, x_el37, x_es23, x_fo23_0, x_fo23_3, x_pl37, x_pt23, x_pt3, x_tk23, x_tk24, x_tk3, x_tk37, x_tk5, x_zc23, x_zc37, x_zc5, stT, bxT, hR, hnx, hcs, dl, exists_eq', Sg3, St.updIf, ifc_nil, gt_ifc, go_ifc, ite_self, Option.none_or, Option.some_or]
                            (try ((repeat' first | (refine And.intro ?_ ?_) | (intro hc; first | cases hc | ((try rw [hc]); (try simp only [stH] at hc); (try (exfalso; omega)))))
                                  all_goals first | (refine hK _ _ ?_; clear hK K; simp only [St.upd, St.put, List.nil_append, List.cons_append, List.singleton_append, List.append_nil]) | exact hK | omega))))
            refine ⟨i + 1, by omega, by omega, nm [(100, 56)], Wk.of ?_⟩
            simp (disch := omega) only [awl, ev1, evk, evc, gv, e_move, e_pick, e_bin, binW, e_un, e_cnv, e_conv, e_str, e_mark, e_copy, e_extract, e_len, e_mm, e_nil, e_index, e_field, e_load, e_fld, e_cut, e_alloc, e_box, e_make, e_build, e_lit, e_store, e_app, e_call, args, pus, pu, pu1, toDL, toD, toD1, toDs, elems, idsW, idsV, lenV, oint, cutOk, ldV, subD, newD, fillV, cellsV, one1, one0, zD, cD0, scs, St.upd, St.put, St.ev, St.keep, gt, go, tmOf, ofD, dOk, cV, cV0, renM, Value.oneCell', keepL, freshL, vaOL, outB, wkTm, subL, ninL, injL, nm, resW, resL, resV, shift, ren, ren2, ren1, renO, va, va2, va1, vaO, inDom, stA, Int.reduceEq, ↓reduceIte, reduceCtorEq, Nat.reduceEqDiff, Nat.reduceLT, Nat.reduceLeDiff, Nat.reduceAdd, Nat.reduceSub, Nat.reduceMul, Int.reduceToNat, Int.reduceLE, Int.reduceLT, ZT, Sp_overdublaw14_Small, Sp_overdubkeep_Within, Sp_super_Pack, Sp_super_Next, Sp_super_Choose, Sp_overdublaw14_wakes, x_ar37, x_bt23, x_bt3, x_el24, x_el37, x_es23, x_fo23_0, x_fo23_3, x_pl37, x_pt23, x_pt3, x_tk23, x_tk24, x_tk3, x_tk37, x_tk5, x_zc23, x_zc37, x_zc5, stT, bxT, s0, s1, rs]
            all_goals first | rfl | exact ⟨rfl, rfl⟩
  · intro i hi
    have hch := chT hg4 a5 hi
    have m0 : ((i : Int) + 1 + 1).tmod 2 = ((i % 2 : Nat) : Int) := by rw [Int.tmod_eq_emod_of_nonneg (by omega)]; omega
    have l0 := sloT_len l d r i 0
    have l1 := sloT_len l d r i 1
    have y0 : Byt (sloT l d r i 0) = True := eq_true (sloT_byt l d r i 0)
    have y1 : Byt (sloT l d r i 1) = True := eq_true (sloT_byt l d r i 1)
    have t0 : ((sloT l d r i 0).map mB).take 128 = (sloT l d r i 0).map mB := List.take_of_length_le (by rw [List.length_map, l0]; omega)
    have t1 : ((sloT l d r i 1).map mB).take 128 = (sloT l d r i 1).map mB := List.take_of_length_le (by rw [List.length_map, l1]; omega)
    clear hg4 z128
    repeat' first
                    | (refine AW.seq ?_)
                    | (refine AW.block ?_)
                    | (refine AW.regl ZT_ok [0, 1, 2, 3, 6, 7, 8, 9, 10, 11, 12, 13, 14, 15, 29, 46, 53] ?_)
                    | (refine AW.regc (id := 4) ZT_ok follows [0, 1, 0, 7, 0, 31] (by kernel_rfl) [0, 1, 2, 3, 6, 7, 8, 9, 10, 11, 12, 13, 14, 15, 29, 46, 53] ?_)
                    | (refine then_n ?_)
                    | (refine then_r ?_)
                    | (refine then_x ?_)
                    | (refine block_x ?_)
                    | (refine block_o (by decide) ?_)
                    | (refine block_n ?_)
                    | (refine block_r ?_)
                    | (refine AW.skip ?_)
                    | (refine AW.ret ?_)
                    | (refine AW.exit ?_)
                    | (refine AW.cond rfl ?_ ?_ <;> (intro hc; first | cases hc | ((try rw [hc]); (try simp only [stH] at hc); (try (exfalso; omega)))))
                    | ((first
                          | (refine awl_none rfl fun K hK => ?_)
                          | (refine awl_nil ?_)
                          | (refine awl_some rfl rfl (Nat.le_of_ble_eq_true rfl) rfl rfl ?_ ?_ <;> (intro hc; first | cases hc | ((try rw [hc]); (try simp only [stH] at hc); (try (exfalso; omega)))) <;> (try intro K hK))
                          | (refine awl_skip rfl rfl (Nat.le_of_ble_eq_true rfl) rfl rfl ?_)
                          | (refine awc_none rfl fun K hK => ?_)
                          | (refine awc_some rfl rfl (Nat.le_of_ble_eq_true rfl) rfl rfl ?_ ?_ <;> (intro hc; first | cases hc | ((try rw [hc]); (try simp only [stH] at hc); (try (exfalso; omega)))) <;> (try intro K hK))
                          | exact each_nil
                          | (refine each_none rfl ?_ ?_ <;> (try intro bb K hK))
                          | (refine awc_leaf [some 22, some 23, some 24, some 25, some 7, none] cc_overdublaw14_SuperTurns_4 rfl (by kernel_rfl) (by kernel_rfl) ?_ ?_))
                       all_goals first
                         | (show Awl _ _ _ _ _; simp only [St.upd, St.put, List.nil_append, List.cons_append, List.singleton_append, List.append_nil])
                         | (show Awc _ _ _ _ _ _; simp only [St.upd, St.put, List.nil_append, List.cons_append, List.singleton_append, List.append_nil])
                         | (show Each _ _ _ _ _ _ _ _; skip)
                         | (simp (disch := omega) only [awl, ev1, evk, evc, gv, e_move, e_pick, e_bin, binW, e_un, e_cnv, e_conv, e_str, e_mark, e_copy, e_extract, e_len, e_mm, e_nil, e_index, e_field, e_load, e_fld, e_cut, e_alloc, e_box, e_make, e_build, e_lit, e_store, e_app, e_call, args, pus, pu, pu1, toDL, toD, toD1, toDs, elems, idsW, idsV, lenV, oint, cutOk, ldV, subD, newD, fillV, cellsV, one1, one0, zD, cD0, scs, St.upd, St.put, St.ev, St.keep, gt, go, tmOf, ofD, dOk, cV, cV0, renM, Value.oneCell', keepL, freshL, vaOL, outB, wkTm, subL, ninL, injL, nm, resW, resL, resV, shift, ren, ren2, ren1, renO, va, va2, va1, vaO, inDom, stA, Int.reduceEq, ↓reduceIte, reduceCtorEq, Nat.reduceEqDiff, Nat.reduceLT, Nat.reduceLeDiff, Nat.reduceAdd, Nat.reduceSub, Nat.reduceMul, Int.reduceToNat, Int.reduceLE, Int.reduceLT, ZT, Sp_overdublaw14_Small, Sp_overdubkeep_Within, Sp_super_Pack, Sp_super_Next, Sp_super_Choose, Sp_overdublaw14_wakes, x_ar37, x_bt23, x_bt3, x_el24, x_el37, x_es23, x_fo23_0, x_fo23_3, x_pl37, x_pt23, x_pt3, x_tk23, x_tk24, x_tk3, x_tk37, x_tk5, x_zc23, x_zc37, x_zc5, stT, bxT, hch, m0, l0, l1, y0, y1, t0, t1, mB_inj, Sg3, St.updIf, ifc_nil, gt_ifc, go_ifc, ite_self, Option.none_or, Option.some_or]
                            (try ((repeat' first | (refine And.intro ?_ ?_) | (intro hc; first | cases hc | ((try rw [hc]); (try simp only [stH] at hc); (try (exfalso; omega)))))
                                  all_goals first | (refine hK _ _ ?_; clear hK K; simp only [St.upd, St.put, List.nil_append, List.cons_append, List.singleton_append, List.append_nil]) | exact hK | omega))))
    (refine Ends.of (nm []) (by first | exact .inl rfl | exact .inr rfl) ?_; simp (disch := omega) only [awl, ev1, evk, evc, gv, e_move, e_pick, e_bin, binW, e_un, e_cnv, e_conv, e_str, e_mark, e_copy, e_extract, e_len, e_mm, e_nil, e_index, e_field, e_load, e_fld, e_cut, e_alloc, e_box, e_make, e_build, e_lit, e_store, e_app, e_call, args, pus, pu, pu1, toDL, toD, toD1, toDs, elems, idsW, idsV, lenV, oint, cutOk, ldV, subD, newD, fillV, cellsV, one1, one0, zD, cD0, scs, St.upd, St.put, St.ev, St.keep, gt, go, tmOf, ofD, dOk, cV, cV0, renM, Value.oneCell', keepL, freshL, vaOL, outB, wkTm, subL, ninL, injL, nm, resW, resL, resV, shift, ren, ren2, ren1, renO, va, va2, va1, vaO, inDom, stA, Int.reduceEq, ↓reduceIte, reduceCtorEq, Nat.reduceEqDiff, Nat.reduceLT, Nat.reduceLeDiff, Nat.reduceAdd, Nat.reduceSub, Nat.reduceMul, Int.reduceToNat, Int.reduceLE, Int.reduceLT, ZT, Sp_overdublaw14_Small, Sp_overdubkeep_Within, Sp_super_Pack, Sp_super_Next, Sp_super_Choose, Sp_overdublaw14_wakes, x_ar37, x_bt23, x_bt3, x_el24, x_el37, x_es23, x_fo23_0, x_fo23_3, x_pl37, x_pt23, x_pt3, x_tk23, x_tk24, x_tk3, x_tk37, x_tk5, x_zc23, x_zc37, x_zc5])
theorem ent_overdublaw14_SuperTurns : Ent Try.prog 5 := ⟨_, Try.func5, rfl, by decide⟩
end Go.Proofs.Ytceoegbljkbgeaa.Am
