import Derived.Test.YtaiaackeljlbfaaZC2
set_option linter.unusedVariables false
set_option linter.unusedSimpArgs false
set_option maxRecDepth 10000
set_option maxHeartbeats 0
namespace Go.Proofs.Ytaiaackeljlbfaa.Am
open Go Go.RowKit Go.Proofs
theorem putB4c {n : Int} (h0 : 0 ≤ n) (h1 : n < 4294967296) : leV (putB (max 0 n) 4) = n := by
  rw [putB_leB, show max 0 n = n by omega]
  exact leV_leB_small h0 h1
theorem putB1c {n : Int} (h0 : 0 ≤ n) (h1 : n < 256) : leV (putB (max 0 n) 1) = n := by
  rw [putB_leB, show max 0 n = n by omega]
  exact leV_leB_small h0 h1
theorem celP_split {lf nu pt ps : Int} {dt : List Int} (h : dt.length ≤ 112) : ∃ R, celP lf nu pt ps dt = putB (max 0 lf) 4 ++ (putB (max 0 nu) 4 ++ (putB (max 0 pt) 1 ++ (putB (max 0 ps) 1 ++ (putB (max 0 (dt.length : Int)) 1 ++ ([206] ++ (dt ++ R)))))) := by
  have hl := celL_len lf nu pt ps dt
  refine ⟨List.replicate (124 - (celL lf nu pt ps dt).length) 0 ++ sumL (padL (celL lf nu pt ps dt)), ?_⟩
  unfold celP sealL
  have e : padL (celL lf nu pt ps dt) = celL lf nu pt ps dt ++ List.replicate (124 - (celL lf nu pt ps dt).length) 0 := by
    unfold padL
    rw [show min (celL lf nu pt ps dt).length 124 = (celL lf nu pt ps dt).length by omega, List.take_length, List.drop_replicate]
  rw [e]
  generalize sumL _ = S
  generalize List.replicate _ (0 : Int) = Z
  unfold celL
  simp only [List.append_assoc]
theorem reads_cel {lf nu pt ps : Int} {dt : List Int} (h : mayC lf nu pt ps dt.length) :
    cL (celP lf nu pt ps dt) = lf ∧ cN (celP lf nu pt ps dt) = nu ∧ cI (celP lf nu pt ps dt) = pt ∧ cQ (celP lf nu pt ps dt) = ps ∧ cS (celP lf nu pt ps dt) = dt.length ∧ cD (celP lf nu pt ps dt) = dt := by
  obtain ⟨⟨a1, a2⟩, ⟨a3, a4⟩, ⟨a5, a6⟩, ⟨a7, a8⟩, a9⟩ := h
  obtain ⟨R, e0⟩ := celP_split (lf := lf) (nu := nu) (pt := pt) (ps := ps) a9
  generalize celP lf nu pt ps dt = P at *
  have l4 : ∀ n : Int, (putB n 4).length = 4 := fun n => putB_len n 4
  have l1 : ∀ n : Int, (putB n 1).length = 1 := fun n => putB_len n 1
  have d4 : ∀ (x : Int) (t : List Int), (putB x 4 ++ t).drop 4 = t := fun x t => List.drop_left' (l4 x)
  have d1 : ∀ (x : Int) (t : List Int), (putB x 1 ++ t).drop 1 = t := fun x t => List.drop_left' (l1 x)
  have t4 : ∀ (x : Int) (t : List Int), (putB x 4 ++ t).take 4 = putB x 4 := fun x t => List.take_left' (l4 x)
  have t1 : ∀ (x : Int) (t : List Int), (putB x 1 ++ t).take 1 = putB x 1 := fun x t => List.take_left' (l1 x)
  have e1 : P.drop 4 = putB (max 0 nu) 4 ++ (putB (max 0 pt) 1 ++ (putB (max 0 ps) 1 ++ (putB (max 0 (dt.length : Int)) 1 ++ ([206] ++ (dt ++ R))))) := by rw [e0, d4]
  have e2 : P.drop 8 = putB (max 0 pt) 1 ++ (putB (max 0 ps) 1 ++ (putB (max 0 (dt.length : Int)) 1 ++ ([206] ++ (dt ++ R)))) := by rw [show 8 = 4 + 4 from rfl, ← List.drop_drop, e1, d4]
  have e3 : P.drop 9 = putB (max 0 ps) 1 ++ (putB (max 0 (dt.length : Int)) 1 ++ ([206] ++ (dt ++ R))) := by rw [show 9 = 8 + 1 from rfl, ← List.drop_drop, e2, d1]
  have e4 : P.drop 10 = putB (max 0 (dt.length : Int)) 1 ++ ([206] ++ (dt ++ R)) := by rw [show 10 = 9 + 1 from rfl, ← List.drop_drop, e3, d1]
  have e5 : P.drop 12 = dt ++ R := by
    rw [show 12 = (10 + 1) + 1 from rfl, ← List.drop_drop, ← List.drop_drop, e4, d1]; rfl
  have hS : cS P = dt.length := by unfold cS; rw [e4, t1, putB1c (by omega) (by omega)]
  refine ⟨?_, ?_, ?_, ?_, hS, ?_⟩
  · unfold cL; rw [e0, t4, putB4c (by omega) (by omega)]
  · unfold cN; rw [e1, t4, putB4c (by omega) (by omega)]
  · unfold cI; rw [e2, t1, putB1c (by omega) (by omega)]
  · unfold cQ; rw [e3, t1, putB1c (by omega) (by omega)]
  · unfold cD; rw [e5, hS]
    exact List.take_left' (by omega)
theorem cel_back {lf nu pt ps : Int} {dt : List Int} (h : mayC lf nu pt ps dt.length) : celOut (celP lf nu pt ps dt) = celYes lf nu pt ps dt := by
  obtain ⟨e1, e2, e3, e4, e5, e6⟩ := reads_cel h
  have ho : celOk (celP lf nu pt ps dt) := by
    unfold celOk
    rw [e1, e2, e3, e4, e5, e6]
    exact ⟨sealL_openc _, by have := h.2.2.2.2; omega, h, rfl⟩
  rw [celOut, if_pos ho, e1, e2, e3, e4, e6]
theorem cel_form (b : List Int) : (celOut b = celFail) ∨ ∃ (p q r s : Int) (dt : List Int), dt.length ≤ 112 ∧ celOut b = celYes p q r s dt := by
  unfold celOut
  split
  · rename_i h
    exact .inr ⟨_, _, _, _, _, h.2.2.1.2.2.2.2, rfl⟩
  · exact .inl rfl
theorem within_rngc {v n : Int} (hn : 1 ≤ n) : 0 ≤ within v n ∧ within v n < n := by
  unfold within
  rw [if_neg (by omega)]
  have h1 := Int.tmod_lt_of_pos v (show 0 < n by omega)
  have h2 := Int.lt_tmod_of_pos v (show 0 < n by omega)
  split <;> omega
noncomputable def C5 : Env := ⟨Try.prog, fun f ds out => (f = 10 ∧ Sp_overdubkeep_Within ds out) ∨ (f = 16 ∧ Sp_overdubkeep_Cut_byte ds out), Es, fun _ => false⟩
theorem C5_sp : ∀ f ds out, C5.Sp f ds out → Ent C5.P f ∧ Good C5.P f (fun a b => a = ds ∧ b = out) := by
  rintro f ds out (⟨rfl, h⟩ | ⟨rfl, h⟩)
  · exact ⟨ent_overdubkeep_Within, good_overdubkeep_Within.one h⟩
  · exact ⟨ent_overdubkeep_Cut_byte, good_overdubkeep_Cut_byte.one h⟩
theorem C5_ok : C5.Ok := ⟨C5_sp, Es_ok⟩
def smallC (lf nu pt ps : Int) (dt : List Int) : Out := ⟨.agg [.d (.v (.int .i64 (1 + within lf 3))), .d (.v (.int .i64 (1 + within nu 4))), .d (.v (.int .i64 (within pt (1 + within ps 5)))), .d (.v (.int .i64 (1 + within ps 5))), .d (.list ((dt.take 112).map mB))], []⟩
def Sp_overdublaw15_small (ds : List D) (out : Out) : Prop := ∃ (lf nu pt ps : Int) (dt : List Int), ds = [.agg [.v (.int .i64 lf), .v (.int .i64 nu), .v (.int .i64 pt), .v (.int .i64 ps), .list (dt.map mB)]] ∧ dt.length ≤ 9223372036854775807 ∧ out = smallC lf nu pt ps dt
def cc_overdublaw15_small_2 : List (List (Option Bool)) := [[some false, some false, some false, some false, none, none, some false, some false, none, none, none, some false, none, none, none, some false, some false, some false], [some true, some false, some false, some false, none, none, some false, some false, none, none, none, some false, none, none, none, some false, some false, some false], [some true, some true, some false, some false, none, none, some false, some false, none, none, none, some false, none, none, none, some false, some false, some false], [some true, some true, some true, some false, none, none, none, none, none, none, none, none, none, none, none, none, some false, some false], [none, none, none, none, some false, some false, some false, some false, none, none, none, some false, none, none, none, some false, some false, some false], [none, none, none, none, some true, some false, some false, some false, none, none, none, some false, none, none, none, some false, some false, some false], [some true, some true, some true, none, some true, some true, some false, some false, none, none, none, some false, none, none, none, some false, some false, some false], [some true, some true, some true, none, some true, some true, some true, some false, none, none, none, none, none, none, none, none, some false, some false], [none, none, none, none, none, none, none, none, some false, some false, none, some false, none, none, none, some false, some false, some false], [none, none, none, none, none, none, none, none, some true, some false, none, some false, none, none, none, some false, some false, some false], [none, none, none, none, none, none, none, none, none, none, some false, some false, none, none, none, some false, some false, some false], [some true, some true, some true, none, some true, some true, some true, none, some true, some true, some true, some false, none, none, none, some false, some false, some false], [none, none, none, none, none, none, none, none, none, none, none, none, some false, none, none, none, some false, some false], [none, none, none, none, none, none, none, none, none, none, none, none, none, some false, some false, some false, some false, some false], [none, none, none, none, none, none, none, none, none, none, none, none, none, some true, some false, some false, some false, some false], [some true, some true, some true, none, some true, some true, some true, none, some true, some true, some true, some true, none, some true, some true, some false, some false, some false], [some true, some true, some true, some true, some true, some true, some true, some true, some true, some true, some true, some true, some true, some true, some true, some true, some false, some false], [some true, some true, some true, some true, some true, some true, some true, some true, some true, some true, some true, some true, some true, some true, some true, some true, some true, some false]]
theorem good_overdublaw15_small : Good Try.prog 17 Sp_overdublaw15_small := by
  refine good_body (E := C5) (nt := 25) (rs := #[.cell 2 29]) Try.func17 rfl rfl rfl ?_
  rintro ds out ⟨lf, nu, pt, ps, dt, rfl, hl, rfl⟩
  refine ⟨by simp, ?_⟩
  have w1 := within_rngc (v := lf) (n := 3) (by omega)
  have w2 := within_rngc (v := nu) (n := 4) (by omega)
  have w3 := within_rngc (v := ps) (n := 5) (by omega)
  have e1 : IntKind.i64.wrap (1 + within lf 3) = 1 + within lf 3 := wrap_id _ (by omega) (by omega)
  have e2 : IntKind.i64.wrap (1 + within nu 4) = 1 + within nu 4 := wrap_id _ (by omega) (by omega)
  have e3 : IntKind.i64.wrap (1 + within ps 5) = 1 + within ps 5 := wrap_id _ (by omega) (by omega)
  have hdt : (dt.map mB).take dt.length = dt.map mB := List.take_of_length_le (by simp)
  have hn : ((112 : Int)).toNat = 112 := rfl
  repeat' first
                    | (refine AW.seq ?_)
                    | (refine AW.block ?_)
                    | (refine AW.regl C5_ok [0, 1, 2, 3] ?_)
                    | (refine AW.regc (id := 2) C5_ok follows [0, 1, 3, 7, 0, 16, 55, 119, 0, 256, 0, 1911, 0, 0, 8192, 28535, 65535, 131071] (by kernel_rfl) [0, 1, 2, 3] ?_)
                    | (refine then_n ?_)
                    | (refine then_r ?_)
                    | (refine then_x ?_)
                    | (refine block_x ?_)
                    | (refine block_o (by decide) ?_)
                    | (refine block_n ?_)
                    | (refine block_r ?_)
                    | (refine AW.skip ?_)
                    | (refine AW.ret ?_)
                    | (refine AW.exit ?_)
                    | (refine AW.cond rfl ?_ ?_ <;> (intro hc; first | cases hc | ((try rw [hc]); (try simp only [stH] at hc); (try (exfalso; omega)))))
                    | ((first
                          | (refine awl_none rfl fun K hK => ?_)
                          | (refine awl_nil ?_)
                          | (refine awl_some rfl rfl (Nat.le_of_ble_eq_true rfl) rfl rfl ?_ ?_ <;> (intro hc; first | cases hc | ((try rw [hc]); (try simp only [stH] at hc); (try (exfalso; omega)))) <;> (try intro K hK))
                          | (refine awl_skip rfl rfl (Nat.le_of_ble_eq_true rfl) rfl rfl ?_)
                          | (refine awc_none rfl fun K hK => ?_)
                          | (refine awc_some rfl rfl (Nat.le_of_ble_eq_true rfl) rfl rfl ?_ ?_ <;> (intro hc; first | cases hc | ((try rw [hc]); (try simp only [stH] at hc); (try (exfalso; omega)))) <;> (try intro K hK))
                          | exact each_nil
                          | (refine each_none rfl ?_ ?_ <;> (try intro bb K hK))
                          | (refine awc_leaf [some 8, some 9, some 10, some 11, some 12, some 13, some 14, some 15, some 16, some 17, some 18, some 19, some 20, some 21, some 22, some 23, some 24, none] cc_overdublaw15_small_2 rfl (by kernel_rfl) (by kernel_rfl) ?_ ?_))
                       all_goals first
                         | (show Awl _ _ _ _ _; simp only [St.upd, St.put, List.nil_append, List.cons_append, List.singleton_append, List.append_nil])
                         | (show Awc _ _ _ _ _ _; simp only [St.upd, St.put, List.nil_append, List.cons_append, List.singleton_append, List.append_nil])
                         | (show Each _ _ _ _ _ _ _ _; skip)
                         | (simp (disch := omega) only [awl, ev1, evk, evc, gv, e_move, e_pick, e_bin, binW, e_un, e_cnv, e_conv, e_str, e_mark, e_copy, e_extract, e_len, e_mm, e_nil, e_index, e_field, e_load, e_fld, e_cut, e_alloc, e_box, e_make, e_build, e_lit, e_store, e_app, e_call, e_callF, idsA, killL, so, args, pus, pu, pu1, toDL, toD, toD1, toDs, elems, idsW, idsV, lenV, oint, cutOk, ldV, subD, newD, fillV, cellsV, one1, one0, zD, cD0, scs, St.upd, St.put, St.ev, St.keep, gt, go, tmOf, ofD, dOk, cV, cV0, renM, Value.oneCell', keepL, freshL, vaOL, outB, wkTm, subL, ninL, injL, nm, resW, resL, resV, shift, ren, ren2, ren1, renO, va, va2, va1, vaO, inDom, stA, Int.reduceEq, ↓reduceIte, reduceCtorEq, Nat.reduceEqDiff, Nat.reduceLT, Nat.reduceLeDiff, Nat.reduceAdd, Nat.reduceSub, Nat.reduceMul, Int.reduceToNat, Int.reduceLE, Int.reduceLT, C5, Sp_overdubkeep_Within, Sp_overdubkeep_Cut_byte, x_bt3, x_fo29_0, x_fo29_1, x_fo29_2, x_fo29_3, x_fo29_4, x_pl29, x_pt3, x_tk27, x_tk29, x_tk3, x_zc29, e1, e2, e3, hdt, hn, mB_inj, Sg3, St.updIf, ifc_nil, gt_ifc, go_ifc, ite_self, Option.none_or, Option.some_or]
                            (try ((repeat' first | (refine And.intro ?_ ?_) | (intro hc; first | cases hc | ((try rw [hc]); (try simp only [stH] at hc); (try (exfalso; omega)))))
                                  all_goals first | (refine hK _ _ ?_; clear hK K; simp only [St.upd, St.put, List.nil_append, List.cons_append, List.singleton_append, List.append_nil]) | exact hK | omega))))
  (refine Ends.of (nm []) (by first | exact .inl rfl | exact .inr rfl) ?_; simp (disch := omega) only [awl, ev1, evk, evc, gv, e_move, e_pick, e_bin, binW, e_un, e_cnv, e_conv, e_str, e_mark, e_copy, e_extract, e_len, e_mm, e_nil, e_index, e_field, e_load, e_fld, e_cut, e_alloc, e_box, e_make, e_build, e_lit, e_store, e_app, e_call, e_callF, idsA, killL, so, args, pus, pu, pu1, toDL, toD, toD1, toDs, elems, idsW, idsV, lenV, oint, cutOk, ldV, subD, newD, fillV, cellsV, one1, one0, zD, cD0, scs, St.upd, St.put, St.ev, St.keep, gt, go, tmOf, ofD, dOk, cV, cV0, renM, Value.oneCell', keepL, freshL, vaOL, outB, wkTm, subL, ninL, injL, nm, resW, resL, resV, shift, ren, ren2, ren1, renO, va, va2, va1, vaO, inDom, stA, Int.reduceEq, ↓reduceIte, reduceCtorEq, Nat.reduceEqDiff, Nat.reduceLT, Nat.reduceLeDiff, Nat.reduceAdd, Nat.reduceSub, Nat.reduceMul, Int.reduceToNat, Int.reduceLE, Int.reduceLT, C5, Sp_overdubkeep_Within, Sp_overdubkeep_Cut_byte, x_bt3, x_fo29_0, x_fo29_1, x_fo29_2, x_fo29_3, x_fo29_4, x_pl29, x_pt3, x_tk27, x_tk29, x_tk3, x_zc29, smallC])
theorem ent_overdublaw15_small : Ent Try.prog 17 := ⟨_, Try.func17, rfl, by decide⟩
noncomputable def C6 : Env := ⟨Try.prog, fun f ds out => (f = 20 ∧ Sp_overdubkeep_Same_byte ds out), Es, fun _ => false⟩
theorem C6_sp : ∀ f ds out, C6.Sp f ds out → Ent C6.P f ∧ Good C6.P f (fun a b => a = ds ∧ b = out) := by
  rintro f ds out ⟨rfl, h⟩
  exact ⟨ent_overdubkeep_Same_byte, good_overdubkeep_Same_byte.one h⟩
theorem C6_ok : C6.Ok := ⟨C6_sp, Es_ok⟩
def Sp_overdubkeep_Cell (ds : List D) (out : Out) : Prop := ∃ (lf nu pt ps : Int) (dt : List Int), ds = [.agg [.v (.int .i64 lf), .v (.int .i64 nu), .v (.int .i64 pt), .v (.int .i64 ps), .list (dt.map mB)], .agg [.v (.int .i64 lf), .v (.int .i64 nu), .v (.int .i64 pt), .v (.int .i64 ps), .list (dt.map mB)]] ∧ dt.length ≤ 9223372036854775807 ∧ out = ⟨.d (.v (.bool true)), []⟩
theorem good_overdubkeep_Cell : Good Try.prog 15 Sp_overdubkeep_Cell := by
  refine good_body (E := C6) (nt := 38) (rs := #[.tmp 4]) Try.func15 rfl rfl rfl ?_
  rintro ds out ⟨lf, nu, pt, ps, dt, rfl, hl, rfl⟩
  refine ⟨by simp, ?_⟩
  have hdt : (dt.map mB).take dt.length = dt.map mB := List.take_of_length_le (by simp)
  repeat' first
                    | (refine AW.seq ?_)
                    | (refine AW.block ?_)
                    | (refine AW.regl C6_ok [0, 1, 2, 3, 4] ?_)
                    | (refine then_n ?_)
                    | (refine then_r ?_)
                    | (refine then_x ?_)
                    | (refine block_x ?_)
                    | (refine block_o (by decide) ?_)
                    | (refine block_n ?_)
                    | (refine block_r ?_)
                    | (refine AW.skip ?_)
                    | (refine AW.ret ?_)
                    | (refine AW.exit ?_)
                    | (refine AW.cond rfl ?_ ?_ <;> (intro hc; first | cases hc | ((try rw [hc]); (try simp only [stH] at hc); (try (exfalso; omega)))))
                    | ((first
                          | (refine awl_none rfl fun K hK => ?_)
                          | (refine awl_nil ?_)
                          | (refine awl_some rfl rfl (Nat.le_of_ble_eq_true rfl) rfl rfl ?_ ?_ <;> (intro hc; first | cases hc | ((try rw [hc]); (try simp only [stH] at hc); (try (exfalso; omega)))) <;> (try intro K hK))
                          | (refine awl_skip rfl rfl (Nat.le_of_ble_eq_true rfl) rfl rfl ?_))
                       all_goals first
                         | (show Awl _ _ _ _ _; simp only [St.upd, St.put, List.nil_append, List.cons_append, List.singleton_append, List.append_nil])
                         | (simp (disch := omega) only [awl, ev1, evk, evc, gv, e_move, e_pick, e_bin, binW, e_un, e_cnv, e_conv, e_str, e_mark, e_copy, e_extract, e_len, e_mm, e_nil, e_index, e_field, e_load, e_fld, e_cut, e_alloc, e_box, e_make, e_build, e_lit, e_store, e_app, e_call, e_callF, idsA, killL, so, args, pus, pu, pu1, toDL, toD, toD1, toDs, elems, idsW, idsV, lenV, oint, cutOk, ldV, subD, newD, fillV, cellsV, one1, one0, zD, cD0, scs, St.upd, St.put, St.ev, St.keep, gt, go, tmOf, ofD, dOk, cV, cV0, renM, Value.oneCell', keepL, freshL, vaOL, outB, wkTm, subL, ninL, injL, nm, resW, resL, resV, shift, ren, ren2, ren1, renO, va, va2, va1, vaO, inDom, stA, Int.reduceEq, ↓reduceIte, reduceCtorEq, Nat.reduceEqDiff, Nat.reduceLT, Nat.reduceLeDiff, Nat.reduceAdd, Nat.reduceSub, Nat.reduceMul, Int.reduceToNat, Int.reduceLE, Int.reduceLT, C6, Sp_overdubkeep_Same_byte, x_bt3, x_fo29_0, x_fo29_1, x_fo29_2, x_fo29_3, x_fo29_4, x_pt3, x_tk27, x_tk29, x_tk3, hdt, mB_inj]
                            (try ((repeat' first | (refine And.intro ?_ ?_) | (intro hc; first | cases hc | ((try rw [hc]); (try simp only [stH] at hc); (try (exfalso; omega)))))
                                  all_goals first | (refine hK _ _ ?_; clear hK K; simp only [St.upd, St.put, List.nil_append, List.cons_append, List.singleton_append, List.append_nil]) | exact hK | omega))))
  (refine Ends.of (nm []) (by first | exact .inl rfl | exact .inr rfl) ?_; simp (disch := omega) only [awl, ev1, evk, evc, gv, e_move, e_pick, e_bin, binW, e_un, e_cnv, e_conv, e_str, e_mark, e_copy, e_extract, e_len, e_mm, e_nil, e_index, e_field, e_load, e_fld, e_cut, e_alloc, e_box, e_make, e_build, e_lit, e_store, e_app, e_call, e_callF, idsA, killL, so, args, pus, pu, pu1, toDL, toD, toD1, toDs, elems, idsW, idsV, lenV, oint, cutOk, ldV, subD, newD, fillV, cellsV, one1, one0, zD, cD0, scs, St.upd, St.put, St.ev, St.keep, gt, go, tmOf, ofD, dOk, cV, cV0, renM, Value.oneCell', keepL, freshL, vaOL, outB, wkTm, subL, ninL, injL, nm, resW, resL, resV, shift, ren, ren2, ren1, renO, va, va2, va1, vaO, inDom, stA, Int.reduceEq, ↓reduceIte, reduceCtorEq, Nat.reduceEqDiff, Nat.reduceLT, Nat.reduceLeDiff, Nat.reduceAdd, Nat.reduceSub, Nat.reduceMul, Int.reduceToNat, Int.reduceLE, Int.reduceLT, C6, Sp_overdubkeep_Same_byte, x_bt3, x_fo29_0, x_fo29_1, x_fo29_2, x_fo29_3, x_fo29_4, x_pt3, x_tk27, x_tk29, x_tk3])
theorem ent_overdubkeep_Cell : Ent Try.prog 15 := ⟨_, Try.func15, rfl, by decide⟩
def cel0 : D := .agg [.v (.int .i64 1), .v (.int .i64 1), .v (.int .i64 0), .v (.int .i64 2), .list ((List.replicate 112 (0 : Int)).map mB)]
def cel1 : D := .agg [.v (.int .i64 1), .v (.int .i64 1), .v (.int .i64 1), .v (.int .i64 2), .list ((List.replicate 1 (0 : Int)).map mB)]
def Sp_cells_Split (ds : List D) (out : Out) : Prop := ds = [.v (.int .i64 1), .v (.int .i64 1), .list ((List.replicate 113 (0 : Int)).map mB)] ∧ out = ⟨.tup [.sl 0 5 0 2 true, .d (.v (.int .i64 0))], [(0, .row 29 5 [cel0, cel1])]⟩
theorem good_cells_Split : Good Try.prog 11 Sp_cells_Split := by
  refine good_body (E := E0) (nt := 44) (rs := #[.tmp 6, .tmp 7]) Try.func11 rfl rfl rfl ?_
  rintro ds out ⟨rfl, rfl⟩
  refine ⟨by simp, ?_⟩
  have r0 : ((List.replicate 113 (0 : Int)).map mB).take 112 = (List.replicate 112 (0 : Int)).map mB := by rw [← List.map_take, List.take_replicate]; rfl
  have r1 : ((List.replicate 113 (0 : Int)).map mB).drop 112 = (List.replicate 1 (0 : Int)).map mB := by rw [← List.map_drop, List.drop_replicate]
  have r2 : ((List.replicate 1 (0 : Int)).map mB).take 1 = (List.replicate 1 (0 : Int)).map mB := rfl
  have n113 : (List.replicate 113 (0 : Int)).length = 113 := by simp
  have n112 : (List.replicate 112 (0 : Int)).length = 112 := by simp
  have n1 : (List.replicate 1 (0 : Int)).length = 1 := rfl
  have tA : ((List.replicate 113 (0 : Int)).map mB).take 113 = (List.replicate 113 (0 : Int)).map mB := List.take_of_length_le (by simp)
  generalize List.replicate 113 (0 : Int) = A at *
  have hc0 : D.agg [.v (.int .i64 1), .v (.int .i64 1), .v (.int .i64 0), .v (.int .i64 2), .list ((List.replicate 112 (0 : Int)).map mB)] = cel0 := rfl
  have hc1 : D.agg [.v (.int .i64 1), .v (.int .i64 1), .v (.int .i64 1), .v (.int .i64 2), .list ((List.replicate 1 (0 : Int)).map mB)] = cel1 := rfl
  have t112 : ((List.replicate 112 (0 : Int)).map mB).take 112 = (List.replicate 112 (0 : Int)).map mB := List.take_of_length_le (by simp)
  generalize List.replicate 112 (0 : Int) = B at *
  generalize List.replicate 1 (0 : Int) = C at *
  have dz : (min (113 : Int) 112) = 112 := by decide
  have dy : (min (1 : Int) 112) = 1 := by decide
  have qm : max (1 : Int) 2 = 2 := by decide
  have tn : (112 : Int).toNat = 112 := rfl
  have tm1 : (1 : Int).toNat = 1 := rfl
  have q2 : ((113 : Int) + 112 - 1).tdiv 112 = 2 := rfl
  repeat' first
                    | (refine AW.seq ?_)
                    | (refine AW.block ?_)
                    | (refine AW.regl E0_ok [0, 1, 2, 6, 7, 8, 9, 10, 11, 19, 20, 21, 22] ?_)
                    | (refine then_n ?_)
                    | (refine then_r ?_)
                    | (refine then_x ?_)
                    | (refine block_x ?_)
                    | (refine block_o (by decide) ?_)
                    | (refine block_n ?_)
                    | (refine block_r ?_)
                    | (refine AW.skip ?_)
                    | (refine AW.ret ?_)
                    | (refine AW.exit ?_)
                    | (refine AW.cond rfl ?_ ?_ <;> (intro hc; first | cases hc | ((try rw [hc]); (try simp only [stH] at hc); (try (exfalso; omega)))))
                    | ((first
                          | (refine awl_none rfl fun K hK => ?_)
                          | (refine awl_nil ?_)
                          | (refine awl_some rfl rfl (Nat.le_of_ble_eq_true rfl) rfl rfl ?_ ?_ <;> (intro hc; first | cases hc | ((try rw [hc]); (try simp only [stH] at hc); (try (exfalso; omega)))) <;> (try intro K hK))
                          | (refine awl_skip rfl rfl (Nat.le_of_ble_eq_true rfl) rfl rfl ?_))
                       all_goals first
                         | (show Awl _ _ _ _ _; simp only [St.upd, St.put, List.nil_append, List.cons_append, List.singleton_append, List.append_nil])
                         | (simp (disch := omega) only [awl, ev1, evk, evc, gv, e_move, e_pick, e_bin, binW, e_un, e_cnv, e_conv, e_str, e_mark, e_copy, e_extract, e_len, e_mm, e_nil, e_index, e_field, e_load, e_fld, e_cut, e_alloc, e_box, e_make, e_build, e_lit, e_store, e_app, e_call, e_callF, idsA, killL, so, args, pus, pu, pu1, toDL, toD, toD1, toDs, elems, idsW, idsV, lenV, oint, cutOk, ldV, subD, newD, fillV, cellsV, one1, one0, zD, cD0, scs, St.upd, St.put, St.ev, St.keep, gt, go, tmOf, ofD, dOk, cV, cV0, renM, Value.oneCell', keepL, freshL, vaOL, outB, wkTm, subL, ninL, injL, nm, resW, resL, resV, shift, ren, ren2, ren1, renO, va, va2, va1, vaO, inDom, stA, Int.reduceEq, ↓reduceIte, reduceCtorEq, Nat.reduceEqDiff, Nat.reduceLT, Nat.reduceLeDiff, Nat.reduceAdd, Nat.reduceSub, Nat.reduceMul, Int.reduceToNat, Int.reduceLE, Int.reduceLT, E0, x_bt3, x_el23, x_el27, x_pl29, x_pt3, x_slt23, x_slt27, x_tk29, x_zc29, x_zc5, n113, q2, qm]
                            (try ((repeat' first | (refine And.intro ?_ ?_) | (intro hc; first | cases hc | ((try rw [hc]); (try simp only [stH] at hc); (try (exfalso; omega)))))
                                  all_goals first | (refine hK _ _ ?_; clear hK K; simp only [St.upd, St.put, List.nil_append, List.cons_append, List.singleton_append, List.append_nil]) | exact hK | omega))))
  refine AW.loop_wk (fun k : Nat => ⟨[(0, .d (.v (.int .i64 1))), (1, .d (.v (.int .i64 1))), (2, .d (.list ((if k = 0 then A else if k = 1 then C else []).map mB))), (8, .d (.v (.int .i64 2))), (9, .sl 100 5 0 k true), (20, .d (.v (.int .i64 2))), (21, .d (.v (.int .i64 k)))], [(100, .row 29 5 ([D.agg [.v (.int .i64 1), .v (.int .i64 1), .v (.int .i64 0), .v (.int .i64 2), .list (B.map mB)], D.agg [.v (.int .i64 1), .v (.int .i64 1), .v (.int .i64 1), .v (.int .i64 2), .list (C.map mB)]].take k))], 44⟩)
    (fun k => k ≤ 2) (fun k => 2 - k) 0 (by omega) (fun w0 oa a w hs => Wk.sr (ρ := nm []) (Wk.of ?_) (nil_sr 9 100 29 5 rfl (by simp) rfl (by decide) hs)) ?_
  · simp (disch := omega) only [awl, ev1, evk, evc, gv, e_move, e_pick, e_bin, binW, e_un, e_cnv, e_conv, e_str, e_mark, e_copy, e_extract, e_len, e_mm, e_nil, e_index, e_field, e_load, e_fld, e_cut, e_alloc, e_box, e_make, e_build, e_lit, e_store, e_app, e_call, e_callF, idsA, killL, so, args, pus, pu, pu1, toDL, toD, toD1, toDs, elems, idsW, idsV, lenV, oint, cutOk, ldV, subD, newD, fillV, cellsV, one1, one0, zD, cD0, scs, St.upd, St.put, St.ev, St.keep, gt, go, tmOf, ofD, dOk, cV, cV0, renM, Value.oneCell', keepL, freshL, vaOL, outB, wkTm, subL, ninL, injL, nm, resW, resL, resV, shift, ren, ren2, ren1, renO, va, va2, va1, vaO, inDom, stA, Int.reduceEq, ↓reduceIte, reduceCtorEq, Nat.reduceEqDiff, Nat.reduceLT, Nat.reduceLeDiff, Nat.reduceAdd, Nat.reduceSub, Nat.reduceMul, Int.reduceToNat, Int.reduceLE, Int.reduceLT, E0, x_bt3, x_el23, x_el27, x_pl29, x_pt3, x_slt23, x_slt27, x_tk29, x_zc29, x_zc5]
  · intro k hk
    rcases (show k = 0 ∨ k = 1 ∨ k = 2 by omega) with rfl | rfl | rfl
    · have i0 : (if (0 : Nat) = 0 then A else if (0 : Nat) = 1 then C else []) = A := rfl
      rw [i0]
      repeat' first
                    | (refine AW.seq ?_)
                    | (refine AW.block ?_)
                    | (refine AW.regl E0_ok [0, 1, 2, 6, 7, 8, 9, 10, 11, 19, 20, 21, 22] ?_)
                    | (refine then_n ?_)
                    | (refine then_r ?_)
                    | (refine then_x ?_)
                    | (refine block_x ?_)
                    | (refine block_o (by decide) ?_)
                    | (refine block_n ?_)
                    | (refine block_r ?_)
                    | (refine AW.skip ?_)
                    | (refine AW.ret ?_)
                    | (refine AW.exit ?_)
                    | (refine AW.cond rfl ?_ ?_ <;> (intro hc; first | cases hc | ((try rw [hc]); (try simp only [stH] at hc); (try (exfalso; omega)))))
                    | ((first
                          | (refine awl_none rfl fun K hK => ?_)
                          | (refine awl_nil ?_)
                          | (refine awl_some rfl rfl (Nat.le_of_ble_eq_true rfl) rfl rfl ?_ ?_ <;> (intro hc; first | cases hc | ((try rw [hc]); (try simp only [stH] at hc); (try (exfalso; omega)))) <;> (try intro K hK))
                          | (refine awl_skip rfl rfl (Nat.le_of_ble_eq_true rfl) rfl rfl ?_))
                       all_goals first
                         | (show Awl _ _ _ _ _; simp only [St.upd, St.put, List.nil_append, List.cons_append, List.singleton_append, List.append_nil])
                         | (simp (disch := omega) only [awl, ev1, evk, evc, gv, e_move, e_pick, e_bin, binW, e_un, e_cnv, e_conv, e_str, e_mark, e_copy, e_extract, e_len, e_mm, e_nil, e_index, e_field, e_load, e_fld, e_cut, e_alloc, e_box, e_make, e_build, e_lit, e_store, e_app, e_call, e_callF, idsA, killL, so, args, pus, pu, pu1, toDL, toD, toD1, toDs, elems, idsW, idsV, lenV, oint, cutOk, ldV, subD, newD, fillV, cellsV, one1, one0, zD, cD0, scs, St.upd, St.put, St.ev, St.keep, gt, go, tmOf, ofD, dOk, cV, cV0, renM, Value.oneCell', keepL, freshL, vaOL, outB, wkTm, subL, ninL, injL, nm, resW, resL, resV, shift, ren, ren2, ren1, renO, va, va2, va1, vaO, inDom, stA, Int.reduceEq, ↓reduceIte, reduceCtorEq, Nat.reduceEqDiff, Nat.reduceLT, Nat.reduceLeDiff, Nat.reduceAdd, Nat.reduceSub, Nat.reduceMul, Int.reduceToNat, Int.reduceLE, Int.reduceLT, E0, x_bt3, x_el23, x_el27, x_pl29, x_pt3, x_slt23, x_slt27, x_tk29, x_zc29, x_zc5, n113, n112, n1, tA, r0, r1, t112, dz, tn]
                            (try ((repeat' first | (refine And.intro ?_ ?_) | (intro hc; first | cases hc | ((try rw [hc]); (try simp only [stH] at hc); (try (exfalso; omega)))))
                                  all_goals first | (refine hK _ _ ?_; clear hK K; simp only [St.upd, St.put, List.nil_append, List.cons_append, List.singleton_append, List.append_nil]) | exact hK | omega))))
      refine ⟨1, by omega, by omega, nm [(100, 38)], Wk.of ?_⟩
      simp (disch := omega) only [awl, ev1, evk, evc, gv, e_move, e_pick, e_bin, binW, e_un, e_cnv, e_conv, e_str, e_mark, e_copy, e_extract, e_len, e_mm, e_nil, e_index, e_field, e_load, e_fld, e_cut, e_alloc, e_box, e_make, e_build, e_lit, e_store, e_app, e_call, e_callF, idsA, killL, so, args, pus, pu, pu1, toDL, toD, toD1, toDs, elems, idsW, idsV, lenV, oint, cutOk, ldV, subD, newD, fillV, cellsV, one1, one0, zD, cD0, scs, St.upd, St.put, St.ev, St.keep, gt, go, tmOf, ofD, dOk, cV, cV0, renM, Value.oneCell', keepL, freshL, vaOL, outB, wkTm, subL, ninL, injL, nm, resW, resL, resV, shift, ren, ren2, ren1, renO, va, va2, va1, vaO, inDom, stA, Int.reduceEq, ↓reduceIte, reduceCtorEq, Nat.reduceEqDiff, Nat.reduceLT, Nat.reduceLeDiff, Nat.reduceAdd, Nat.reduceSub, Nat.reduceMul, Int.reduceToNat, Int.reduceLE, Int.reduceLT, E0, x_bt3, x_el23, x_el27, x_pl29, x_pt3, x_slt23, x_slt27, x_tk29, x_zc29, x_zc5]
      rfl
    · have i0 : (if (1 : Nat) = 0 then A else if (1 : Nat) = 1 then C else []) = C := rfl
      rw [i0]
      have tC : (C.map mB).drop 1 = [] := by rw [List.drop_eq_nil_iff, List.length_map]; omega
      repeat' first
                    | (refine AW.seq ?_)
                    | (refine AW.block ?_)
                    | (refine AW.regl E0_ok [0, 1, 2, 6, 7, 8, 9, 10, 11, 19, 20, 21, 22] ?_)
                    | (refine then_n ?_)
                    | (refine then_r ?_)
                    | (refine then_x ?_)
                    | (refine block_x ?_)
                    | (refine block_o (by decide) ?_)
                    | (refine block_n ?_)
                    | (refine block_r ?_)
                    | (refine AW.skip ?_)
                    | (refine AW.ret ?_)
                    | (refine AW.exit ?_)
                    | (refine AW.cond rfl ?_ ?_ <;> (intro hc; first | cases hc | ((try rw [hc]); (try simp only [stH] at hc); (try (exfalso; omega)))))
                    | ((first
                          | (refine awl_none rfl fun K hK => ?_)
                          | (refine awl_nil ?_)
                          | (refine awl_some rfl rfl (Nat.le_of_ble_eq_true rfl) rfl rfl ?_ ?_ <;> (intro hc; first | cases hc | ((try rw [hc]); (try simp only [stH] at hc); (try (exfalso; omega)))) <;> (try intro K hK))
                          | (refine awl_skip rfl rfl (Nat.le_of_ble_eq_true rfl) rfl rfl ?_))
                       all_goals first
                         | (show Awl _ _ _ _ _; simp only [St.upd, St.put, List.nil_append, List.cons_append, List.singleton_append, List.append_nil])
                         | (simp (disch := omega) only [awl, ev1, evk, evc, gv, e_move, e_pick, e_bin, binW, e_un, e_cnv, e_conv, e_str, e_mark, e_copy, e_extract, e_len, e_mm, e_nil, e_index, e_field, e_load, e_fld, e_cut, e_alloc, e_box, e_make, e_build, e_lit, e_store, e_app, e_call, e_callF, idsA, killL, so, args, pus, pu, pu1, toDL, toD, toD1, toDs, elems, idsW, idsV, lenV, oint, cutOk, ldV, subD, newD, fillV, cellsV, one1, one0, zD, cD0, scs, St.upd, St.put, St.ev, St.keep, gt, go, tmOf, ofD, dOk, cV, cV0, renM, Value.oneCell', keepL, freshL, vaOL, outB, wkTm, subL, ninL, injL, nm, resW, resL, resV, shift, ren, ren2, ren1, renO, va, va2, va1, vaO, inDom, stA, Int.reduceEq, ↓reduceIte, reduceCtorEq, Nat.reduceEqDiff, Nat.reduceLT, Nat.reduceLeDiff, Nat.reduceAdd, Nat.reduceSub, Nat.reduceMul, Int.reduceToNat, Int.reduceLE, Int.reduceLT, E0, x_bt3, x_el23, x_el27, x_pl29, x_pt3, x_slt23, x_slt27, x_tk29, x_zc29, x_zc5, n113, n112, n1, r2, dy, tm1, tC]
                            (try ((repeat' first | (refine And.intro ?_ ?_) | (intro hc; first | cases hc | ((try rw [hc]); (try simp only [stH] at hc); (try (exfalso; omega)))))
                                  all_goals first | (refine hK _ _ ?_; clear hK K; simp only [St.upd, St.put, List.nil_append, List.cons_append, List.singleton_append, List.append_nil]) | exact hK | omega))))
      refine ⟨2, by omega, by omega, nm [(100, 38)], Wk.of ?_⟩
      simp (disch := omega) only [awl, ev1, evk, evc, gv, e_move, e_pick, e_bin, binW, e_un, e_cnv, e_conv, e_str, e_mark, e_copy, e_extract, e_len, e_mm, e_nil, e_index, e_field, e_load, e_fld, e_cut, e_alloc, e_box, e_make, e_build, e_lit, e_store, e_app, e_call, e_callF, idsA, killL, so, args, pus, pu, pu1, toDL, toD, toD1, toDs, elems, idsW, idsV, lenV, oint, cutOk, ldV, subD, newD, fillV, cellsV, one1, one0, zD, cD0, scs, St.upd, St.put, St.ev, St.keep, gt, go, tmOf, ofD, dOk, cV, cV0, renM, Value.oneCell', keepL, freshL, vaOL, outB, wkTm, subL, ninL, injL, nm, resW, resL, resV, shift, ren, ren2, ren1, renO, va, va2, va1, vaO, inDom, stA, Int.reduceEq, ↓reduceIte, reduceCtorEq, Nat.reduceEqDiff, Nat.reduceLT, Nat.reduceLeDiff, Nat.reduceAdd, Nat.reduceSub, Nat.reduceMul, Int.reduceToNat, Int.reduceLE, Int.reduceLT, E0, x_bt3, x_el23, x_el27, x_pl29, x_pt3, x_slt23, x_slt27, x_tk29, x_zc29, x_zc5]
      rfl
    · repeat' first
                    | (refine AW.seq ?_)
                    | (refine AW.block ?_)
                    | (refine AW.regl E0_ok [0, 1, 2, 6, 7, 8, 9, 10, 11, 19, 20, 21, 22] ?_)
                    | (refine then_n ?_)
                    | (refine then_r ?_)
                    | (refine then_x ?_)
                    | (refine block_x ?_)
                    | (refine block_o (by decide) ?_)
                    | (refine block_n ?_)
                    | (refine block_r ?_)
                    | (refine AW.skip ?_)
                    | (refine AW.ret ?_)
                    | (refine AW.exit ?_)
                    | (refine AW.cond rfl ?_ ?_ <;> (intro hc; first | cases hc | ((try rw [hc]); (try simp only [stH] at hc); (try (exfalso; omega)))))
                    | ((first
                          | (refine awl_none rfl fun K hK => ?_)
                          | (refine awl_nil ?_)
                          | (refine awl_some rfl rfl (Nat.le_of_ble_eq_true rfl) rfl rfl ?_ ?_ <;> (intro hc; first | cases hc | ((try rw [hc]); (try simp only [stH] at hc); (try (exfalso; omega)))) <;> (try intro K hK))
                          | (refine awl_skip rfl rfl (Nat.le_of_ble_eq_true rfl) rfl rfl ?_))
                       all_goals first
                         | (show Awl _ _ _ _ _; simp only [St.upd, St.put, List.nil_append, List.cons_append, List.singleton_append, List.append_nil])
                         | (simp (disch := omega) only [awl, ev1, evk, evc, gv, e_move, e_pick, e_bin, binW, e_un, e_cnv, e_conv, e_str, e_mark, e_copy, e_extract, e_len, e_mm, e_nil, e_index, e_field, e_load, e_fld, e_cut, e_alloc, e_box, e_make, e_build, e_lit, e_store, e_app, e_call, e_callF, idsA, killL, so, args, pus, pu, pu1, toDL, toD, toD1, toDs, elems, idsW, idsV, lenV, oint, cutOk, ldV, subD, newD, fillV, cellsV, one1, one0, zD, cD0, scs, St.upd, St.put, St.ev, St.keep, gt, go, tmOf, ofD, dOk, cV, cV0, renM, Value.oneCell', keepL, freshL, vaOL, outB, wkTm, subL, ninL, injL, nm, resW, resL, resV, shift, ren, ren2, ren1, renO, va, va2, va1, vaO, inDom, stA, Int.reduceEq, ↓reduceIte, reduceCtorEq, Nat.reduceEqDiff, Nat.reduceLT, Nat.reduceLeDiff, Nat.reduceAdd, Nat.reduceSub, Nat.reduceMul, Int.reduceToNat, Int.reduceLE, Int.reduceLT, E0, x_bt3, x_el23, x_el27, x_pl29, x_pt3, x_slt23, x_slt27, x_tk29, x_zc29, x_zc5]
                            (try ((repeat' first | (refine And.intro ?_ ?_) | (intro hc; first | cases hc | ((try rw [hc]); (try simp only [stH] at hc); (try (exfalso; omega)))))
                                  all_goals first | (refine hK _ _ ?_; clear hK K; simp only [St.upd, St.put, List.nil_append, List.cons_append, List.singleton_append, List.append_nil]) | exact hK | omega))))
      (refine Ends.of (nm [(0, 100)]) (by first | exact .inl rfl | exact .inr rfl) ?_; simp (disch := omega) only [awl, ev1, evk, evc, gv, e_move, e_pick, e_bin, binW, e_un, e_cnv, e_conv, e_str, e_mark, e_copy, e_extract, e_len, e_mm, e_nil, e_index, e_field, e_load, e_fld, e_cut, e_alloc, e_box, e_make, e_build, e_lit, e_store, e_app, e_call, e_callF, idsA, killL, so, args, pus, pu, pu1, toDL, toD, toD1, toDs, elems, idsW, idsV, lenV, oint, cutOk, ldV, subD, newD, fillV, cellsV, one1, one0, zD, cD0, scs, St.upd, St.put, St.ev, St.keep, gt, go, tmOf, ofD, dOk, cV, cV0, renM, Value.oneCell', keepL, freshL, vaOL, outB, wkTm, subL, ninL, injL, nm, resW, resL, resV, shift, ren, ren2, ren1, renO, va, va2, va1, vaO, inDom, stA, Int.reduceEq, ↓reduceIte, reduceCtorEq, Nat.reduceEqDiff, Nat.reduceLT, Nat.reduceLeDiff, Nat.reduceAdd, Nat.reduceSub, Nat.reduceMul, Int.reduceToNat, Int.reduceLE, Int.reduceLT, E0, x_bt3, x_el23, x_el27, x_pl29, x_pt3, x_slt23, x_slt27, x_tk29, x_zc29, x_zc5, hc0, hc1])
theorem ent_cells_Split : Ent Try.prog 11 := ⟨_, Try.func11, rfl, by decide⟩
noncomputable def C7 : Env := ⟨Try.prog, fun f ds out => (f = 11 ∧ Sp_cells_Split ds out), Es, fun f => decide (f = 11)⟩
theorem C7_sp : ∀ f ds out, C7.Sp f ds out → Ent C7.P f ∧ Good C7.P f (fun a b => a = ds ∧ b = out) := by
  rintro f ds out ⟨rfl, h⟩
  exact ⟨ent_cells_Split, good_cells_Split.one h⟩
theorem C7_ok : C7.Ok := ⟨C7_sp, Es_ok⟩
def Sp_overdublaw15_wakes (ds : List D) (out : Out) : Prop := ds = [] ∧ out = ⟨.d (.v (.bool true)), []⟩
theorem good_overdublaw15_wakes : Good Try.prog 12 Sp_overdublaw15_wakes := by
  refine good_body (E := C7) (nt := 23) (rs := #[.tmp 0]) Try.func12 rfl rfl rfl ?_
  rintro ds out ⟨rfl, rfl⟩
  refine ⟨by simp, ?_⟩
  have hr : List.replicate 113 (D.v (.int .u8 0)) = (List.replicate 113 (0 : Int)).map mB := by rw [List.map_replicate]; rfl
  have ht : ((List.replicate 113 (0 : Int)).map mB).take 113 = (List.replicate 113 (0 : Int)).map mB := List.take_of_length_le (by simp)
  have hlr : (List.replicate 113 (0 : Int)).length = 113 := by simp
  have hl1 : (List.replicate 1 (0 : Int)).length = 1 := rfl
  repeat' first
                    | (refine AW.seq ?_)
                    | (refine AW.block ?_)
                    | (refine AW.regl C7_ok [0, 1, 2] ?_)
                    | (refine then_n ?_)
                    | (refine then_r ?_)
                    | (refine then_x ?_)
                    | (refine block_x ?_)
                    | (refine block_o (by decide) ?_)
                    | (refine block_n ?_)
                    | (refine block_r ?_)
                    | (refine AW.skip ?_)
                    | (refine AW.ret ?_)
                    | (refine AW.exit ?_)
                    | (refine AW.cond rfl ?_ ?_ <;> (intro hc; first | cases hc | ((try rw [hc]); (try simp only [stH] at hc); (try (exfalso; omega)))))
                    | ((first
                          | (refine awl_none rfl fun K hK => ?_)
                          | (refine awl_nil ?_)
                          | (refine awl_some rfl rfl (Nat.le_of_ble_eq_true rfl) rfl rfl ?_ ?_ <;> (intro hc; first | cases hc | ((try rw [hc]); (try simp only [stH] at hc); (try (exfalso; omega)))) <;> (try intro K hK))
                          | (refine awl_skip rfl rfl (Nat.le_of_ble_eq_true rfl) rfl rfl ?_))
                       all_goals first
                         | (show Awl _ _ _ _ _; simp only [St.upd, St.put, List.nil_append, List.cons_append, List.singleton_append, List.append_nil])
                         | (simp (disch := omega) only [awl, ev1, evk, evc, gv, e_move, e_pick, e_bin, binW, e_un, e_cnv, e_conv, e_str, e_mark, e_copy, e_extract, e_len, e_mm, e_nil, e_index, e_field, e_load, e_fld, e_cut, e_alloc, e_box, e_make, e_build, e_lit, e_store, e_app, e_call, e_callF, idsA, killL, so, args, pus, pu, pu1, toDL, toD, toD1, toDs, elems, idsW, idsV, lenV, oint, cutOk, ldV, subD, newD, fillV, cellsV, one1, one0, zD, cD0, scs, St.upd, St.put, St.ev, St.keep, gt, go, tmOf, ofD, dOk, cV, cV0, renM, Value.oneCell', keepL, freshL, vaOL, outB, wkTm, subL, ninL, injL, nm, resW, resL, resV, shift, ren, ren2, ren1, renO, va, va2, va1, vaO, inDom, stA, Int.reduceEq, ↓reduceIte, reduceCtorEq, Nat.reduceEqDiff, Nat.reduceLT, Nat.reduceLeDiff, Nat.reduceAdd, Nat.reduceSub, Nat.reduceMul, Int.reduceToNat, Int.reduceLE, Int.reduceLT, C7, Sp_cells_Split, x_ar23, x_bt24, x_bt3, x_el23, x_el27, x_fo29_4, x_pt24, x_pt3, x_slt23, x_slt27, x_tk27, x_tk5, x_zc5, hr, ht, hlr, nth, List.getD_cons_zero, List.getD_cons_succ, cel0, cel1, hl1]
                            (try ((repeat' first | (refine And.intro ?_ ?_) | (intro hc; first | cases hc | ((try rw [hc]); (try simp only [stH] at hc); (try (exfalso; omega)))))
                                  all_goals first | (refine hK _ _ ?_; clear hK K; simp only [St.upd, St.put, List.nil_append, List.cons_append, List.singleton_append, List.append_nil]) | exact hK | omega))))
  (refine Ends.of (nm []) (by first | exact .inl rfl | exact .inr rfl) ?_; simp (disch := omega) only [awl, ev1, evk, evc, gv, e_move, e_pick, e_bin, binW, e_un, e_cnv, e_conv, e_str, e_mark, e_copy, e_extract, e_len, e_mm, e_nil, e_index, e_field, e_load, e_fld, e_cut, e_alloc, e_box, e_make, e_build, e_lit, e_store, e_app, e_call, e_callF, idsA, killL, so, args, pus, pu, pu1, toDL, toD, toD1, toDs, elems, idsW, idsV, lenV, oint, cutOk, ldV, subD, newD, fillV, cellsV, one1, one0, zD, cD0, scs, St.upd, St.put, St.ev, St.keep, gt, go, tmOf, ofD, dOk, cV, cV0, renM, Value.oneCell', keepL, freshL, vaOL, outB, wkTm, subL, ninL, injL, nm, resW, resL, resV, shift, ren, ren2, ren1, renO, va, va2, va1, vaO, inDom, stA, Int.reduceEq, ↓reduceIte, reduceCtorEq, Nat.reduceEqDiff, Nat.reduceLT, Nat.reduceLeDiff, Nat.reduceAdd, Nat.reduceSub, Nat.reduceMul, Int.reduceToNat, Int.reduceLE, Int.reduceLT, C7, Sp_cells_Split, x_ar23, x_bt24, x_bt3, x_el23, x_el27, x_fo29_4, x_pt24, x_pt3, x_slt23, x_slt27, x_tk27, x_tk5, x_zc5])
theorem ent_overdublaw15_wakes : Ent Try.prog 12 := ⟨_, Try.func12, rfl, by decide⟩
end Go.Proofs.Ytaiaackeljlbfaa.Am
