import Derived.Test.YtceoegbljkbgeaaZS2
set_option linter.unusedVariables false
set_option linter.unusedSimpArgs false
set_option maxRecDepth 10000
set_option maxHeartbeats 0
namespace Go.Proofs.Ytceoegbljkbgeaa.Am
open Go Go.RowKit Go.Proofs
theorem takeL_4s {b : List Int} (h : 20 ≤ b.length) : takeL b [4, 4, 4, 4, 4] = some [leV (b.take 4), leV ((b.drop 4).take 4), leV ((b.drop 8).take 4), leV ((b.drop 12).take 4), leV ((b.drop 16).take 4)] := by
  simp only [takeL, List.length_drop, show (4 : Int).toNat = 4 from rfl]
  rw [if_neg (by omega), if_neg (by omega), if_neg (by omega), if_neg (by omega), if_neg (by omega)]
  simp
theorem leV_four {b : List Int} (hb : Byt b) : 0 ≤ leV (b.take 4) ∧ leV (b.take 4) < 4294967296 := by
  have h := leV_bound (byt_take hb 4)
  have : (256 : Int) ^ (b.take 4).length ≤ 256 ^ 4 := p256_mono (List.length_take_le ..)
  omega
def sM (b : List Int) : List Int := (b.take 124).drop 8
def sG (b : List Int) : Int := leV ((sM b).take 4)
def sI (b : List Int) : Int := leV (((sM b).drop 4).take 4)
def sD (b : List Int) : Int := leV (((sM b).drop 8).take 4)
def sR (b : List Int) : Int := leV (((sM b).drop 12).take 4)
def sC (b : List Int) : Int := leV (((sM b).drop 16).take 4)
def sRng (g l d r c : Int) : Prop := 1 ≤ g ∧ g < 2147483648 ∧ 1 ≤ l ∧ l < 2147483648 ∧ d < 2147483648 ∧ r < 4096 ∧ 1 ≤ c ∧ c ≤ 1024
instance (g l d r c : Int) : Decidable (sRng g l d r c) := by unfold sRng; infer_instance
def sOk (b : List Int) : Prop := isOpen b ∧ sRng (sG b) (sI b) (sD b) (sR b) (sC b) ∧ supP (sG b) (sI b) (sD b) (sR b) (sC b) = b
instance (b : List Int) : Decidable (sOk b) := by unfold sOk; infer_instance
def sFail : Out := ⟨.tup [.agg [.d (.v (.int .i64 0)), .d (.v (.int .i64 0)), .d (.v (.int .i64 0)), .d (.v (.int .i64 0))], .d (.v (.int .i64 0)), .d (.v (.bool false))], []⟩
def supOut (b : List Int) : Out := if sOk b then ⟨.tup [.agg [.d (.v (.int .i64 (sG b))), .d (.v (.int .i64 (sI b))), .d (.v (.int .i64 (sD b))), .d (.v (.int .i64 (sR b)))], .d (.v (.int .i64 (sC b))), .d (.v (.bool true))], []⟩ else sFail
theorem W4s (a b c d e : Int) (ws : List Int) : ([D.v (.int .i64 a), D.v (.int .i64 b), D.v (.int .i64 c), D.v (.int .i64 d), D.v (.int .i64 e)] = ws.map mI) = (ws = [a, b, c, d, e]) := by
  rw [show [D.v (.int .i64 a), D.v (.int .i64 b), D.v (.int .i64 c), D.v (.int .i64 d), D.v (.int .i64 e)] = [a, b, c, d, e].map mI from rfl, mI_inj]
  exact propext eq_comm
noncomputable def Z4 : Env := ⟨Try.prog, fun f ds out => (f = 28 ∧ Sp_sealed_Open ds out) ∨ (f = 29 ∧ Sp_field_Take ds out) ∨ (f = 15 ∧ Sp_super_Pack ds out) ∨ (f = 30 ∧ Sp_bytes_Equal ds out), Es⟩
theorem Z4_sp : ∀ f ds out, Z4.Sp f ds out → Ent Z4.P f ∧ Good Z4.P f (fun a b => a = ds ∧ b = out) := by
  rintro f ds out (⟨rfl, h⟩ | ⟨rfl, h⟩ | ⟨rfl, h⟩ | ⟨rfl, h⟩)
  · exact ⟨ent_sealed_Open, good_sealed_Open.one h⟩
  · exact ⟨ent_field_Take, good_field_Take.one h⟩
  · exact ⟨ent_super_Pack, good_super_Pack.one h⟩
  · exact ⟨ent_bytes_Equal, good_bytes_Equal.one h⟩
theorem Z4_ok : Z4.Ok := ⟨Z4_sp, Es_ok⟩
def Sp_super_Unpack (ds : List D) (out : Out) : Prop := ∃ b : List Int, ds = [.list (b.map mB)] ∧ Byt b ∧ b.length ≤ 9223372036854775807 ∧ out = supOut b
def cc_super_Unpack_5 : List (List (Option Bool)) := [[some false, some false, some false, none, none, none, none, none, none, none, none, none, some false, none, none, none, some false, some false], [some true, some false, some false, none, none, none, none, none, none, none, none, none, some false, none, none, none, some false, some false], [some true, some true, some false, none, none, none, none, none, none, none, none, none, some false, none, none, none, some false, some false], [none, none, none, some false, some false, some false, none, none, none, none, none, none, some false, none, none, none, some false, some false], [none, none, none, some true, some false, some false, none, none, none, none, none, none, some false, none, none, none, some false, some false], [none, none, none, some true, some true, some false, none, none, none, none, none, none, some false, none, none, none, some false, some false], [none, none, none, none, none, none, some false, some false, some false, none, none, none, some false, none, none, none, some false, some false], [none, none, none, none, none, none, some true, some false, some false, none, none, none, some false, none, none, none, some false, some false], [none, none, none, none, none, none, some true, some true, some false, none, none, none, some false, none, none, none, some false, some false], [none, none, none, none, none, none, none, none, none, some false, some false, some false, some false, none, none, none, some false, some false], [none, none, none, none, none, none, none, none, none, some true, some false, some false, some false, none, none, none, some false, some false], [none, none, none, none, none, none, none, none, none, some true, some true, some false, some false, none, none, none, some false, some false], [some true, some true, some true, some true, some true, some true, some true, some true, some true, some true, some true, some true, some false, none, none, none, some false, some false], [none, none, none, none, none, none, none, none, none, none, none, none, none, some false, some false, some false, none, some false], [none, none, none, none, none, none, none, none, none, none, none, none, none, some true, some false, some false, none, some false], [none, none, none, none, none, none, none, none, none, none, none, none, none, some true, some true, some false, none, some false], [some true, some true, some true, some true, some true, some true, some true, some true, some true, some true, some true, some true, some true, none, none, none, some false, some false], [some true, some true, some true, some true, some true, some true, some true, some true, some true, some true, some true, some true, some true, some true, some true, some true, some true, some false]]
theorem good_super_Unpack : Good Try.prog 17 Sp_super_Unpack := by
  refine good_body (E := Z4) (nt := 86) (rs := #[.cell 2 23, .tmp 3, .tmp 4]) Try.func17 rfl rfl rfl ?_
  rintro ds out ⟨b, rfl, hb, hl, rfl⟩
  refine ⟨by simp, ?_⟩
  have hbt : Byt b = True := eq_true hb
  by_cases ho : isOpen b
  case neg =>
    have hop : openOut b = ⟨.tup [.nil, .d (.v (.bool false))], []⟩ := by rw [openOut, if_neg ho]
    have hz : supOut b = sFail := by rw [supOut, if_neg fun h => ho h.1]
    repeat' first
                    | (refine AW.seq ?_)
                    | (refine AW.block ?_)
                    | (refine AW.regl Z4_ok [0, 2, 3, 4, 5, 6, 14, 82] ?_)
                    | (refine AW.regc (id := 5) Z4_ok follows [0, 1, 3, 0, 8, 24, 0, 64, 192, 0, 512, 1536, 4095, 0, 8192, 24576, 8191, 131071] (by kernel_rfl) [0, 2, 3, 4, 5, 6, 14, 82] ?_)
                    | (refine then_n ?_)
                    | (refine then_r ?_)
                    | (refine then_x ?_)
                    | (refine block_x ?_)
                    | (refine block_o (by decide) ?_)
                    | (refine block_n ?_)
                    | (refine block_r ?_)
                    | (refine AW.skip ?_)
                    | (refine AW.ret ?_)
                    | (refine AW.exit ?_)
                    | (refine AW.cond rfl ?_ ?_ <;> (intro hc; first | cases hc | ((try rw [hc]); (try simp only [stH] at hc); (try (exfalso; omega)))))
                    | ((first
                          | (refine awl_none rfl fun K hK => ?_)
                          | (refine awl_nil ?_)
                          | (refine awl_some rfl rfl (Nat.le_of_ble_eq_true rfl) rfl rfl ?_ ?_ <;> (intro hc; first | cases hc | ((try rw [hc]); (try simp only [stH] at hc); (try (exfalso; omega)))) <;> (try intro K hK))
                          | (refine awl_skip rfl rfl (Nat.le_of_ble_eq_true rfl) rfl rfl ?_)
                          | (refine awc_none rfl fun K hK => ?_)
                          | (refine awc_some rfl rfl (Nat.le_of_ble_eq_true rfl) rfl rfl ?_ ?_ <;> (intro hc; first | cases hc | ((try rw [hc]); (try simp only [stH] at hc); (try (exfalso; omega)))) <;> (try intro K hK))
                          | exact each_nil
                          | (refine each_none rfl ?_ ?_ <;> (try intro bb K hK))
                          | (refine awc_leaf [some 23, some 24, some 25, some 26, some 27, some 28, some 29, some 30, some 31, some 32, some 33, some 34, some 35, some 36, some 37, some 38, none, some 3] cc_super_Unpack_5 rfl (by kernel_rfl) (by kernel_rfl) ?_ ?_))
                       all_goals first
                         | (show Awl _ _ _ _ _; simp only [St.upd, St.put, List.nil_append, List.cons_append, List.singleton_append, List.append_nil])
                         | (show Awc _ _ _ _ _ _; simp only [St.upd, St.put, List.nil_append, List.cons_append, List.singleton_append, List.append_nil])
                         | (show Each _ _ _ _ _ _ _ _; skip)
                         | (simp (disch := omega) only [awl, ev1, evk, evc, gv, e_move, e_pick, e_bin, binW, e_un, e_cnv, e_conv, e_str, e_mark, e_copy, e_extract, e_len, e_mm, e_nil, e_index, e_field, e_load, e_fld, e_cut, e_alloc, e_box, e_make, e_build, e_lit, e_store, e_app, e_call, args, pus, pu, pu1, toDL, toD, toD1, toDs, elems, idsW, idsV, lenV, oint, cutOk, ldV, subD, newD, fillV, cellsV, one1, one0, zD, cD0, scs, St.upd, St.put, St.ev, St.keep, gt, go, tmOf, ofD, dOk, cV, cV0, renM, Value.oneCell', keepL, freshL, vaOL, outB, wkTm, subL, ninL, injL, nm, resW, resL, resV, shift, ren, ren2, ren1, renO, va, va2, va1, vaO, inDom, stA, Int.reduceEq, ↓reduceIte, reduceCtorEq, Nat.reduceEqDiff, Nat.reduceLT, Nat.reduceLeDiff, Nat.reduceAdd, Nat.reduceSub, Nat.reduceMul, Int.reduceToNat, Int.reduceLE, Int.reduceLT, Z4, Sp_sealed_Open, Sp_field_Take, Sp_super_Pack, Sp_bytes_Equal, x_ar49, x_bt3, x_el24, x_el49, x_fo23_0, x_fo23_1, x_fo23_2, x_fo23_3, x_pl23, x_pt3, x_tk23, x_tk3, x_zc23, x_zc3, hbt, hop, mB_inj, Sg3, St.updIf, ifc_nil, gt_ifc, go_ifc, ite_self, Option.none_or, Option.some_or]
                            (try ((repeat' first | (refine And.intro ?_ ?_) | (intro hc; first | cases hc | ((try rw [hc]); (try simp only [stH] at hc); (try (exfalso; omega)))))
                                  all_goals first | (refine hK _ _ ?_; clear hK K; simp only [St.upd, St.put, List.nil_append, List.cons_append, List.singleton_append, List.append_nil]) | exact hK | omega))))
    (refine Ends.of (nm []) (by first | exact .inl rfl | exact .inr rfl) ?_; simp (disch := omega) only [awl, ev1, evk, evc, gv, e_move, e_pick, e_bin, binW, e_un, e_cnv, e_conv, e_str, e_mark, e_copy, e_extract, e_len, e_mm, e_nil, e_index, e_field, e_load, e_fld, e_cut, e_alloc, e_box, e_make, e_build, e_lit, e_store, e_app, e_call, args, pus, pu, pu1, toDL, toD, toD1, toDs, elems, idsW, idsV, lenV, oint, cutOk, ldV, subD, newD, fillV, cellsV, one1, one0, zD, cD0, scs, St.upd, St.put, St.ev, St.keep, gt, go, tmOf, ofD, dOk, cV, cV0, renM, Value.oneCell', keepL, freshL, vaOL, outB, wkTm, subL, ninL, injL, nm, resW, resL, resV, shift, ren, ren2, ren1, renO, va, va2, va1, vaO, inDom, stA, Int.reduceEq, ↓reduceIte, reduceCtorEq, Nat.reduceEqDiff, Nat.reduceLT, Nat.reduceLeDiff, Nat.reduceAdd, Nat.reduceSub, Nat.reduceMul, Int.reduceToNat, Int.reduceLE, Int.reduceLT, Z4, Sp_sealed_Open, Sp_field_Take, Sp_super_Pack, Sp_bytes_Equal, x_ar49, x_bt3, x_el24, x_el49, x_fo23_0, x_fo23_1, x_fo23_2, x_fo23_3, x_pl23, x_pt3, x_tk23, x_tk3, x_zc23, x_zc3, hz, sFail])
  have h8 := ho.1
  have hop : openOut b = ⟨.tup [.sl 0 1 0 124 true, .d (.v (.bool true))], [(0, .row 5 1 ((b.take 124).map mB))]⟩ := by rw [openOut, if_pos ho]
  have hml : (sM b).length = 116 := by unfold sM; rw [List.length_drop, List.length_take]; omega
  have hmb : Byt (sM b) := byt_drop (byt_take hb _) _
  have hmt : Byt (sM b) = True := eq_true hmb
  have hg : takeOut (sM b) [4, 4, 4, 4, 4] = ⟨.tup [.sl 0 1 0 5 true, .d (.v (.bool true))], [(0, .row 3 1 [.v (.int .i64 (sG b)), .v (.int .i64 (sI b)), .v (.int .i64 (sD b)), .v (.int .i64 (sR b)), .v (.int .i64 (sC b))])]⟩ := by rw [takeOut, takeL_4s (by omega)]; rfl
  have hlt : (b.take 124).length = 124 := by rw [List.length_take]; omega
  have ht1 : ((b.take 124).map mB).drop 8 = (sM b).map mB := by rw [sM, List.map_drop]
  have ht2 : ((sM b).map mB).take 116 = (sM b).map mB := List.take_of_length_le (by simp [hml])
  have hlb : (b.map mB).take 128 = b.map mB := List.take_of_length_le (by simp [h8])
  have b1 : 0 ≤ sG b ∧ sG b < 4294967296 := leV_four hmb
  have b2 : 0 ≤ sI b ∧ sI b < 4294967296 := leV_four (byt_drop hmb _)
  have b3 : 0 ≤ sD b ∧ sD b < 4294967296 := leV_four (byt_drop hmb _)
  have b4 : 0 ≤ sR b ∧ sR b < 4294967296 := leV_four (byt_drop hmb _)
  have b5 : 0 ≤ sC b ∧ sC b < 4294967296 := leV_four (byt_drop hmb _)
  have hsb : Byt (supP (sG b) (sI b) (sD b) (sR b) (sC b)) := sealL_byt (by
    unfold supL; simp only [putB_leB]
    exact byt_append (fun x hx => by simp [wordL] at hx; omega) (byt_append (leB_byt _ _) (byt_append (leB_byt _ _) (byt_append (leB_byt _ _) (byt_append (leB_byt _ _) (leB_byt _ _))))))
  have hst : Byt (supP (sG b) (sI b) (sD b) (sR b) (sC b)) = True := eq_true hsb
  have hpl : (supP (sG b) (sI b) (sD b) (sR b) (sC b)).length = 128 := sealL_len _
  have htp : ((supP (sG b) (sI b) (sD b) (sR b) (sC b)).map mB).take 128 = (supP (sG b) (sI b) (sD b) (sR b) (sC b)).map mB := List.take_of_length_le (by simp [hpl])
  clear hl
  by_cases hr : sRng (sG b) (sI b) (sD b) (sR b) (sC b)
  · by_cases he : supP (sG b) (sI b) (sD b) (sR b) (sC b) = b
    · have hz : supOut b = ⟨.tup [.agg [.d (.v (.int .i64 (sG b))), .d (.v (.int .i64 (sI b))), .d (.v (.int .i64 (sD b))), .d (.v (.int .i64 (sR b)))], .d (.v (.int .i64 (sC b))), .d (.v (.bool true))], []⟩ := by rw [supOut, if_pos ⟨ho, hr, he⟩]
      have hd : decide (supP (sG b) (sI b) (sD b) (sR b) (sC b) = b) = true := decide_eq_true he
      unfold sRng at hr
      have c1 : decide (sG b < 1) = false := decide_eq_false (by omega)
      have c2 : decide (2147483648 ≤ sG b) = false := decide_eq_false (by omega)
      have c3 : decide (sI b < 1) = false := decide_eq_false (by omega)
      have c4 : decide (2147483648 ≤ sI b) = false := decide_eq_false (by omega)
      have c5 : decide (2147483648 ≤ sD b) = false := decide_eq_false (by omega)
      have c6 : decide (4096 ≤ sR b) = false := decide_eq_false (by omega)
      have c7 : decide (sC b < 1) = false := decide_eq_false (by omega)
      have c8 : decide (1024 < sC b) = false := decide_eq_false (by omega)
      repeat' first
                    | (refine AW.seq ?_)
                    | (refine AW.block ?_)
                    | (refine AW.regl Z4_ok [0, 2, 3, 4, 5, 6, 14, 82] ?_)
                    | (refine AW.regc (id := 5) Z4_ok follows [0, 1, 3, 0, 8, 24, 0, 64, 192, 0, 512, 1536, 4095, 0, 8192, 24576, 8191, 131071] (by kernel_rfl) [0, 2, 3, 4, 5, 6, 14, 82] ?_)
                    | (refine then_n ?_)
                    | (refine then_r ?_)
                    | (refine then_x ?_)
                    | (refine block_x ?_)
                    | (refine block_o (by decide) ?_)
                    | (refine block_n ?_)
                    | (refine block_r ?_)
                    | (refine AW.skip ?_)
                    | (refine AW.ret ?_)
                    | (refine AW.exit ?_)
                    | (refine AW.cond rfl ?_ ?_ <;> (intro hc; first | cases hc | ((try rw [hc]); (try simp only [stH] at hc); (try (exfalso; omega)))))
                    | ((first
                          | (refine awl_none rfl fun K hK => ?_)
                          | (refine awl_nil ?_)
                          | (refine awl_some rfl rfl (Nat.le_of_ble_eq_true rfl) rfl rfl ?_ ?_ <;> (intro hc; first | cases hc | ((try rw [hc]); (try simp only [stH] at hc); (try (exfalso; omega)))) <;> (try intro K hK))
                          | (refine awl_skip rfl rfl (Nat.le_of_ble_eq_true rfl) rfl rfl ?_)
                          | (refine awc_none rfl fun K hK => ?_)
                          | (refine awc_some rfl rfl (Nat.le_of_ble_eq_true rfl) rfl rfl ?_ ?_ <;> (intro hc; first | cases hc | ((try rw [hc]); (try simp only [stH] at hc); (try (exfalso; omega)))) <;> (try intro K hK))
                          | exact each_nil
                          | (refine each_none rfl ?_ ?_ <;> (try intro bb K hK))
                          | (refine awc_leaf [some 23, some 24, some 25, some 26, some 27, some 28, some 29, some 30, some 31, some 32, some 33, some 34, some 35, some 36, some 37, some 38, none, some 3] cc_super_Unpack_5 rfl (by kernel_rfl) (by kernel_rfl) ?_ ?_))
                       all_goals first
                         | (show Awl _ _ _ _ _; simp only [St.upd, St.put, List.nil_append, List.cons_append, List.singleton_append, List.append_nil])
                         | (show Awc _ _ _ _ _ _; simp only [St.upd, St.put, List.nil_append, List.cons_append, List.singleton_append, List.append_nil])
                         | (show Each _ _ _ _ _ _ _ _; skip)
                         | (simp (disch := omega) only [awl, ev1, evk, evc, gv, e_move, e_pick, e_bin, binW, e_un, e_cnv, e_conv, e_str, e_mark, e_copy, e_extract, e_len, e_mm, e_nil, e_index, e_field, e_load, e_fld, e_cut, e_alloc, e_box, e_make, e_build, e_lit, e_store, e_app, e_call, args, pus, pu, pu1, toDL, toD, toD1, toDs, elems, idsW, idsV, lenV, oint, cutOk, ldV, subD, newD, fillV, cellsV, one1, one0, zD, cD0, scs, St.upd, St.put, St.ev, St.keep, gt, go, tmOf, ofD, dOk, cV, cV0, renM, Value.oneCell', keepL, freshL, vaOL, outB, wkTm, subL, ninL, injL, nm, resW, resL, resV, shift, ren, ren2, ren1, renO, va, va2, va1, vaO, inDom, stA, Int.reduceEq, ↓reduceIte, reduceCtorEq, Nat.reduceEqDiff, Nat.reduceLT, Nat.reduceLeDiff, Nat.reduceAdd, Nat.reduceSub, Nat.reduceMul, Int.reduceToNat, Int.reduceLE, Int.reduceLT, Z4, Sp_sealed_Open, Sp_field_Take, Sp_super_Pack, Sp_bytes_Equal, x_ar49, x_bt3, x_el24, x_el49, x_fo23_0, x_fo23_1, x_fo23_2, x_fo23_3, x_pl23, x_pt3, x_tk23, x_tk3, x_zc23, x_zc3, hbt, hop, hmt, hg, hlt, ht1, ht2, hlb, hst, htp, W4s, nth, List.getD_cons_zero, List.getD_cons_succ, cutOk, all_B, mB_inj, c1, c2, c3, c4, c5, c6, c7, c8, hd, Sg3, St.updIf, ifc_nil, gt_ifc, go_ifc, ite_self, Option.none_or, Option.some_or]
                            (try ((repeat' first | (refine And.intro ?_ ?_) | (intro hc; first | cases hc | ((try rw [hc]); (try simp only [stH] at hc); (try (exfalso; omega)))))
                                  all_goals first | (refine hK _ _ ?_; clear hK K; simp only [St.upd, St.put, List.nil_append, List.cons_append, List.singleton_append, List.append_nil]) | exact hK | omega))))
      all_goals (refine Ends.of (nm []) (by first | exact .inl rfl | exact .inr rfl) ?_; simp (disch := omega) only [awl, ev1, evk, evc, gv, e_move, e_pick, e_bin, binW, e_un, e_cnv, e_conv, e_str, e_mark, e_copy, e_extract, e_len, e_mm, e_nil, e_index, e_field, e_load, e_fld, e_cut, e_alloc, e_box, e_make, e_build, e_lit, e_store, e_app, e_call, args, pus, pu, pu1, toDL, toD, toD1, toDs, elems, idsW, idsV, lenV, oint, cutOk, ldV, subD, newD, fillV, cellsV, one1, one0, zD, cD0, scs, St.upd, St.put, St.ev, St.keep, gt, go, tmOf, ofD, dOk, cV, cV0, renM, Value.oneCell', keepL, freshL, vaOL, outB, wkTm, subL, ninL, injL, nm, resW, resL, resV, shift, ren, ren2, ren1, renO, va, va2, va1, vaO, inDom, stA, Int.reduceEq, ↓reduceIte, reduceCtorEq, Nat.reduceEqDiff, Nat.reduceLT, Nat.reduceLeDiff, Nat.reduceAdd, Nat.reduceSub, Nat.reduceMul, Int.reduceToNat, Int.reduceLE, Int.reduceLT, Z4, Sp_sealed_Open, Sp_field_Take, Sp_super_Pack, Sp_bytes_Equal, x_ar49, x_bt3, x_el24, x_el49, x_fo23_0, x_fo23_1, x_fo23_2, x_fo23_3, x_pl23, x_pt3, x_tk23, x_tk3, x_zc23, x_zc3, hz])
    · have hz : supOut b = sFail := by rw [supOut, if_neg fun h => he h.2.2]
      have hd : decide (supP (sG b) (sI b) (sD b) (sR b) (sC b) = b) = false := decide_eq_false he
      unfold sRng at hr
      have c1 : decide (sG b < 1) = false := decide_eq_false (by omega)
      have c2 : decide (2147483648 ≤ sG b) = false := decide_eq_false (by omega)
      have c3 : decide (sI b < 1) = false := decide_eq_false (by omega)
      have c4 : decide (2147483648 ≤ sI b) = false := decide_eq_false (by omega)
      have c5 : decide (2147483648 ≤ sD b) = false := decide_eq_false (by omega)
      have c6 : decide (4096 ≤ sR b) = false := decide_eq_false (by omega)
      have c7 : decide (sC b < 1) = false := decide_eq_false (by omega)
      have c8 : decide (1024 < sC b) = false := decide_eq_false (by omega)
      repeat' first
                    | (refine AW.seq ?_)
                    | (refine AW.block ?_)
                    | (refine AW.regl Z4_ok [0, 2, 3, 4, 5, 6, 14, 82] ?_)
                    | (refine AW.regc (id := 5) Z4_ok follows [0, 1, 3, 0, 8, 24, 0, 64, 192, 0, 512, 1536, 4095, 0, 8192, 24576, 8191, 131071] (by kernel_rfl) [0, 2, 3, 4, 5, 6, 14, 82] ?_)
                    | (refine then_n ?_)
                    | (refine then_r ?_)
                    | (refine then_x ?_)
                    | (refine block_x ?_)
                    | (refine block_o (by decide) ?_)
                    | (refine block_n ?_)
                    | (refine block_r ?_)
                    | (refine AW.skip ?_)
                    | (refine AW.ret ?_)
                    | (refine AW.exit ?_)
                    | (refine AW.cond rfl ?_ ?_ <;> (intro hc; first | cases hc | ((try rw [hc]); (try simp only [stH] at hc); (try (exfalso; omega)))))
                    | ((first
                          | (refine awl_none rfl fun K hK => ?_)
                          | (refine awl_nil ?_)
                          | (refine awl_some rfl rfl (Nat.le_of_ble_eq_true rfl) rfl rfl ?_ ?_ <;> (intro hc; first | cases hc | ((try rw [hc]); (try simp only [stH] at hc); (try (exfalso; omega)))) <;> (try intro K hK))
                          | (refine awl_skip rfl rfl (Nat.le_of_ble_eq_true rfl) rfl rfl ?_)
                          | (refine awc_none rfl fun K hK => ?_)
                          | (refine awc_some rfl rfl (Nat.le_of_ble_eq_true rfl) rfl rfl ?_ ?_ <;> (intro hc; first | cases hc | ((try rw [hc]); (try simp only [stH] at hc); (try (exfalso; omega)))) <;> (try intro K hK))
                          | exact each_nil
                          | (refine each_none rfl ?_ ?_ <;> (try intro bb K hK))
                          | (refine awc_leaf [some 23, some 24, some 25, some 26, some 27, some 28, some 29, some 30, some 31, some 32, some 33, some 34, some 35, some 36, some 37, some 38, none, some 3] cc_super_Unpack_5 rfl (by kernel_rfl) (by kernel_rfl) ?_ ?_))
                       all_goals first
                         | (show Awl _ _ _ _ _; simp only [St.upd, St.put, List.nil_append, List.cons_append, List.singleton_append, List.append_nil])
                         | (show Awc _ _ _ _ _ _; simp only [St.upd, St.put, List.nil_append, List.cons_append, List.singleton_append, List.append_nil])
                         | (show Each _ _ _ _ _ _ _ _; skip)
                         | (simp (disch := omega) only [awl, ev1, evk, evc, gv, e_move, e_pick, e_bin, binW, e_un, e_cnv, e_conv, e_str, e_mark, e_copy, e_extract, e_len, e_mm, e_nil, e_index, e_field, e_load, e_fld, e_cut, e_alloc, e_box, e_make, e_build, e_lit, e_store, e_app, e_call, args, pus, pu, pu1, toDL, toD, toD1, toDs, elems, idsW, idsV, lenV, oint, cutOk, ldV, subD, newD, fillV, cellsV, one1, one0, zD, cD0, scs, St.upd, St.put, St.ev, St.keep, gt, go, tmOf, ofD, dOk, cV, cV0, renM, Value.oneCell', keepL, freshL, vaOL, outB, wkTm, subL, ninL, injL, nm, resW, resL, resV, shift, ren, ren2, ren1, renO, va, va2, va1, vaO, inDom, stA, Int.reduceEq, ↓reduceIte, reduceCtorEq, Nat.reduceEqDiff, Nat.reduceLT, Nat.reduceLeDiff, Nat.reduceAdd, Nat.reduceSub, Nat.reduceMul, Int.reduceToNat, Int.reduceLE, Int.reduceLT, Z4, Sp_sealed_Open, Sp_field_Take, Sp_super_Pack, Sp_bytes_Equal, x_ar49, x_bt3, x_el24, x_el49, x_fo23_0, x_fo23_1, x_fo23_2, x_fo23_3, x_pl23, x_pt3, x_tk23, x_tk3, x_zc23, x_zc3, hbt, hop, hmt, hg, hlt, ht1, ht2, hlb, hst, htp, W4s, nth, List.getD_cons_zero, List.getD_cons_succ, cutOk, all_B, mB_inj, c1, c2, c3, c4, c5, c6, c7, c8, hd, Sg3, St.updIf, ifc_nil, gt_ifc, go_ifc, ite_self, Option.none_or, Option.some_or]
                            (try ((repeat' first | (refine And.intro ?_ ?_) | (intro hc; first | cases hc | ((try rw [hc]); (try simp only [stH] at hc); (try (exfalso; omega)))))
                                  all_goals first | (refine hK _ _ ?_; clear hK K; simp only [St.upd, St.put, List.nil_append, List.cons_append, List.singleton_append, List.append_nil]) | exact hK | omega))))
      all_goals (refine Ends.of (nm []) (by first | exact .inl rfl | exact .inr rfl) ?_; simp (disch := omega) only [awl, ev1, evk, evc, gv, e_move, e_pick, e_bin, binW, e_un, e_cnv, e_conv, e_str, e_mark, e_copy, e_extract, e_len, e_mm, e_nil, e_index, e_field, e_load, e_fld, e_cut, e_alloc, e_box, e_make, e_build, e_lit, e_store, e_app, e_call, args, pus, pu, pu1, toDL, toD, toD1, toDs, elems, idsW, idsV, lenV, oint, cutOk, ldV, subD, newD, fillV, cellsV, one1, one0, zD, cD0, scs, St.upd, St.put, St.ev, St.keep, gt, go, tmOf, ofD, dOk, cV, cV0, renM, Value.oneCell', keepL, freshL, vaOL, outB, wkTm, subL, ninL, injL, nm, resW, resL, resV, shift, ren, ren2, ren1, renO, va, va2, va1, vaO, inDom, stA, Int.reduceEq, ↓reduceIte, reduceCtorEq, Nat.reduceEqDiff, Nat.reduceLT, Nat.reduceLeDiff, Nat.reduceAdd, Nat.reduceSub, Nat.reduceMul, Int.reduceToNat, Int.reduceLE, Int.reduceLT, Z4, Sp_sealed_Open, Sp_field_Take, Sp_super_Pack, Sp_bytes_Equal, x_ar49, x_bt3, x_el24, x_el49, x_fo23_0, x_fo23_1, x_fo23_2, x_fo23_3, x_pl23, x_pt3, x_tk23, x_tk3, x_zc23, x_zc3, hz, sFail])
  · have hz : supOut b = sFail := by rw [supOut, if_neg fun h => hr h.2.1]
    unfold sRng at hr
    clear b1 b2 b3 b4 b5
    repeat' first
                    | (refine AW.seq ?_)
                    | (refine AW.block ?_)
                    | (refine AW.regl Z4_ok [0, 2, 3, 4, 5, 6, 14, 82] ?_)
                    | (refine AW.regc (id := 5) Z4_ok follows [0, 1, 3, 0, 8, 24, 0, 64, 192, 0, 512, 1536, 4095, 0, 8192, 24576, 8191, 131071] (by kernel_rfl) [0, 2, 3, 4, 5, 6, 14, 82] ?_)
                    | (refine then_n ?_)
                    | (refine then_r ?_)
                    | (refine then_x ?_)
                    | (refine block_x ?_)
                    | (refine block_o (by decide) ?_)
                    | (refine block_n ?_)
                    | (refine block_r ?_)
                    | (refine AW.skip ?_)
                    | (refine AW.ret ?_)
                    | (refine AW.exit ?_)
                    | (refine AW.cond rfl ?_ ?_ <;> (intro hc; first | cases hc | ((try rw [hc]); (try simp only [stH] at hc); (try (exfalso; omega)))))
                    | ((first
                          | (refine awl_none rfl fun K hK => ?_)
                          | (refine awl_nil ?_)
                          | (refine awl_some rfl rfl (Nat.le_of_ble_eq_true rfl) rfl rfl ?_ ?_ <;> (intro hc; first | cases hc | ((try rw [hc]); (try simp only [stH] at hc); (try (exfalso; omega)))) <;> (try intro K hK))
                          | (refine awl_skip rfl rfl (Nat.le_of_ble_eq_true rfl) rfl rfl ?_)
                          | (refine awc_none rfl fun K hK => ?_)
                          | (refine awc_some rfl rfl (Nat.le_of_ble_eq_true rfl) rfl rfl ?_ ?_ <;> (intro hc; first | cases hc | ((try rw [hc]); (try simp only [stH] at hc); (try (exfalso; omega)))) <;> (try intro K hK))
                          | exact each_nil
                          | (refine each_none rfl ?_ ?_ <;> (try intro bb K hK))
                          | (refine awc_leaf [some 23, some 24, some 25, some 26, some 27, some 28, some 29, some 30, some 31, some 32, some 33, some 34, some 35, some 36, some 37, some 38, none, some 3] cc_super_Unpack_5 rfl (by kernel_rfl) (by kernel_rfl) ?_ ?_))
                       all_goals first
                         | (show Awl _ _ _ _ _; simp only [St.upd, St.put, List.nil_append, List.cons_append, List.singleton_append, List.append_nil])
                         | (show Awc _ _ _ _ _ _; simp only [St.upd, St.put, List.nil_append, List.cons_append, List.singleton_append, List.append_nil])
                         | (show Each _ _ _ _ _ _ _ _; skip)
                         | (simp (disch := omega) only [awl, ev1, evk, evc, gv, e_move, e_pick, e_bin, binW, e_un, e_cnv, e_conv, e_str, e_mark, e_copy, e_extract, e_len, e_mm, e_nil, e_index, e_field, e_load, e_fld, e_cut, e_alloc, e_box, e_make, e_build, e_lit, e_store, e_app, e_call, args, pus, pu, pu1, toDL, toD, toD1, toDs, elems, idsW, idsV, lenV, oint, cutOk, ldV, subD, newD, fillV, cellsV, one1, one0, zD, cD0, scs, St.upd, St.put, St.ev, St.keep, gt, go, tmOf, ofD, dOk, cV, cV0, renM, Value.oneCell', keepL, freshL, vaOL, outB, wkTm, subL, ninL, injL, nm, resW, resL, resV, shift, ren, ren2, ren1, renO, va, va2, va1, vaO, inDom, stA, Int.reduceEq, ↓reduceIte, reduceCtorEq, Nat.reduceEqDiff, Nat.reduceLT, Nat.reduceLeDiff, Nat.reduceAdd, Nat.reduceSub, Nat.reduceMul, Int.reduceToNat, Int.reduceLE, Int.reduceLT, Z4, Sp_sealed_Open, Sp_field_Take, Sp_super_Pack, Sp_bytes_Equal, x_ar49, x_bt3, x_el24, x_el49, x_fo23_0, x_fo23_1, x_fo23_2, x_fo23_3, x_pl23, x_pt3, x_tk23, x_tk3, x_zc23, x_zc3, hbt, hop, hmt, hg, hlt, ht1, ht2, hlb, hst, htp, W4s, nth, List.getD_cons_zero, List.getD_cons_succ, cutOk, all_B, mB_inj, Sg3, St.updIf, ifc_nil, gt_ifc, go_ifc, ite_self, Option.none_or, Option.some_or]
                            (try ((repeat' first | (refine And.intro ?_ ?_) | (intro hc; first | cases hc | ((try rw [hc]); (try simp only [stH] at hc); (try (exfalso; omega)))))
                                  all_goals first | (refine hK _ _ ?_; clear hK K; simp only [St.upd, St.put, List.nil_append, List.cons_append, List.singleton_append, List.append_nil]) | exact hK | omega))))
    all_goals (refine Ends.of (nm []) (by first | exact .inl rfl | exact .inr rfl) ?_; simp (disch := omega) only [awl, ev1, evk, evc, gv, e_move, e_pick, e_bin, binW, e_un, e_cnv, e_conv, e_str, e_mark, e_copy, e_extract, e_len, e_mm, e_nil, e_index, e_field, e_load, e_fld, e_cut, e_alloc, e_box, e_make, e_build, e_lit, e_store, e_app, e_call, args, pus, pu, pu1, toDL, toD, toD1, toDs, elems, idsW, idsV, lenV, oint, cutOk, ldV, subD, newD, fillV, cellsV, one1, one0, zD, cD0, scs, St.upd, St.put, St.ev, St.keep, gt, go, tmOf, ofD, dOk, cV, cV0, renM, Value.oneCell', keepL, freshL, vaOL, outB, wkTm, subL, ninL, injL, nm, resW, resL, resV, shift, ren, ren2, ren1, renO, va, va2, va1, vaO, inDom, stA, Int.reduceEq, ↓reduceIte, reduceCtorEq, Nat.reduceEqDiff, Nat.reduceLT, Nat.reduceLeDiff, Nat.reduceAdd, Nat.reduceSub, Nat.reduceMul, Int.reduceToNat, Int.reduceLE, Int.reduceLT, Z4, Sp_sealed_Open, Sp_field_Take, Sp_super_Pack, Sp_bytes_Equal, x_ar49, x_bt3, x_el24, x_el49, x_fo23_0, x_fo23_1, x_fo23_2, x_fo23_3, x_pl23, x_pt3, x_tk23, x_tk3, x_zc23, x_zc3, hz, sFail])
theorem ent_super_Unpack : Ent Try.prog 17 := ⟨_, Try.func17, rfl, by decide⟩
end Go.Proofs.Ytceoegbljkbgeaa.Am
