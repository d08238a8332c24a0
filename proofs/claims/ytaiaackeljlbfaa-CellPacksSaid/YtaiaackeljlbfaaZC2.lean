import Derived.Test.YtaiaackeljlbfaaZC1
import Derived.Test.YtaiaackeljlbfaaZH2
set_option linter.unusedVariables false
set_option linter.unusedSimpArgs false
set_option maxRecDepth 10000
set_option maxHeartbeats 0
namespace Go.Proofs.Ytaiaackeljlbfaa.Am
open Go Go.RowKit Go.Proofs
theorem takeL_6c {b : List Int} (h : 12 ≤ b.length) : takeL b [4, 4, 1, 1, 1, 1] = some [leV (b.take 4), leV ((b.drop 4).take 4), leV ((b.drop 8).take 1), leV ((b.drop 9).take 1), leV ((b.drop 10).take 1), leV ((b.drop 11).take 1)] := by
  simp only [takeL, List.length_drop, show (4 : Int).toNat = 4 from rfl, show (1 : Int).toNat = 1 from rfl]
  rw [if_neg (by omega), if_neg (by omega), if_neg (by omega), if_neg (by omega), if_neg (by omega), if_neg (by omega)]
  simp
theorem takeL_5c {b : List Int} (h : 12 ≤ b.length) : takeL b [4, 4, 1, 1, 1] = some [leV (b.take 4), leV ((b.drop 4).take 4), leV ((b.drop 8).take 1), leV ((b.drop 9).take 1), leV ((b.drop 10).take 1)] := by
  simp only [takeL, List.length_drop, show (4 : Int).toNat = 4 from rfl, show (1 : Int).toNat = 1 from rfl]
  rw [if_neg (by omega), if_neg (by omega), if_neg (by omega), if_neg (by omega), if_neg (by omega)]
  simp
theorem leV_fourc {b : List Int} (hb : Byt b) : 0 ≤ leV (b.take 4) ∧ leV (b.take 4) < 4294967296 := by
  have h := leV_bound (byt_take hb 4)
  have : (256 : Int) ^ (b.take 4).length ≤ 256 ^ 4 := p256_mono (List.length_take_le ..)
  omega
theorem leV_onec {b : List Int} (hb : Byt b) : 0 ≤ leV (b.take 1) ∧ leV (b.take 1) < 256 := by
  have h := leV_bound (byt_take hb 1)
  have : (256 : Int) ^ (b.take 1).length ≤ 256 ^ 1 := p256_mono (List.length_take_le ..)
  omega
def cL (b : List Int) : Int := leV (b.take 4)
def cN (b : List Int) : Int := leV ((b.drop 4).take 4)
def cI (b : List Int) : Int := leV ((b.drop 8).take 1)
def cQ (b : List Int) : Int := leV ((b.drop 9).take 1)
def cS (b : List Int) : Int := leV ((b.drop 10).take 1)
def cD (b : List Int) : List Int := (b.drop 12).take (cS b).toNat
def celOk (b : List Int) : Prop := isOpen b ∧ cS b ≤ 112 ∧ mayC (cL b) (cN b) (cI b) (cQ b) (cD b).length ∧ celP (cL b) (cN b) (cI b) (cQ b) (cD b) = b
instance (b : List Int) : Decidable (celOk b) := by unfold celOk; infer_instance
def celFail : Out := ⟨.tup [.agg [.d (.v (.int .i64 0)), .d (.v (.int .i64 0)), .d (.v (.int .i64 0)), .d (.v (.int .i64 0)), .nil], .d (.v (.bool false))], []⟩
def celYes (a b c d : Int) (dt : List Int) : Out := ⟨.tup [.agg [.d (.v (.int .i64 a)), .d (.v (.int .i64 b)), .d (.v (.int .i64 c)), .d (.v (.int .i64 d)), .sl 0 1 0 dt.length true], .d (.v (.bool true))], [(0, .row 5 1 (dt.map mB))]⟩
def celOut (b : List Int) : Out := if celOk b then celYes (cL b) (cN b) (cI b) (cQ b) (cD b) else celFail
theorem cut_take {b : List Int} (i k : Nat) (h : i + k ≤ 124) : ((b.take 124).drop i).take k = (b.drop i).take k := by
  rw [List.drop_take, List.take_take, show min k (124 - i) = k by omega]
theorem byt_strnc {l m : List Int} (hl : ∀ x ∈ l, 0 ≤ x ∧ x < 256) (hm : ∀ x ∈ m, 0 ≤ x ∧ x < 256) : binV .neq (bsV l) (bsV m) = some (.bool (!decide (l = m))) := by
  have h := byt_str hl hm
  simp only [bsV, binV, Option.some.injEq, Value.bool.injEq] at h ⊢
  rw [← h]
theorem W6c (a b c d e f : Int) : [D.v (.int .i64 a), D.v (.int .i64 b), D.v (.int .i64 c), D.v (.int .i64 d), D.v (.int .i64 e), D.v (.int .i64 f)] = [a, b, c, d, e, f].map mI := rfl
theorem W6d (a b c d e f : Int) (ws : List Int) : ([D.v (.int .i64 a), D.v (.int .i64 b), D.v (.int .i64 c), D.v (.int .i64 d), D.v (.int .i64 e), D.v (.int .i64 f)] = ws.map mI) = (ws = [a, b, c, d, e, f]) := by
  rw [W6c, mI_inj]; exact propext eq_comm
theorem W5d (a b c d e : Int) (ws : List Int) : ([D.v (.int .i64 a), D.v (.int .i64 b), D.v (.int .i64 c), D.v (.int .i64 d), D.v (.int .i64 e)] = ws.map mI) = (ws = [a, b, c, d, e]) := by
  rw [show [D.v (.int .i64 a), D.v (.int .i64 b), D.v (.int .i64 c), D.v (.int .i64 d), D.v (.int .i64 e)] = [a, b, c, d, e].map mI from rfl, mI_inj]; exact propext eq_comm
theorem sealL_openc (l : List Int) : isOpen (sealL l) := by
  refine ⟨sealL_len l, ?_⟩
  have e : (sealL l).take 124 = padL l := by unfold sealL; exact List.take_left' (padL_len l)
  rw [e]
  unfold sealL
  exact (List.drop_left' (padL_len l)).symm
noncomputable def C3 : Env := ⟨Try.prog, fun f ds out => (f = 35 ∧ Sp_sealed_Open ds out) ∨ (f = 36 ∧ Sp_field_Take ds out) ∨ (f = 21 ∧ Sp_cells_Pack ds out) ∨ (f = 37 ∧ Sp_bytes_Equal ds out), Es, fun _ => false⟩
theorem C3_sp : ∀ f ds out, C3.Sp f ds out → Ent C3.P f ∧ Good C3.P f (fun a b => a = ds ∧ b = out) := by
  rintro f ds out (⟨rfl, h⟩ | ⟨rfl, h⟩ | ⟨rfl, h⟩ | ⟨rfl, h⟩)
  · exact ⟨ent_sealed_Open, good_sealed_Open.one h⟩
  · exact ⟨ent_field_Take, good_field_Take.one h⟩
  · exact ⟨ent_cells_Pack, good_cells_Pack.one h⟩
  · exact ⟨ent_bytes_Equal, good_bytes_Equal.one h⟩
theorem C3_ok : C3.Ok := ⟨C3_sp, Es_ok⟩
def Sp_cells_Unpack (ds : List D) (out : Out) : Prop := ∃ b : List Int, ds = [.list (b.map mB)] ∧ Byt b ∧ b.length ≤ 9223372036854775807 ∧ out = celOut b
def cc_cells_Unpack_7 : List (List (Option Bool)) := [[some false, some false, some false, none, none, none, none, none, none, none, none, none, none, none, none, none, none, none, none, some false, none, some false], [some true, some false, some false, none, none, none, none, none, none, none, none, none, none, none, none, none, none, none, none, some false, none, some false], [some true, some true, some false, none, none, none, none, none, none, none, none, none, none, none, none, none, none, none, none, some false, none, some false], [none, none, none, some false, some false, some false, none, none, none, none, none, none, none, none, none, none, none, none, none, some false, none, some false], [none, none, none, some true, some false, some false, none, none, none, none, none, none, none, none, none, none, none, none, none, some false, none, some false], [none, none, none, some true, some true, some false, none, none, none, none, none, none, none, none, none, none, none, none, none, some false, none, some false], [none, none, none, none, none, none, some false, some false, some false, none, none, none, none, none, none, none, none, none, none, some false, none, some false], [none, none, none, none, none, none, some true, some false, some false, none, none, none, none, none, none, none, none, none, none, some false, none, some false], [none, none, none, none, none, none, some true, some true, some false, none, none, none, none, none, none, none, none, none, none, some false, none, some false], [none, none, none, none, none, none, none, none, none, some false, some false, some false, none, none, none, none, none, none, none, some false, none, some false], [none, none, none, none, none, none, none, none, none, some true, some false, some false, none, none, none, none, none, none, none, some false, none, some false], [none, none, none, none, none, none, none, none, none, some true, some true, some false, none, none, none, none, none, none, none, some false, none, some false], [none, none, none, none, none, none, none, none, none, none, none, none, some false, none, none, none, none, some false, some false, some false, none, some false], [none, none, none, none, none, none, none, none, none, none, none, none, none, some false, some false, some false, some false, some false, some false, some false, none, some false], [none, none, none, none, none, none, none, none, none, none, none, none, none, some true, some false, some false, some false, some false, some false, some false, none, some false], [none, none, none, none, none, none, none, none, none, none, none, none, none, some true, some true, some false, some false, some false, some false, some false, none, some false], [none, none, none, none, none, none, none, none, none, none, none, none, none, some true, some true, some true, some false, some false, some false, some false, none, some false], [none, none, none, none, none, none, none, none, none, none, none, none, some true, some true, some true, some true, some true, some false, some false, some false, none, some false], [none, none, none, none, none, none, none, none, none, none, none, none, some true, some true, some true, some true, some true, some true, some false, some false, none, some false], [some true, some true, some true, some true, some true, some true, some true, some true, some true, some true, some true, some true, some true, some true, some true, some true, some true, some true, some true, some false, none, some false], [none, none, none, none, none, none, none, none, none, none, none, none, none, none, none, none, none, none, none, none, some false, some false], [some true, some true, some true, some true, some true, some true, some true, some true, some true, some true, some true, some true, some true, some true, some true, some true, some true, some true, some true, some true, some true, some false]]
theorem good_cells_Unpack : Good Try.prog 25 Sp_cells_Unpack := by
  refine good_body (E := C3) (nt := 65) (rs := #[.cell 2 29, .tmp 3]) Try.func25 rfl rfl rfl ?_
  rintro ds out ⟨b, rfl, hb, hl, rfl⟩
  refine ⟨by simp, ?_⟩
  have hbt : Byt b = True := eq_true hb
  by_cases ho : isOpen b
  case neg =>
    have hop : openOut b = ⟨.tup [.nil, .d (.v (.bool false))], []⟩ := by rw [openOut, if_neg ho]
    have hz : celOut b = celFail := by rw [celOut, if_neg fun h => ho h.1]
    repeat' first
                    | (refine AW.seq ?_)
                    | (refine AW.block ?_)
                    | (refine AW.regl C3_ok [0, 2, 3, 4, 5, 6, 8, 9, 10, 17, 28, 62] ?_)
                    | (refine AW.regc (id := 7) C3_ok follows [0, 1, 3, 0, 8, 24, 0, 64, 192, 0, 512, 1536, 0, 0, 8192, 24576, 57344, 126976, 258048, 524287, 0, 2097151] (by kernel_rfl) [0, 2, 3, 4, 5, 6, 8, 9, 10, 17, 28, 62] ?_)
                    | (refine then_n ?_)
                    | (refine then_r ?_)
                    | (refine then_x ?_)
                    | (refine block_x ?_)
                    | (refine block_o (by decide) ?_)
                    | (refine block_n ?_)
                    | (refine block_r ?_)
                    | (refine AW.skip ?_)
                    | (refine AW.ret ?_)
                    | (refine AW.exit ?_)
                    | (refine AW.cond rfl ?_ ?_ <;> (intro hc; first | cases hc | ((try rw [hc]); (try simp only [stH] at hc); (try (exfalso; omega)))))
                    | ((first
                          | (refine awl_none rfl fun K hK => ?_)
                          | (refine awl_nil ?_)
                          | (refine awl_some rfl rfl (Nat.le_of_ble_eq_true rfl) rfl rfl ?_ ?_ <;> (intro hc; first | cases hc | ((try rw [hc]); (try simp only [stH] at hc); (try (exfalso; omega)))) <;> (try intro K hK))
                          | (refine awl_skip rfl rfl (Nat.le_of_ble_eq_true rfl) rfl rfl ?_)
                          | (refine awc_none rfl fun K hK => ?_)
                          | (refine awc_some rfl rfl (Nat.le_of_ble_eq_true rfl) rfl rfl ?_ ?_ <;> (intro hc; first | cases hc | ((try rw [hc]); (try simp only [stH] at hc); (try (exfalso; omega)))) <;> (try intro K hK))
                          | exact each_nil
                          | (refine each_none rfl ?_ ?_ <;> (try intro bb K hK))
                          | (refine awc_leaf [some 30, some 31, some 32, some 33, some 34, some 35, some 36, some 37, some 38, some 39, some 40, some 41, some 42, some 43, some 44, some 45, some 46, some 47, some 48, some 49, some 8, none] cc_cells_Unpack_7 rfl (by kernel_rfl) (by kernel_rfl) ?_ ?_))
                       all_goals first
                         | (show Awl _ _ _ _ _; simp only [St.upd, St.put, List.nil_append, List.cons_append, List.singleton_append, List.append_nil])
                         | (show Awc _ _ _ _ _ _; simp only [St.upd, St.put, List.nil_append, List.cons_append, List.singleton_append, List.append_nil])
                         | (show Each _ _ _ _ _ _ _ _; skip)
                         | (simp (disch := omega) only [awl, ev1, evk, evc, gv, e_move, e_pick, e_bin, binW, e_un, e_cnv, e_conv, e_str, e_mark, e_copy, e_extract, e_len, e_mm, e_nil, e_index, e_field, e_load, e_fld, e_cut, e_alloc, e_box, e_make, e_build, e_lit, e_store, e_app, e_call, e_callF, idsA, killL, so, args, pus, pu, pu1, toDL, toD, toD1, toDs, elems, idsW, idsV, lenV, oint, cutOk, ldV, subD, newD, fillV, cellsV, one1, one0, zD, cD0, scs, St.upd, St.put, St.ev, St.keep, gt, go, tmOf, ofD, dOk, cV, cV0, renM, Value.oneCell', keepL, freshL, vaOL, outB, wkTm, subL, ninL, injL, nm, resW, resL, resV, shift, ren, ren2, ren1, renO, va, va2, va1, vaO, inDom, stA, Int.reduceEq, ↓reduceIte, reduceCtorEq, Nat.reduceEqDiff, Nat.reduceLT, Nat.reduceLeDiff, Nat.reduceAdd, Nat.reduceSub, Nat.reduceMul, Int.reduceToNat, Int.reduceLE, Int.reduceLT, C3, Sp_sealed_Open, Sp_field_Take, Sp_cells_Pack, Sp_bytes_Equal, x_ar60, x_bt3, x_el27, x_el60, x_pl29, x_pt3, x_slt27, x_tk29, x_tk3, x_zc29, x_zc3, x_zc5, hbt, hop, mB_inj, Sg3, St.updIf, ifc_nil, gt_ifc, go_ifc, ite_self, Option.none_or, Option.some_or]
                            (try ((repeat' first | (refine And.intro ?_ ?_) | (intro hc; first | cases hc | ((try rw [hc]); (try simp only [stH] at hc); (try (exfalso; omega)))))
                                  all_goals first | (refine hK _ _ ?_; clear hK K; simp only [St.upd, St.put, List.nil_append, List.cons_append, List.singleton_append, List.append_nil]) | exact hK | omega))))
    (refine Ends.of (nm []) (by first | exact .inl rfl | exact .inr rfl) ?_; simp (disch := omega) only [awl, ev1, evk, evc, gv, e_move, e_pick, e_bin, binW, e_un, e_cnv, e_conv, e_str, e_mark, e_copy, e_extract, e_len, e_mm, e_nil, e_index, e_field, e_load, e_fld, e_cut, e_alloc, e_box, e_make, e_build, e_lit, e_store, e_app, e_call, e_callF, idsA, killL, so, args, pus, pu, pu1, toDL, toD, toD1, toDs, elems, idsW, idsV, lenV, oint, cutOk, ldV, subD, newD, fillV, cellsV, one1, one0, zD, cD0, scs, St.upd, St.put, St.ev, St.keep, gt, go, tmOf, ofD, dOk, cV, cV0, renM, Value.oneCell', keepL, freshL, vaOL, outB, wkTm, subL, ninL, injL, nm, resW, resL, resV, shift, ren, ren2, ren1, renO, va, va2, va1, vaO, inDom, stA, Int.reduceEq, ↓reduceIte, reduceCtorEq, Nat.reduceEqDiff, Nat.reduceLT, Nat.reduceLeDiff, Nat.reduceAdd, Nat.reduceSub, Nat.reduceMul, Int.reduceToNat, Int.reduceLE, Int.reduceLT, C3, Sp_sealed_Open, Sp_field_Take, Sp_cells_Pack, Sp_bytes_Equal, x_ar60, x_bt3, x_el27, x_el60, x_pl29, x_pt3, x_slt27, x_tk29, x_tk3, x_zc29, x_zc3, x_zc5, hz, celFail])
  have h8 := ho.1
  have hop : openOut b = ⟨.tup [.sl 0 1 0 124 true, .d (.v (.bool true))], [(0, .row 5 1 ((b.take 124).map mB))]⟩ := by rw [openOut, if_pos ho]
  have hlt : (b.take 124).length = 124 := by rw [List.length_take]; omega
  have hit : ((b.take 124).map mB).take 124 = (b.take 124).map mB := List.take_of_length_le (by rw [List.length_map, hlt]; omega)
  have hib : Byt (b.take 124) = True := eq_true (byt_take hb _)
  obtain ⟨u, hu⟩ : ∃ u, leV (((b.take 124).drop 11).take 1) = u := ⟨_, rfl⟩
  have hg : takeOut (b.take 124) [4, 4, 1, 1, 1, 1] = ⟨.tup [.sl 0 1 0 6 true, .d (.v (.bool true))], [(0, .row 3 1 [.v (.int .i64 (cL b)), .v (.int .i64 (cN b)), .v (.int .i64 (cI b)), .v (.int .i64 (cQ b)), .v (.int .i64 (cS b)), .v (.int .i64 u)])]⟩ := by
    have e0 := cut_take (b := b) 0 4 (by omega)
    rw [List.drop_zero, List.drop_zero] at e0
    rw [takeOut, takeL_6c (by omega), e0, cut_take 4 4 (by omega), cut_take 8 1 (by omega), cut_take 9 1 (by omega), cut_take 10 1 (by omega), hu]; rfl
  have b5 : 0 ≤ cS b ∧ cS b < 256 := leV_onec (byt_drop hb _)
  have b1 : 0 ≤ cL b ∧ cL b < 4294967296 := leV_fourc hb
  by_cases h112 : cS b ≤ 112
  case neg =>
    have hz : celOut b = celFail := by rw [celOut, if_neg fun h => h112 h.2.1]
    repeat' first
                    | (refine AW.seq ?_)
                    | (refine AW.block ?_)
                    | (refine AW.regl C3_ok [0, 2, 3, 4, 5, 6, 8, 9, 10, 17, 28, 62] ?_)
                    | (refine AW.regc (id := 7) C3_ok follows [0, 1, 3, 0, 8, 24, 0, 64, 192, 0, 512, 1536, 0, 0, 8192, 24576, 57344, 126976, 258048, 524287, 0, 2097151] (by kernel_rfl) [0, 2, 3, 4, 5, 6, 8, 9, 10, 17, 28, 62] ?_)
                    | (refine then_n ?_)
                    | (refine then_r ?_)
                    | (refine then_x ?_)
                    | (refine block_x ?_)
                    | (refine block_o (by decide) ?_)
                    | (refine block_n ?_)
                    | (refine block_r ?_)
                    | (refine AW.skip ?_)
                    | (refine AW.ret ?_)
                    | (refine AW.exit ?_)
                    | (refine AW.cond rfl ?_ ?_ <;> (intro hc; first | cases hc | ((try rw [hc]); (try simp only [stH] at hc); (try (exfalso; omega)))))
                    | ((first
                          | (refine awl_none rfl fun K hK => ?_)
                          | (refine awl_nil ?_)
                          | (refine awl_some rfl rfl (Nat.le_of_ble_eq_true rfl) rfl rfl ?_ ?_ <;> (intro hc; first | cases hc | ((try rw [hc]); (try simp only [stH] at hc); (try (exfalso; omega)))) <;> (try intro K hK))
                          | (refine awl_skip rfl rfl (Nat.le_of_ble_eq_true rfl) rfl rfl ?_)
                          | (refine awc_none rfl fun K hK => ?_)
                          | (refine awc_some rfl rfl (Nat.le_of_ble_eq_true rfl) rfl rfl ?_ ?_ <;> (intro hc; first | cases hc | ((try rw [hc]); (try simp only [stH] at hc); (try (exfalso; omega)))) <;> (try intro K hK))
                          | exact each_nil
                          | (refine each_none rfl ?_ ?_ <;> (try intro bb K hK))
                          | (refine awc_leaf [some 30, some 31, some 32, some 33, some 34, some 35, some 36, some 37, some 38, some 39, some 40, some 41, some 42, some 43, some 44, some 45, some 46, some 47, some 48, some 49, some 8, none] cc_cells_Unpack_7 rfl (by kernel_rfl) (by kernel_rfl) ?_ ?_))
                       all_goals first
                         | (show Awl _ _ _ _ _; simp only [St.upd, St.put, List.nil_append, List.cons_append, List.singleton_append, List.append_nil])
                         | (show Awc _ _ _ _ _ _; simp only [St.upd, St.put, List.nil_append, List.cons_append, List.singleton_append, List.append_nil])
                         | (show Each _ _ _ _ _ _ _ _; skip)
                         | (simp (disch := omega) only [awl, ev1, evk, evc, gv, e_move, e_pick, e_bin, binW, e_un, e_cnv, e_conv, e_str, e_mark, e_copy, e_extract, e_len, e_mm, e_nil, e_index, e_field, e_load, e_fld, e_cut, e_alloc, e_box, e_make, e_build, e_lit, e_store, e_app, e_call, e_callF, idsA, killL, so, args, pus, pu, pu1, toDL, toD, toD1, toDs, elems, idsW, idsV, lenV, oint, cutOk, ldV, subD, newD, fillV, cellsV, one1, one0, zD, cD0, scs, St.upd, St.put, St.ev, St.keep, gt, go, tmOf, ofD, dOk, cV, cV0, renM, Value.oneCell', keepL, freshL, vaOL, outB, wkTm, subL, ninL, injL, nm, resW, resL, resV, shift, ren, ren2, ren1, renO, va, va2, va1, vaO, inDom, stA, Int.reduceEq, ↓reduceIte, reduceCtorEq, Nat.reduceEqDiff, Nat.reduceLT, Nat.reduceLeDiff, Nat.reduceAdd, Nat.reduceSub, Nat.reduceMul, Int.reduceToNat, Int.reduceLE, Int.reduceLT, C3, Sp_sealed_Open, Sp_field_Take, Sp_cells_Pack, Sp_bytes_Equal, x_ar60, x_bt3, x_el27, x_el60, x_pl29, x_pt3, x_slt27, x_tk29, x_tk3, x_zc29, x_zc3, x_zc5, hbt, hop, hlt, hit, hib, hg, W6d, nth, List.getD_cons_zero, List.getD_cons_succ, mB_inj, Sg3, St.updIf, ifc_nil, gt_ifc, go_ifc, ite_self, Option.none_or, Option.some_or]
                            (try ((repeat' first | (refine And.intro ?_ ?_) | (intro hc; first | cases hc | ((try rw [hc]); (try simp only [stH] at hc); (try (exfalso; omega)))))
                                  all_goals first | (refine hK _ _ ?_; clear hK K; simp only [St.upd, St.put, List.nil_append, List.cons_append, List.singleton_append, List.append_nil]) | exact hK | omega))))
    (refine Ends.of (nm []) (by first | exact .inl rfl | exact .inr rfl) ?_; simp (disch := omega) only [awl, ev1, evk, evc, gv, e_move, e_pick, e_bin, binW, e_un, e_cnv, e_conv, e_str, e_mark, e_copy, e_extract, e_len, e_mm, e_nil, e_index, e_field, e_load, e_fld, e_cut, e_alloc, e_box, e_make, e_build, e_lit, e_store, e_app, e_call, e_callF, idsA, killL, so, args, pus, pu, pu1, toDL, toD, toD1, toDs, elems, idsW, idsV, lenV, oint, cutOk, ldV, subD, newD, fillV, cellsV, one1, one0, zD, cD0, scs, St.upd, St.put, St.ev, St.keep, gt, go, tmOf, ofD, dOk, cV, cV0, renM, Value.oneCell', keepL, freshL, vaOL, outB, wkTm, subL, ninL, injL, nm, resW, resL, resV, shift, ren, ren2, ren1, renO, va, va2, va1, vaO, inDom, stA, Int.reduceEq, ↓reduceIte, reduceCtorEq, Nat.reduceEqDiff, Nat.reduceLT, Nat.reduceLeDiff, Nat.reduceAdd, Nat.reduceSub, Nat.reduceMul, Int.reduceToNat, Int.reduceLE, Int.reduceLT, C3, Sp_sealed_Open, Sp_field_Take, Sp_cells_Pack, Sp_bytes_Equal, x_ar60, x_bt3, x_el27, x_el60, x_pl29, x_pt3, x_slt27, x_tk29, x_tk3, x_zc29, x_zc3, x_zc5, hz, celFail])
  have hdl : ((cD b).length : Int) = cS b := by unfold cD; rw [List.length_take, List.length_drop]; omega
  obtain ⟨k, hk⟩ : ∃ k : Nat, cS b = k := ⟨(cS b).toNat, by omega⟩
  have hdk : (cD b).length = k := by omega
  have hcd : (((b.take 124).map mB).drop 12).take ((12 + (k : Int)).toNat - 12) = (cD b).map mB := by
    rw [show (12 + (k : Int)).toNat - 12 = k by omega, ← List.map_drop, ← List.map_take, cut_take 12 k (by omega)]; unfold cD; rw [hk]; rfl
  have hcb : Byt (cD b) := byt_take (byt_drop hb _) _
  have hct : ((cD b).map mB).take (cD b).length = (cD b).map mB := List.take_of_length_le (by simp)
  by_cases hm : mayC (cL b) (cN b) (cI b) (cQ b) (cD b).length
  case neg =>
    have hz : celOut b = celFail := by rw [celOut, if_neg fun h => hm h.2.2.1]
    have hp : packCOut (cL b) (cN b) (cI b) (cQ b) (cD b) = ⟨.tup [.nil, .d (.v (.bool false))], []⟩ := if_neg hm
    clear hm
    repeat' first
                    | (refine AW.seq ?_)
                    | (refine AW.block ?_)
                    | (refine AW.regl C3_ok [0, 2, 3, 4, 5, 6, 8, 9, 10, 17, 28, 62] ?_)
                    | (refine AW.regc (id := 7) C3_ok follows [0, 1, 3, 0, 8, 24, 0, 64, 192, 0, 512, 1536, 0, 0, 8192, 24576, 57344, 126976, 258048, 524287, 0, 2097151] (by kernel_rfl) [0, 2, 3, 4, 5, 6, 8, 9, 10, 17, 28, 62] ?_)
                    | (refine then_n ?_)
                    | (refine then_r ?_)
                    | (refine then_x ?_)
                    | (refine block_x ?_)
                    | (refine block_o (by decide) ?_)
                    | (refine block_n ?_)
                    | (refine block_r ?_)
                    | (refine AW.skip ?_)
                    | (refine AW.ret ?_)
                    | (refine AW.exit ?_)
                    | (refine AW.cond rfl ?_ ?_ <;> (intro hc; first | cases hc | ((try rw [hc]); (try simp only [stH] at hc); (try (exfalso; omega)))))
                    | ((first
                          | (refine awl_none rfl fun K hK => ?_)
                          | (refine awl_nil ?_)
                          | (refine awl_some rfl rfl (Nat.le_of_ble_eq_true rfl) rfl rfl ?_ ?_ <;> (intro hc; first | cases hc | ((try rw [hc]); (try simp only [stH] at hc); (try (exfalso; omega)))) <;> (try intro K hK))
                          | (refine awl_skip rfl rfl (Nat.le_of_ble_eq_true rfl) rfl rfl ?_)
                          | (refine awc_none rfl fun K hK => ?_)
                          | (refine awc_some rfl rfl (Nat.le_of_ble_eq_true rfl) rfl rfl ?_ ?_ <;> (intro hc; first | cases hc | ((try rw [hc]); (try simp only [stH] at hc); (try (exfalso; omega)))) <;> (try intro K hK))
                          | exact each_nil
                          | (refine each_none rfl ?_ ?_ <;> (try intro bb K hK))
                          | (refine awc_leaf [some 30, some 31, some 32, some 33, some 34, some 35, some 36, some 37, some 38, some 39, some 40, some 41, some 42, some 43, some 44, some 45, some 46, some 47, some 48, some 49, some 8, none] cc_cells_Unpack_7 rfl (by kernel_rfl) (by kernel_rfl) ?_ ?_))
                       all_goals first
                         | (show Awl _ _ _ _ _; simp only [St.upd, St.put, List.nil_append, List.cons_append, List.singleton_append, List.append_nil])
                         | (show Awc _ _ _ _ _ _; simp only [St.upd, St.put, List.nil_append, List.cons_append, List.singleton_append, List.append_nil])
                         | (show Each _ _ _ _ _ _ _ _; skip)
                         | (simp (disch := omega) only [awl, ev1, evk, evc, gv, e_move, e_pick, e_bin, binW, e_un, e_cnv, e_conv, e_str, e_mark, e_copy, e_extract, e_len, e_mm, e_nil, e_index, e_field, e_load, e_fld, e_cut, e_alloc, e_box, e_make, e_build, e_lit, e_store, e_app, e_call, e_callF, idsA, killL, so, args, pus, pu, pu1, toDL, toD, toD1, toDs, elems, idsW, idsV, lenV, oint, cutOk, ldV, subD, newD, fillV, cellsV, one1, one0, zD, cD0, scs, St.upd, St.put, St.ev, St.keep, gt, go, tmOf, ofD, dOk, cV, cV0, renM, Value.oneCell', keepL, freshL, vaOL, outB, wkTm, subL, ninL, injL, nm, resW, resL, resV, shift, ren, ren2, ren1, renO, va, va2, va1, vaO, inDom, stA, Int.reduceEq, ↓reduceIte, reduceCtorEq, Nat.reduceEqDiff, Nat.reduceLT, Nat.reduceLeDiff, Nat.reduceAdd, Nat.reduceSub, Nat.reduceMul, Int.reduceToNat, Int.reduceLE, Int.reduceLT, C3, Sp_sealed_Open, Sp_field_Take, Sp_cells_Pack, Sp_bytes_Equal, x_ar60, x_bt3, x_el27, x_el60, x_pl29, x_pt3, x_slt27, x_tk29, x_tk3, x_zc29, x_zc3, x_zc5, hbt, hop, hlt, hit, hib, hg, W6d, nth, List.getD_cons_zero, List.getD_cons_succ, hk, hcd, hct, hp, mB_inj, Sg3, St.updIf, ifc_nil, gt_ifc, go_ifc, ite_self, Option.none_or, Option.some_or]
                            (try ((repeat' first | (refine And.intro ?_ ?_) | (intro hc; first | cases hc | ((try rw [hc]); (try simp only [stH] at hc); (try (exfalso; omega)))))
                                  all_goals first | (refine hK _ _ ?_; clear hK K; simp only [St.upd, St.put, List.nil_append, List.cons_append, List.singleton_append, List.append_nil]) | exact hK | omega))))
    (refine Ends.of (nm []) (by first | exact .inl rfl | exact .inr rfl) ?_; simp (disch := omega) only [awl, ev1, evk, evc, gv, e_move, e_pick, e_bin, binW, e_un, e_cnv, e_conv, e_str, e_mark, e_copy, e_extract, e_len, e_mm, e_nil, e_index, e_field, e_load, e_fld, e_cut, e_alloc, e_box, e_make, e_build, e_lit, e_store, e_app, e_call, e_callF, idsA, killL, so, args, pus, pu, pu1, toDL, toD, toD1, toDs, elems, idsW, idsV, lenV, oint, cutOk, ldV, subD, newD, fillV, cellsV, one1, one0, zD, cD0, scs, St.upd, St.put, St.ev, St.keep, gt, go, tmOf, ofD, dOk, cV, cV0, renM, Value.oneCell', keepL, freshL, vaOL, outB, wkTm, subL, ninL, injL, nm, resW, resL, resV, shift, ren, ren2, ren1, renO, va, va2, va1, vaO, inDom, stA, Int.reduceEq, ↓reduceIte, reduceCtorEq, Nat.reduceEqDiff, Nat.reduceLT, Nat.reduceLeDiff, Nat.reduceAdd, Nat.reduceSub, Nat.reduceMul, Int.reduceToNat, Int.reduceLE, Int.reduceLT, C3, Sp_sealed_Open, Sp_field_Take, Sp_cells_Pack, Sp_bytes_Equal, x_ar60, x_bt3, x_el27, x_el60, x_pl29, x_pt3, x_slt27, x_tk29, x_tk3, x_zc29, x_zc3, x_zc5, hz, celFail])
  obtain ⟨P, eP⟩ : ∃ P, celP (cL b) (cN b) (cI b) (cQ b) (cD b) = P := ⟨_, rfl⟩
  have hp : packCOut (cL b) (cN b) (cI b) (cQ b) (cD b) = ⟨.tup [.sl 0 1 0 128 true, .d (.v (.bool true))], [(0, .row 5 1 (P.map mB))]⟩ := by rw [packCOut, if_pos hm, eP]
  have hpb : Byt P = True := eq_true (eP ▸ celP_byt hcb)
  have hpl : P.length = 128 := eP ▸ celP_len _ _ _ _ _
  have hpt : (P.map mB).take 128 = P.map mB := List.take_of_length_le (by rw [List.length_map, hpl]; omega)
  have hbl : (b.map mB).take b.length = b.map mB := List.take_of_length_le (by simp)
  by_cases he : P = b
  · have hz : celOut b = celYes (cL b) (cN b) (cI b) (cQ b) (cD b) := by rw [celOut, if_pos ⟨ho, h112, hm, eP.trans he⟩]
    have hd : decide (P = b) = true := decide_eq_true he
    clear hm he eP b1
    repeat' first
                    | (refine AW.seq ?_)
                    | (refine AW.block ?_)
                    | (refine AW.regl C3_ok [0, 2, 3, 4, 5, 6, 8, 9, 10, 17, 28, 62] ?_)
                    | (refine AW.regc (id := 7) C3_ok follows [0, 1, 3, 0, 8, 24, 0, 64, 192, 0, 512, 1536, 0, 0, 8192, 24576, 57344, 126976, 258048, 524287, 0, 2097151] (by kernel_rfl) [0, 2, 3, 4, 5, 6, 8, 9, 10, 17, 28, 62] ?_)
                    | (refine then_n ?_)
                    | (refine then_r ?_)
                    | (refine then_x ?_)
                    | (refine block_x ?_)
                    | (refine block_o (by decide) ?_)
                    | (refine block_n ?_)
                    | (refine block_r ?_)
                    | (refine AW.skip ?_)
                    | (refine AW.ret ?_)
                    | (refine AW.exit ?_)
                    | (refine AW.cond rfl ?_ ?_ <;> (intro hc; first | cases hc | ((try rw [hc]); (try simp only [stH] at hc); (try (exfalso; omega)))))
                    | ((first
                          | (refine awl_none rfl fun K hK => ?_)
                          | (refine awl_nil ?_)
                          | (refine awl_some rfl rfl (Nat.le_of_ble_eq_true rfl) rfl rfl ?_ ?_ <;> (intro hc; first | cases hc | ((try rw [hc]); (try simp only [stH] at hc); (try (exfalso; omega)))) <;> (try intro K hK))
                          | (refine awl_skip rfl rfl (Nat.le_of_ble_eq_true rfl) rfl rfl ?_)
                          | (refine awc_none rfl fun K hK => ?_)
                          | (refine awc_some rfl rfl (Nat.le_of_ble_eq_true rfl) rfl rfl ?_ ?_ <;> (intro hc; first | cases hc | ((try rw [hc]); (try simp only [stH] at hc); (try (exfalso; omega)))) <;> (try intro K hK))
                          | exact each_nil
                          | (refine each_none rfl ?_ ?_ <;> (try intro bb K hK))
                          | (refine awc_leaf [some 30, some 31, some 32, some 33, some 34, some 35, some 36, some 37, some 38, some 39, some 40, some 41, some 42, some 43, some 44, some 45, some 46, some 47, some 48, some 49, some 8, none] cc_cells_Unpack_7 rfl (by kernel_rfl) (by kernel_rfl) ?_ ?_))
                       all_goals first
                         | (show Awl _ _ _ _ _; simp only [St.upd, St.put, List.nil_append, List.cons_append, List.singleton_append, List.append_nil])
                         | (show Awc _ _ _ _ _ _; simp only [St.upd, St.put, List.nil_append, List.cons_append, List.singleton_append, List.append_nil])
                         | (show Each _ _ _ _ _ _ _ _; skip)
                         | (simp (disch := omega) only [awl, ev1, evk, evc, gv, e_move, e_pick, e_bin, binW, e_un, e_cnv, e_conv, e_str, e_mark, e_copy, e_extract, e_len, e_mm, e_nil, e_index, e_field, e_load, e_fld, e_cut, e_alloc, e_box, e_make, e_build, e_lit, e_store, e_app, e_call, e_callF, idsA, killL, so, args, pus, pu, pu1, toDL, toD, toD1, toDs, elems, idsW, idsV, lenV, oint, cutOk, ldV, subD, newD, fillV, cellsV, one1, one0, zD, cD0, scs, St.upd, St.put, St.ev, St.keep, gt, go, tmOf, ofD, dOk, cV, cV0, renM, Value.oneCell', keepL, freshL, vaOL, outB, wkTm, subL, ninL, injL, nm, resW, resL, resV, shift, ren, ren2, ren1, renO, va, va2, va1, vaO, inDom, stA, Int.reduceEq, ↓reduceIte, reduceCtorEq, Nat.reduceEqDiff, Nat.reduceLT, Nat.reduceLeDiff, Nat.reduceAdd, Nat.reduceSub, Nat.reduceMul, Int.reduceToNat, Int.reduceLE, Int.reduceLT, C3, Sp_sealed_Open, Sp_field_Take, Sp_cells_Pack, Sp_bytes_Equal, x_ar60, x_bt3, x_el27, x_el60, x_pl29, x_pt3, x_slt27, x_tk29, x_tk3, x_zc29, x_zc3, x_zc5, hbt, hop, hlt, hit, hib, hg, W6d, nth, List.getD_cons_zero, List.getD_cons_succ, hk, hcd, hct, hp, hpb, hpl, hpt, hbl, hd, mB_inj, Sg3, St.updIf, ifc_nil, gt_ifc, go_ifc, ite_self, Option.none_or, Option.some_or]
                            (try ((repeat' first | (refine And.intro ?_ ?_) | (intro hc; first | cases hc | ((try rw [hc]); (try simp only [stH] at hc); (try (exfalso; omega)))))
                                  all_goals first | (refine hK _ _ ?_; clear hK K; simp only [St.upd, St.put, List.nil_append, List.cons_append, List.singleton_append, List.append_nil]) | exact hK | omega))))
    (refine Ends.of (nm [(0, 48)]) (by first | exact .inl rfl | exact .inr rfl) ?_; simp (disch := omega) only [awl, ev1, evk, evc, gv, e_move, e_pick, e_bin, binW, e_un, e_cnv, e_conv, e_str, e_mark, e_copy, e_extract, e_len, e_mm, e_nil, e_index, e_field, e_load, e_fld, e_cut, e_alloc, e_box, e_make, e_build, e_lit, e_store, e_app, e_call, e_callF, idsA, killL, so, args, pus, pu, pu1, toDL, toD, toD1, toDs, elems, idsW, idsV, lenV, oint, cutOk, ldV, subD, newD, fillV, cellsV, one1, one0, zD, cD0, scs, St.upd, St.put, St.ev, St.keep, gt, go, tmOf, ofD, dOk, cV, cV0, renM, Value.oneCell', keepL, freshL, vaOL, outB, wkTm, subL, ninL, injL, nm, resW, resL, resV, shift, ren, ren2, ren1, renO, va, va2, va1, vaO, inDom, stA, Int.reduceEq, ↓reduceIte, reduceCtorEq, Nat.reduceEqDiff, Nat.reduceLT, Nat.reduceLeDiff, Nat.reduceAdd, Nat.reduceSub, Nat.reduceMul, Int.reduceToNat, Int.reduceLE, Int.reduceLT, C3, Sp_sealed_Open, Sp_field_Take, Sp_cells_Pack, Sp_bytes_Equal, x_ar60, x_bt3, x_el27, x_el60, x_pl29, x_pt3, x_slt27, x_tk29, x_tk3, x_zc29, x_zc3, x_zc5, hz, celYes])
  · have hz : celOut b = celFail := by rw [celOut, if_neg fun h => he (eP.symm.trans h.2.2.2)]
    have hd : decide (P = b) = false := decide_eq_false he
    clear hm he eP b1
    repeat' first
                    | (refine AW.seq ?_)
                    | (refine AW.block ?_)
                    | (refine AW.regl C3_ok [0, 2, 3, 4, 5, 6, 8, 9, 10, 17, 28, 62] ?_)
                    | (refine AW.regc (id := 7) C3_ok follows [0, 1, 3, 0, 8, 24, 0, 64, 192, 0, 512, 1536, 0, 0, 8192, 24576, 57344, 126976, 258048, 524287, 0, 2097151] (by kernel_rfl) [0, 2, 3, 4, 5, 6, 8, 9, 10, 17, 28, 62] ?_)
                    | (refine then_n ?_)
                    | (refine then_r ?_)
                    | (refine then_x ?_)
                    | (refine block_x ?_)
                    | (refine block_o (by decide) ?_)
                    | (refine block_n ?_)
                    | (refine block_r ?_)
                    | (refine AW.skip ?_)
                    | (refine AW.ret ?_)
                    | (refine AW.exit ?_)
                    | (refine AW.cond rfl ?_ ?_ <;> (intro hc; first | cases hc | ((try rw [hc]); (try simp only [stH] at hc); (try (exfalso; omega)))))
                    | ((first
                          | (refine awl_none rfl fun K hK => ?_)
                          | (refine awl_nil ?_)
                          | (refine awl_some rfl rfl (Nat.le_of_ble_eq_true rfl) rfl rfl ?_ ?_ <;> (intro hc; first | cases hc | ((try rw [hc]); (try simp only [stH] at hc); (try (exfalso; omega)))) <;> (try intro K hK))
                          | (refine awl_skip rfl rfl (Nat.le_of_ble_eq_true rfl) rfl rfl ?_)
                          | (refine awc_none rfl fun K hK => ?_)
                          | (refine awc_some rfl rfl (Nat.le_of_ble_eq_true rfl) rfl rfl ?_ ?_ <;> (intro hc; first | cases hc | ((try rw [hc]); (try simp only [stH] at hc); (try (exfalso; omega)))) <;> (try intro K hK))
                          | exact each_nil
                          | (refine each_none rfl ?_ ?_ <;> (try intro bb K hK))
                          | (refine awc_leaf [some 30, some 31, some 32, some 33, some 34, some 35, some 36, some 37, some 38, some 39, some 40, some 41, some 42, some 43, some 44, some 45, some 46, some 47, some 48, some 49, some 8, none] cc_cells_Unpack_7 rfl (by kernel_rfl) (by kernel_rfl) ?_ ?_))
                       all_goals first
                         | (show Awl _ _ _ _ _; simp only [St.upd, St.put, List.nil_append, List.cons_append, List.singleton_append, List.append_nil])
                         | (show Awc _ _ _ _ _ _; simp only [St.upd, St.put, List.nil_append, List.cons_append, List.singleton_append, List.append_nil])
                         | (show Each _ _ _ _ _ _ _ _; skip)
                         | (simp (disch := omega) only [awl, ev1, evk, evc, gv, e_move, e_pick, e_bin, binW, e_un, e_cnv, e_conv, e_str, e_mark, e_copy, e_extract, e_len, e_mm, e_nil, e_index, e_field, e_load, e_fld, e_cut, e_alloc, e_box, e_make, e_build, e_lit, e_store, e_app, e_call, e_callF, idsA, killL, so, args, pus, pu, pu1, toDL, toD, toD1, toDs, elems, idsW, idsV, lenV, oint, cutOk, ldV, subD, newD, fillV, cellsV, one1, one0, zD, cD0, scs, St.upd, St.put, St.ev, St.keep, gt, go, tmOf, ofD, dOk, cV, cV0, renM, Value.oneCell', keepL, freshL, vaOL, outB, wkTm, subL, ninL, injL, nm, resW, resL, resV, shift, ren, ren2, ren1, renO, va, va2, va1, vaO, inDom, stA, Int.reduceEq, ↓reduceIte, reduceCtorEq, Nat.reduceEqDiff, Nat.reduceLT, Nat.reduceLeDiff, Nat.reduceAdd, Nat.reduceSub, Nat.reduceMul, Int.reduceToNat, Int.reduceLE, Int.reduceLT, C3, Sp_sealed_Open, Sp_field_Take, Sp_cells_Pack, Sp_bytes_Equal, x_ar60, x_bt3, x_el27, x_el60, x_pl29, x_pt3, x_slt27, x_tk29, x_tk3, x_zc29, x_zc3, x_zc5, hbt, hop, hlt, hit, hib, hg, W6d, nth, List.getD_cons_zero, List.getD_cons_succ, hk, hcd, hct, hp, hpb, hpl, hpt, hbl, hd, mB_inj, Sg3, St.updIf, ifc_nil, gt_ifc, go_ifc, ite_self, Option.none_or, Option.some_or]
                            (try ((repeat' first | (refine And.intro ?_ ?_) | (intro hc; first | cases hc | ((try rw [hc]); (try simp only [stH] at hc); (try (exfalso; omega)))))
                                  all_goals first | (refine hK _ _ ?_; clear hK K; simp only [St.upd, St.put, List.nil_append, List.cons_append, List.singleton_append, List.append_nil]) | exact hK | omega))))
    (refine Ends.of (nm []) (by first | exact .inl rfl | exact .inr rfl) ?_; simp (disch := omega) only [awl, ev1, evk, evc, gv, e_move, e_pick, e_bin, binW, e_un, e_cnv, e_conv, e_str, e_mark, e_copy, e_extract, e_len, e_mm, e_nil, e_index, e_field, e_load, e_fld, e_cut, e_alloc, e_box, e_make, e_build, e_lit, e_store, e_app, e_call, e_callF, idsA, killL, so, args, pus, pu, pu1, toDL, toD, toD1, toDs, elems, idsW, idsV, lenV, oint, cutOk, ldV, subD, newD, fillV, cellsV, one1, one0, zD, cD0, scs, St.upd, St.put, St.ev, St.keep, gt, go, tmOf, ofD, dOk, cV, cV0, renM, Value.oneCell', keepL, freshL, vaOL, outB, wkTm, subL, ninL, injL, nm, resW, resL, resV, shift, ren, ren2, ren1, renO, va, va2, va1, vaO, inDom, stA, Int.reduceEq, ↓reduceIte, reduceCtorEq, Nat.reduceEqDiff, Nat.reduceLT, Nat.reduceLeDiff, Nat.reduceAdd, Nat.reduceSub, Nat.reduceMul, Int.reduceToNat, Int.reduceLE, Int.reduceLT, C3, Sp_sealed_Open, Sp_field_Take, Sp_cells_Pack, Sp_bytes_Equal, x_ar60, x_bt3, x_el27, x_el60, x_pl29, x_pt3, x_slt27, x_tk29, x_tk3, x_zc29, x_zc3, x_zc5, hz, celFail])
theorem ent_cells_Unpack : Ent Try.prog 25 := ⟨_, Try.func25, rfl, by decide⟩
noncomputable def C4 : Env := ⟨Try.prog, fun f ds out => (f = 38 ∧ Sp_overdubref01_Take ds out) ∨ (f = 22 ∧ Sp_overdubref14_PackCell ds out), Es, fun _ => false⟩
theorem C4_sp : ∀ f ds out, C4.Sp f ds out → Ent C4.P f ∧ Good C4.P f (fun a b => a = ds ∧ b = out) := by
  rintro f ds out (⟨rfl, h⟩ | ⟨rfl, h⟩)
  · exact ⟨ent_overdubref01_Take, good_overdubref01_Take.one h⟩
  · exact ⟨ent_overdubref14_PackCell, good_overdubref14_PackCell.one h⟩
theorem C4_ok : C4.Ok := ⟨C4_sp, Es_ok⟩
def Sp_overdubref14_UnpackCell (ds : List D) (out : Out) : Prop := ∃ b : List Int, ds = [.list (b.map mB)] ∧ Byt b ∧ b.length ≤ 9223372036854775807 ∧ out = celOut b
def cc_overdubref14_UnpackCell_6 : List (List (Option Bool)) := [[some false, some false, some false, none, none, none, none, none, none, none, none, none, none, none, none, none, none, none, none, some false, none, some false], [some true, some false, some false, none, none, none, none, none, none, none, none, none, none, none, none, none, none, none, none, some false, none, some false], [some true, some true, some false, none, none, none, none, none, none, none, none, none, none, none, none, none, none, none, none, some false, none, some false], [none, none, none, some false, some false, some false, none, none, none, none, none, none, none, none, none, none, none, none, none, some false, none, some false], [none, none, none, some true, some false, some false, none, none, none, none, none, none, none, none, none, none, none, none, none, some false, none, some false], [none, none, none, some true, some true, some false, none, none, none, none, none, none, none, none, none, none, none, none, none, some false, none, some false], [none, none, none, none, none, none, some false, some false, some false, none, none, none, none, none, none, none, none, none, none, some false, none, some false], [none, none, none, none, none, none, some true, some false, some false, none, none, none, none, none, none, none, none, none, none, some false, none, some false], [none, none, none, none, none, none, some true, some true, some false, none, none, none, none, none, none, none, none, none, none, some false, none, some false], [none, none, none, none, none, none, none, none, none, some false, some false, some false, none, none, none, none, none, none, none, some false, none, some false], [none, none, none, none, none, none, none, none, none, some true, some false, some false, none, none, none, none, none, none, none, some false, none, some false], [none, none, none, none, none, none, none, none, none, some true, some true, some false, none, none, none, none, none, none, none, some false, none, some false], [none, none, none, none, none, none, none, none, none, none, none, none, some false, none, none, none, none, some false, some false, some false, none, some false], [none, none, none, none, none, none, none, none, none, none, none, none, none, some false, some false, some false, some false, some false, some false, some false, none, some false], [none, none, none, none, none, none, none, none, none, none, none, none, none, some true, some false, some false, some false, some false, some false, some false, none, some false], [none, none, none, none, none, none, none, none, none, none, none, none, none, some true, some true, some false, some false, some false, some false, some false, none, some false], [none, none, none, none, none, none, none, none, none, none, none, none, none, some true, some true, some true, some false, some false, some false, some false, none, some false], [none, none, none, none, none, none, none, none, none, none, none, none, some true, some true, some true, some true, some true, some false, some false, some false, none, some false], [none, none, none, none, none, none, none, none, none, none, none, none, some true, some true, some true, some true, some true, some true, some false, some false, none, some false], [some true, some true, some true, some true, some true, some true, some true, some true, some true, some true, some true, some true, some true, some true, some true, some true, some true, some true, some true, some false, none, some false], [none, none, none, none, none, none, none, none, none, none, none, none, none, none, none, none, none, none, none, none, some false, some false], [some true, some true, some true, some true, some true, some true, some true, some true, some true, some true, some true, some true, some true, some true, some true, some true, some true, some true, some true, some true, some true, some false]]
theorem good_overdubref14_UnpackCell : Good Try.prog 26 Sp_overdubref14_UnpackCell := by
  refine good_body (E := C4) (nt := 60) (rs := #[.cell 2 29, .tmp 3]) Try.func26 rfl rfl rfl ?_
  rintro ds out ⟨b, rfl, hb, hl, rfl⟩
  refine ⟨by simp, ?_⟩
  have hbt : Byt b = True := eq_true hb
  have hbl : (b.map mB).take b.length = b.map mB := List.take_of_length_le (by simp)
  by_cases h8 : b.length = 128
  case neg =>
    have hz : celOut b = celFail := by rw [celOut, if_neg fun h => h8 h.1.1]
    have hd8 : decide ((b.length : Int) = 128) = false := decide_eq_false (by omega)
    repeat' first
                    | (refine AW.seq ?_)
                    | (refine AW.block ?_)
                    | (refine AW.regl C4_ok [0, 2, 3, 4, 6, 7, 8, 11, 22, 57] ?_)
                    | (refine AW.regc (id := 6) C4_ok follows [0, 1, 3, 0, 8, 24, 0, 64, 192, 0, 512, 1536, 0, 0, 8192, 24576, 57344, 126976, 258048, 524287, 0, 2097151] (by kernel_rfl) [0, 2, 3, 4, 6, 7, 8, 11, 22, 57] ?_)
                    | (refine then_n ?_)
                    | (refine then_r ?_)
                    | (refine then_x ?_)
                    | (refine block_x ?_)
                    | (refine block_o (by decide) ?_)
                    | (refine block_n ?_)
                    | (refine block_r ?_)
                    | (refine AW.skip ?_)
                    | (refine AW.ret ?_)
                    | (refine AW.exit ?_)
                    | (refine AW.cond rfl ?_ ?_ <;> (intro hc; first | cases hc | ((try rw [hc]); (try simp only [stH] at hc); (try (exfalso; omega)))))
                    | ((first
                          | (refine awl_none rfl fun K hK => ?_)
                          | (refine awl_nil ?_)
                          | (refine awl_some rfl rfl (Nat.le_of_ble_eq_true rfl) rfl rfl ?_ ?_ <;> (intro hc; first | cases hc | ((try rw [hc]); (try simp only [stH] at hc); (try (exfalso; omega)))) <;> (try intro K hK))
                          | (refine awl_skip rfl rfl (Nat.le_of_ble_eq_true rfl) rfl rfl ?_)
                          | (refine awc_none rfl fun K hK => ?_)
                          | (refine awc_some rfl rfl (Nat.le_of_ble_eq_true rfl) rfl rfl ?_ ?_ <;> (intro hc; first | cases hc | ((try rw [hc]); (try simp only [stH] at hc); (try (exfalso; omega)))) <;> (try intro K hK))
                          | exact each_nil
                          | (refine each_none rfl ?_ ?_ <;> (try intro bb K hK))
                          | (refine awc_leaf [some 24, some 25, some 26, some 27, some 28, some 29, some 30, some 31, some 32, some 33, some 34, some 35, some 36, some 37, some 38, some 39, some 40, some 41, some 42, some 43, some 6, none] cc_overdubref14_UnpackCell_6 rfl (by kernel_rfl) (by kernel_rfl) ?_ ?_))
                       all_goals first
                         | (show Awl _ _ _ _ _; simp only [St.upd, St.put, List.nil_append, List.cons_append, List.singleton_append, List.append_nil])
                         | (show Awc _ _ _ _ _ _; simp only [St.upd, St.put, List.nil_append, List.cons_append, List.singleton_append, List.append_nil])
                         | (show Each _ _ _ _ _ _ _ _; skip)
                         | (simp (disch := omega) only [awl, ev1, evk, evc, gv, e_move, e_pick, e_bin, binW, e_un, e_cnv, e_conv, e_str, e_mark, e_copy, e_extract, e_len, e_mm, e_nil, e_index, e_field, e_load, e_fld, e_cut, e_alloc, e_box, e_make, e_build, e_lit, e_store, e_app, e_call, e_callF, idsA, killL, so, args, pus, pu, pu1, toDL, toD, toD1, toDs, elems, idsW, idsV, lenV, oint, cutOk, ldV, subD, newD, fillV, cellsV, one1, one0, zD, cD0, scs, St.upd, St.put, St.ev, St.keep, gt, go, tmOf, ofD, dOk, cV, cV0, renM, Value.oneCell', keepL, freshL, vaOL, outB, wkTm, subL, ninL, injL, nm, resW, resL, resV, shift, ren, ren2, ren1, renO, va, va2, va1, vaO, inDom, stA, Int.reduceEq, ↓reduceIte, reduceCtorEq, Nat.reduceEqDiff, Nat.reduceLT, Nat.reduceLeDiff, Nat.reduceAdd, Nat.reduceSub, Nat.reduceMul, Int.reduceToNat, Int.reduceLE, Int.reduceLT, C4, Sp_overdubref01_Take, Sp_overdubref14_PackCell, x_ar60, x_bt3, x_bt9, x_el27, x_el60, x_ik27, x_ik5, x_ik9, x_pl29, x_pt3, x_pt9, x_slt27, x_st9, x_tk29, x_tk3, x_un27, x_zc29, x_zc3, x_zc5, hd8, Sg3, St.updIf, ifc_nil, gt_ifc, go_ifc, ite_self, Option.none_or, Option.some_or]
                            (try ((repeat' first | (refine And.intro ?_ ?_) | (intro hc; first | cases hc | ((try rw [hc]); (try simp only [stH] at hc); (try (exfalso; omega)))))
                                  all_goals first | (refine hK _ _ ?_; clear hK K; simp only [St.upd, St.put, List.nil_append, List.cons_append, List.singleton_append, List.append_nil]) | exact hK | omega))))
    (refine Ends.of (nm []) (by first | exact .inl rfl | exact .inr rfl) ?_; simp (disch := omega) only [awl, ev1, evk, evc, gv, e_move, e_pick, e_bin, binW, e_un, e_cnv, e_conv, e_str, e_mark, e_copy, e_extract, e_len, e_mm, e_nil, e_index, e_field, e_load, e_fld, e_cut, e_alloc, e_box, e_make, e_build, e_lit, e_store, e_app, e_call, e_callF, idsA, killL, so, args, pus, pu, pu1, toDL, toD, toD1, toDs, elems, idsW, idsV, lenV, oint, cutOk, ldV, subD, newD, fillV, cellsV, one1, one0, zD, cD0, scs, St.upd, St.put, St.ev, St.keep, gt, go, tmOf, ofD, dOk, cV, cV0, renM, Value.oneCell', keepL, freshL, vaOL, outB, wkTm, subL, ninL, injL, nm, resW, resL, resV, shift, ren, ren2, ren1, renO, va, va2, va1, vaO, inDom, stA, Int.reduceEq, ↓reduceIte, reduceCtorEq, Nat.reduceEqDiff, Nat.reduceLT, Nat.reduceLeDiff, Nat.reduceAdd, Nat.reduceSub, Nat.reduceMul, Int.reduceToNat, Int.reduceLE, Int.reduceLT, C4, Sp_overdubref01_Take, Sp_overdubref14_PackCell, x_ar60, x_bt3, x_bt9, x_el27, x_el60, x_ik27, x_ik5, x_ik9, x_pl29, x_pt3, x_pt9, x_slt27, x_st9, x_tk29, x_tk3, x_un27, x_zc29, x_zc3, x_zc5, hz, celFail])
  have hd8 : decide ((b.length : Int) = 128) = true := decide_eq_true (by omega)
  have hg : takeOut b [4, 4, 1, 1, 1] = ⟨.tup [.sl 0 1 0 5 true, .d (.v (.bool true))], [(0, .row 3 1 [.v (.int .i64 (cL b)), .v (.int .i64 (cN b)), .v (.int .i64 (cI b)), .v (.int .i64 (cQ b)), .v (.int .i64 (cS b))])]⟩ := by
    rw [takeOut, takeL_5c (by omega)]; rfl
  have b5 : 0 ≤ cS b ∧ cS b < 256 := leV_onec (byt_drop hb _)
  by_cases h112 : cS b ≤ 112
  case neg =>
    have hz : celOut b = celFail := by rw [celOut, if_neg fun h => h112 h.2.1]
    repeat' first
                    | (refine AW.seq ?_)
                    | (refine AW.block ?_)
                    | (refine AW.regl C4_ok [0, 2, 3, 4, 6, 7, 8, 11, 22, 57] ?_)
                    | (refine AW.regc (id := 6) C4_ok follows [0, 1, 3, 0, 8, 24, 0, 64, 192, 0, 512, 1536, 0, 0, 8192, 24576, 57344, 126976, 258048, 524287, 0, 2097151] (by kernel_rfl) [0, 2, 3, 4, 6, 7, 8, 11, 22, 57] ?_)
                    | (refine then_n ?_)
                    | (refine then_r ?_)
                    | (refine then_x ?_)
                    | (refine block_x ?_)
                    | (refine block_o (by decide) ?_)
                    | (refine block_n ?_)
                    | (refine block_r ?_)
                    | (refine AW.skip ?_)
                    | (refine AW.ret ?_)
                    | (refine AW.exit ?_)
                    | (refine AW.cond rfl ?_ ?_ <;> (intro hc; first | cases hc | ((try rw [hc]); (try simp only [stH] at hc); (try (exfalso; omega)))))
                    | ((first
                          | (refine awl_none rfl fun K hK => ?_)
                          | (refine awl_nil ?_)
                          | (refine awl_some rfl rfl (Nat.le_of_ble_eq_true rfl) rfl rfl ?_ ?_ <;> (intro hc; first | cases hc | ((try rw [hc]); (try simp only [stH] at hc); (try (exfalso; omega)))) <;> (try intro K hK))
                          | (refine awl_skip rfl rfl (Nat.le_of_ble_eq_true rfl) rfl rfl ?_)
                          | (refine awc_none rfl fun K hK => ?_)
                          | (refine awc_some rfl rfl (Nat.le_of_ble_eq_true rfl) rfl rfl ?_ ?_ <;> (intro hc; first | cases hc | ((try rw [hc]); (try simp only [stH] at hc); (try (exfalso; omega)))) <;> (try intro K hK))
                          | exact each_nil
                          | (refine each_none rfl ?_ ?_ <;> (try intro bb K hK))
                          | (refine awc_leaf [some 24, some 25, some 26, some 27, some 28, some 29, some 30, some 31, some 32, some 33, some 34, some 35, some 36, some 37, some 38, some 39, some 40, some 41, some 42, some 43, some 6, none] cc_overdubref14_UnpackCell_6 rfl (by kernel_rfl) (by kernel_rfl) ?_ ?_))
                       all_goals first
                         | (show Awl _ _ _ _ _; simp only [St.upd, St.put, List.nil_append, List.cons_append, List.singleton_append, List.append_nil])
                         | (show Awc _ _ _ _ _ _; simp only [St.upd, St.put, List.nil_append, List.cons_append, List.singleton_append, List.append_nil])
                         | (show Each _ _ _ _ _ _ _ _; skip)
                         | (simp (disch := omega) only [awl, ev1, evk, evc, gv, e_move, e_pick, e_bin, binW, e_un, e_cnv, e_conv, e_str, e_mark, e_copy, e_extract, e_len, e_mm, e_nil, e_index, e_field, e_load, e_fld, e_cut, e_alloc, e_box, e_make, e_build, e_lit, e_store, e_app, e_call, e_callF, idsA, killL, so, args, pus, pu, pu1, toDL, toD, toD1, toDs, elems, idsW, idsV, lenV, oint, cutOk, ldV, subD, newD, fillV, cellsV, one1, one0, zD, cD0, scs, St.upd, St.put, St.ev, St.keep, gt, go, tmOf, ofD, dOk, cV, cV0, renM, Value.oneCell', keepL, freshL, vaOL, outB, wkTm, subL, ninL, injL, nm, resW, resL, resV, shift, ren, ren2, ren1, renO, va, va2, va1, vaO, inDom, stA, Int.reduceEq, ↓reduceIte, reduceCtorEq, Nat.reduceEqDiff, Nat.reduceLT, Nat.reduceLeDiff, Nat.reduceAdd, Nat.reduceSub, Nat.reduceMul, Int.reduceToNat, Int.reduceLE, Int.reduceLT, C4, Sp_overdubref01_Take, Sp_overdubref14_PackCell, x_ar60, x_bt3, x_bt9, x_el27, x_el60, x_ik27, x_ik5, x_ik9, x_pl29, x_pt3, x_pt9, x_slt27, x_st9, x_tk29, x_tk3, x_un27, x_zc29, x_zc3, x_zc5, hd8, hbt, hbl, hg, W5d, nth, List.getD_cons_zero, List.getD_cons_succ, mB_inj, Sg3, St.updIf, ifc_nil, gt_ifc, go_ifc, ite_self, Option.none_or, Option.some_or]
                            (try ((repeat' first | (refine And.intro ?_ ?_) | (intro hc; first | cases hc | ((try rw [hc]); (try simp only [stH] at hc); (try (exfalso; omega)))))
                                  all_goals first | (refine hK _ _ ?_; clear hK K; simp only [St.upd, St.put, List.nil_append, List.cons_append, List.singleton_append, List.append_nil]) | exact hK | omega))))
    (refine Ends.of (nm []) (by first | exact .inl rfl | exact .inr rfl) ?_; simp (disch := omega) only [awl, ev1, evk, evc, gv, e_move, e_pick, e_bin, binW, e_un, e_cnv, e_conv, e_str, e_mark, e_copy, e_extract, e_len, e_mm, e_nil, e_index, e_field, e_load, e_fld, e_cut, e_alloc, e_box, e_make, e_build, e_lit, e_store, e_app, e_call, e_callF, idsA, killL, so, args, pus, pu, pu1, toDL, toD, toD1, toDs, elems, idsW, idsV, lenV, oint, cutOk, ldV, subD, newD, fillV, cellsV, one1, one0, zD, cD0, scs, St.upd, St.put, St.ev, St.keep, gt, go, tmOf, ofD, dOk, cV, cV0, renM, Value.oneCell', keepL, freshL, vaOL, outB, wkTm, subL, ninL, injL, nm, resW, resL, resV, shift, ren, ren2, ren1, renO, va, va2, va1, vaO, inDom, stA, Int.reduceEq, ↓reduceIte, reduceCtorEq, Nat.reduceEqDiff, Nat.reduceLT, Nat.reduceLeDiff, Nat.reduceAdd, Nat.reduceSub, Nat.reduceMul, Int.reduceToNat, Int.reduceLE, Int.reduceLT, C4, Sp_overdubref01_Take, Sp_overdubref14_PackCell, x_ar60, x_bt3, x_bt9, x_el27, x_el60, x_ik27, x_ik5, x_ik9, x_pl29, x_pt3, x_pt9, x_slt27, x_st9, x_tk29, x_tk3, x_un27, x_zc29, x_zc3, x_zc5, hz, celFail])
  have hdl : ((cD b).length : Int) = cS b := by unfold cD; rw [List.length_take, List.length_drop]; omega
  obtain ⟨k, hk⟩ : ∃ k : Nat, cS b = k := ⟨(cS b).toNat, by omega⟩
  have hdk : (cD b).length = k := by omega
  have hcd : ((b.map mB).take (12 + (k : Int)).toNat).drop 12 = (cD b).map mB := by
    rw [List.drop_take, show (12 + (k : Int)).toNat - 12 = k by omega, ← List.map_drop, ← List.map_take]; unfold cD; rw [hk]; rfl
  have hcb : Byt (cD b) := byt_take (byt_drop hb _) _
  have hcy : Byt (cD b) = True := eq_true hcb
  have hct : ((cD b).map mB).take (cD b).length = (cD b).map mB := List.take_of_length_le (by simp)
  by_cases hm : mayC (cL b) (cN b) (cI b) (cQ b) (cD b).length
  case neg =>
    have hz : celOut b = celFail := by rw [celOut, if_neg fun h => hm h.2.2.1]
    have hp : packCOut (cL b) (cN b) (cI b) (cQ b) (cD b) = ⟨.tup [.nil, .d (.v (.bool false))], []⟩ := if_neg hm
    clear hm
    repeat' first
                    | (refine AW.seq ?_)
                    | (refine AW.block ?_)
                    | (refine AW.regl C4_ok [0, 2, 3, 4, 6, 7, 8, 11, 22, 57] ?_)
                    | (refine AW.regc (id := 6) C4_ok follows [0, 1, 3, 0, 8, 24, 0, 64, 192, 0, 512, 1536, 0, 0, 8192, 24576, 57344, 126976, 258048, 524287, 0, 2097151] (by kernel_rfl) [0, 2, 3, 4, 6, 7, 8, 11, 22, 57] ?_)
                    | (refine then_n ?_)
                    | (refine then_r ?_)
                    | (refine then_x ?_)
                    | (refine block_x ?_)
                    | (refine block_o (by decide) ?_)
                    | (refine block_n ?_)
                    | (refine block_r ?_)
                    | (refine AW.skip ?_)
                    | (refine AW.ret ?_)
                    | (refine AW.exit ?_)
                    | (refine AW.cond rfl ?_ ?_ <;> (intro hc; first | cases hc | ((try rw [hc]); (try simp only [stH] at hc); (try (exfalso; omega)))))
                    | ((first
                          | (refine awl_none rfl fun K hK => ?_)
                          | (refine awl_nil ?_)
                          | (refine awl_some rfl rfl (Nat.le_of_ble_eq_true rfl) rfl rfl ?_ ?_ <;> (intro hc; first | cases hc | ((try rw [hc]); (try simp only [stH] at hc); (try (exfalso; omega)))) <;> (try intro K hK))
                          | (refine awl_skip rfl rfl (Nat.le_of_ble_eq_true rfl) rfl rfl ?_)
                          | (refine awc_none rfl fun K hK => ?_)
                          | (refine awc_some rfl rfl (Nat.le_of_ble_eq_true rfl) rfl rfl ?_ ?_ <;> (intro hc; first | cases hc | ((try rw [hc]); (try simp only [stH] at hc); (try (exfalso; omega)))) <;> (try intro K hK))
                          | exact each_nil
                          | (refine each_none rfl ?_ ?_ <;> (try intro bb K hK))
                          | (refine awc_leaf [some 24, some 25, some 26, some 27, some 28, some 29, some 30, some 31, some 32, some 33, some 34, some 35, some 36, some 37, some 38, some 39, some 40, some 41, some 42, some 43, some 6, none] cc_overdubref14_UnpackCell_6 rfl (by kernel_rfl) (by kernel_rfl) ?_ ?_))
                       all_goals first
                         | (show Awl _ _ _ _ _; simp only [St.upd, St.put, List.nil_append, List.cons_append, List.singleton_append, List.append_nil])
                         | (show Awc _ _ _ _ _ _; simp only [St.upd, St.put, List.nil_append, List.cons_append, List.singleton_append, List.append_nil])
                         | (show Each _ _ _ _ _ _ _ _; skip)
                         | (simp (disch := omega) only [awl, ev1, evk, evc, gv, e_move, e_pick, e_bin, binW, e_un, e_cnv, e_conv, e_str, e_mark, e_copy, e_extract, e_len, e_mm, e_nil, e_index, e_field, e_load, e_fld, e_cut, e_alloc, e_box, e_make, e_build, e_lit, e_store, e_app, e_call, e_callF, idsA, killL, so, args, pus, pu, pu1, toDL, toD, toD1, toDs, elems, idsW, idsV, lenV, oint, cutOk, ldV, subD, newD, fillV, cellsV, one1, one0, zD, cD0, scs, St.upd, St.put, St.ev, St.keep, gt, go, tmOf, ofD, dOk, cV, cV0, renM, Value.oneCell', keepL, freshL, vaOL, outB, wkTm, subL, ninL, injL, nm, resW, resL, resV, shift, ren, ren2, ren1, renO, va, va2, va1, vaO, inDom, stA, Int.reduceEq, ↓reduceIte, reduceCtorEq, Nat.reduceEqDiff, Nat.reduceLT, Nat.reduceLeDiff, Nat.reduceAdd, Nat.reduceSub, Nat.reduceMul, Int.reduceToNat, Int.reduceLE, Int.reduceLT, C4, Sp_overdubref01_Take, Sp_overdubref14_PackCell, x_ar60, x_bt3, x_bt9, x_el27, x_el60, x_ik27, x_ik5, x_ik9, x_pl29, x_pt3, x_pt9, x_slt27, x_st9, x_tk29, x_tk3, x_un27, x_zc29, x_zc3, x_zc5, hd8, hbt, hbl, hg, W5d, nth, List.getD_cons_zero, List.getD_cons_succ, hk, hcd, hct, hcy, hp, mB_inj, Sg3, St.updIf, ifc_nil, gt_ifc, go_ifc, ite_self, Option.none_or, Option.some_or]
                            (try ((repeat' first | (refine And.intro ?_ ?_) | (intro hc; first | cases hc | ((try rw [hc]); (try simp only [stH] at hc); (try (exfalso; omega)))))
                                  all_goals first | (refine hK _ _ ?_; clear hK K; simp only [St.upd, St.put, List.nil_append, List.cons_append, List.singleton_append, List.append_nil]) | exact hK | omega))))
    (refine Ends.of (nm []) (by first | exact .inl rfl | exact .inr rfl) ?_; simp (disch := omega) only [awl, ev1, evk, evc, gv, e_move, e_pick, e_bin, binW, e_un, e_cnv, e_conv, e_str, e_mark, e_copy, e_extract, e_len, e_mm, e_nil, e_index, e_field, e_load, e_fld, e_cut, e_alloc, e_box, e_make, e_build, e_lit, e_store, e_app, e_call, e_callF, idsA, killL, so, args, pus, pu, pu1, toDL, toD, toD1, toDs, elems, idsW, idsV, lenV, oint, cutOk, ldV, subD, newD, fillV, cellsV, one1, one0, zD, cD0, scs, St.upd, St.put, St.ev, St.keep, gt, go, tmOf, ofD, dOk, cV, cV0, renM, Value.oneCell', keepL, freshL, vaOL, outB, wkTm, subL, ninL, injL, nm, resW, resL, resV, shift, ren, ren2, ren1, renO, va, va2, va1, vaO, inDom, stA, Int.reduceEq, ↓reduceIte, reduceCtorEq, Nat.reduceEqDiff, Nat.reduceLT, Nat.reduceLeDiff, Nat.reduceAdd, Nat.reduceSub, Nat.reduceMul, Int.reduceToNat, Int.reduceLE, Int.reduceLT, C4, Sp_overdubref01_Take, Sp_overdubref14_PackCell, x_ar60, x_bt3, x_bt9, x_el27, x_el60, x_ik27, x_ik5, x_ik9, x_pl29, x_pt3, x_pt9, x_slt27, x_st9, x_tk29, x_tk3, x_un27, x_zc29, x_zc3, x_zc5, hz, celFail])
  obtain ⟨P, eP⟩ : ∃ P, celP (cL b) (cN b) (cI b) (cQ b) (cD b) = P := ⟨_, rfl⟩
  have hp : packCOut (cL b) (cN b) (cI b) (cQ b) (cD b) = ⟨.tup [.sl 0 1 0 128 true, .d (.v (.bool true))], [(0, .row 5 1 (P.map mB))]⟩ := by rw [packCOut, if_pos hm, eP]
  have hpb : Byt P := eP ▸ celP_byt hcb
  have hpl : P.length = 128 := eP ▸ celP_len _ _ _ _ _
  have hpt : (P.map mB).take 128 = P.map mB := List.take_of_length_le (by rw [List.length_map, hpl]; omega)
  have hns := byt_strnc hpb hb
  by_cases he : P = b
  · have hz : celOut b = celYes (cL b) (cN b) (cI b) (cQ b) (cD b) := by
      subst he
      rw [celOut, if_pos ⟨by rw [← eP]; exact sealL_openc _, h112, hm, eP⟩]
    rw [decide_eq_true he] at hns
    clear hm he eP
    repeat' first
                    | (refine AW.seq ?_)
                    | (refine AW.block ?_)
                    | (refine AW.regl C4_ok [0, 2, 3, 4, 6, 7, 8, 11, 22, 57] ?_)
                    | (refine AW.regc (id := 6) C4_ok follows [0, 1, 3, 0, 8, 24, 0, 64, 192, 0, 512, 1536, 0, 0, 8192, 24576, 57344, 126976, 258048, 524287, 0, 2097151] (by kernel_rfl) [0, 2, 3, 4, 6, 7, 8, 11, 22, 57] ?_)
                    | (refine then_n ?_)
                    | (refine then_r ?_)
                    | (refine then_x ?_)
                    | (refine block_x ?_)
                    | (refine block_o (by decide) ?_)
                    | (refine block_n ?_)
                    | (refine block_r ?_)
                    | (refine AW.skip ?_)
                    | (refine AW.ret ?_)
                    | (refine AW.exit ?_)
                    | (refine AW.cond rfl ?_ ?_ <;> (intro hc; first | cases hc | ((try rw [hc]); (try simp only [stH] at hc); (try (exfalso; omega)))))
                    | ((first
                          | (refine awl_none rfl fun K hK => ?_)
                          | (refine awl_nil ?_)
                          | (refine awl_some rfl rfl (Nat.le_of_ble_eq_true rfl) rfl rfl ?_ ?_ <;> (intro hc; first | cases hc | ((try rw [hc]); (try simp only [stH] at hc); (try (exfalso; omega)))) <;> (try intro K hK))
                          | (refine awl_skip rfl rfl (Nat.le_of_ble_eq_true rfl) rfl rfl ?_)
                          | (refine awc_none rfl fun K hK => ?_)
                          | (refine awc_some rfl rfl (Nat.le_of_ble_eq_true rfl) rfl rfl ?_ ?_ <;> (intro hc; first | cases hc | ((try rw [hc]); (try simp only [stH] at hc); (try (exfalso; omega)))) <;> (try intro K hK))
                          | exact each_nil
                          | (refine each_none rfl ?_ ?_ <;> (try intro bb K hK))
                          | (refine awc_leaf [some 24, some 25, some 26, some 27, some 28, some 29, some 30, some 31, some 32, some 33, some 34, some 35, some 36, some 37, some 38, some 39, some 40, some 41, some 42, some 43, some 6, none] cc_overdubref14_UnpackCell_6 rfl (by kernel_rfl) (by kernel_rfl) ?_ ?_))
                       all_goals first
                         | (show Awl _ _ _ _ _; simp only [St.upd, St.put, List.nil_append, List.cons_append, List.singleton_append, List.append_nil])
                         | (show Awc _ _ _ _ _ _; simp only [St.upd, St.put, List.nil_append, List.cons_append, List.singleton_append, List.append_nil])
                         | (show Each _ _ _ _ _ _ _ _; skip)
                         | (simp (disch := omega) only [awl, ev1, evk, evc, gv, e_move, e_pick, e_bin, binW, e_un, e_cnv, e_conv, e_str, e_mark, e_copy, e_extract, e_len, e_mm, e_nil, e_index, e_field, e_load, e_fld, e_cut, e_alloc, e_box, e_make, e_build, e_lit, e_store, e_app, e_call, e_callF, idsA, killL, so, args, pus, pu, pu1, toDL, toD, toD1, toDs, elems, idsW, idsV, lenV, oint, cutOk, ldV, subD, newD, fillV, cellsV, one1, one0, zD, cD0, scs, St.upd, St.put, St.ev, St.keep, gt, go, tmOf, ofD, dOk, cV, cV0, renM, Value.oneCell', keepL, freshL, vaOL, outB, wkTm, subL, ninL, injL, nm, resW, resL, resV, shift, ren, ren2, ren1, renO, va, va2, va1, vaO, inDom, stA, Int.reduceEq, ↓reduceIte, reduceCtorEq, Nat.reduceEqDiff, Nat.reduceLT, Nat.reduceLeDiff, Nat.reduceAdd, Nat.reduceSub, Nat.reduceMul, Int.reduceToNat, Int.reduceLE, Int.reduceLT, C4, Sp_overdubref01_Take, Sp_overdubref14_PackCell, x_ar60, x_bt3, x_bt9, x_el27, x_el60, x_ik27, x_ik5, x_ik9, x_pl29, x_pt3, x_pt9, x_slt27, x_st9, x_tk29, x_tk3, x_un27, x_zc29, x_zc3, x_zc5, hd8, hbt, hbl, hg, W5d, nth, List.getD_cons_zero, List.getD_cons_succ, hk, hcd, hct, hcy, hp, hpl, hpt, hns, mB_inj, Sg3, St.updIf, ifc_nil, gt_ifc, go_ifc, ite_self, Option.none_or, Option.some_or]
                            (try ((repeat' first | (refine And.intro ?_ ?_) | (intro hc; first | cases hc | ((try rw [hc]); (try simp only [stH] at hc); (try (exfalso; omega)))))
                                  all_goals first | (refine hK _ _ ?_; clear hK K; simp only [St.upd, St.put, List.nil_append, List.cons_append, List.singleton_append, List.append_nil]) | exact hK | omega))))
    (refine Ends.of (nm [(0, 42)]) (by first | exact .inl rfl | exact .inr rfl) ?_; simp (disch := omega) only [awl, ev1, evk, evc, gv, e_move, e_pick, e_bin, binW, e_un, e_cnv, e_conv, e_str, e_mark, e_copy, e_extract, e_len, e_mm, e_nil, e_index, e_field, e_load, e_fld, e_cut, e_alloc, e_box, e_make, e_build, e_lit, e_store, e_app, e_call, e_callF, idsA, killL, so, args, pus, pu, pu1, toDL, toD, toD1, toDs, elems, idsW, idsV, lenV, oint, cutOk, ldV, subD, newD, fillV, cellsV, one1, one0, zD, cD0, scs, St.upd, St.put, St.ev, St.keep, gt, go, tmOf, ofD, dOk, cV, cV0, renM, Value.oneCell', keepL, freshL, vaOL, outB, wkTm, subL, ninL, injL, nm, resW, resL, resV, shift, ren, ren2, ren1, renO, va, va2, va1, vaO, inDom, stA, Int.reduceEq, ↓reduceIte, reduceCtorEq, Nat.reduceEqDiff, Nat.reduceLT, Nat.reduceLeDiff, Nat.reduceAdd, Nat.reduceSub, Nat.reduceMul, Int.reduceToNat, Int.reduceLE, Int.reduceLT, C4, Sp_overdubref01_Take, Sp_overdubref14_PackCell, x_ar60, x_bt3, x_bt9, x_el27, x_el60, x_ik27, x_ik5, x_ik9, x_pl29, x_pt3, x_pt9, x_slt27, x_st9, x_tk29, x_tk3, x_un27, x_zc29, x_zc3, x_zc5, hz, celYes])
  · have hz : celOut b = celFail := by rw [celOut, if_neg fun h => he (eP.symm.trans h.2.2.2)]
    rw [decide_eq_false he] at hns
    clear hm he eP
    repeat' first
                    | (refine AW.seq ?_)
                    | (refine AW.block ?_)
                    | (refine AW.regl C4_ok [0, 2, 3, 4, 6, 7, 8, 11, 22, 57] ?_)
                    | (refine AW.regc (id := 6) C4_ok follows [0, 1, 3, 0, 8, 24, 0, 64, 192, 0, 512, 1536, 0, 0, 8192, 24576, 57344, 126976, 258048, 524287, 0, 2097151] (by kernel_rfl) [0, 2, 3, 4, 6, 7, 8, 11, 22, 57] ?_)
                    | (refine then_n ?_)
                    | (refine then_r ?_)
                    | (refine then_x ?_)
                    | (refine block_x ?_)
                    | (refine block_o (by decide) ?_)
                    | (refine block_n ?_)
                    | (refine block_r ?_)
                    | (refine AW.skip ?_)
                    | (refine AW.ret ?_)
                    | (refine AW.exit ?_)
                    | (refine AW.cond rfl ?_ ?_ <;> (intro hc; first | cases hc | ((try rw [hc]); (try simp only [stH] at hc); (try (exfalso; omega)))))
                    | ((first
                          | (refine awl_none rfl fun K hK => ?_)
                          | (refine awl_nil ?_)
                          | (refine awl_some rfl rfl (Nat.le_of_ble_eq_true rfl) rfl rfl ?_ ?_ <;> (intro hc; first | cases hc | ((try rw [hc]); (try simp only [stH] at hc); (try (exfalso; omega)))) <;> (try intro K hK))
                          | (refine awl_skip rfl rfl (Nat.le_of_ble_eq_true rfl) rfl rfl ?_)
                          | (refine awc_none rfl fun K hK => ?_)
                          | (refine awc_some rfl rfl (Nat.le_of_ble_eq_true rfl) rfl rfl ?_ ?_ <;> (intro hc; first | cases hc | ((try rw [hc]); (try simp only [stH] at hc); (try (exfalso; omega)))) <;> (try intro K hK))
                          | exact each_nil
                          | (refine each_none rfl ?_ ?_ <;> (try intro bb K hK))
                          | (refine awc_leaf [some 24, some 25, some 26, some 27, some 28, some 29, some 30, some 31, some 32, some 33, some 34, some 35, some 36, some 37, some 38, some 39, some 40, some 41, some 42, some 43, some 6, none] cc_overdubref14_UnpackCell_6 rfl (by kernel_rfl) (by kernel_rfl) ?_ ?_))
                       all_goals first
                         | (show Awl _ _ _ _ _; simp only [St.upd, St.put, List.nil_append, List.cons_append, List.singleton_append, List.append_nil])
                         | (show Awc _ _ _ _ _ _; simp only [St.upd, St.put, List.nil_append, List.cons_append, List.singleton_append, List.append_nil])
                         | (show Each _ _ _ _ _ _ _ _; skip)
                         | (simp (disch := omega) only [awl, ev1, evk, evc, gv, e_move, e_pick, e_bin, binW, e_un, e_cnv, e_conv, e_str, e_mark, e_copy, e_extract, e_len, e_mm, e_nil, e_index, e_field, e_load, e_fld, e_cut, e_alloc, e_box, e_make, e_build, e_lit, e_store, e_app, e_call, e_callF, idsA, killL, so, args, pus, pu, pu1, toDL, toD, toD1, toDs, elems, idsW, idsV, lenV, oint, cutOk, ldV, subD, newD, fillV, cellsV, one1, one0, zD, cD0, scs, St.upd, St.put, St.ev, St.keep, gt, go, tmOf, ofD, dOk, cV, cV0, renM, Value.oneCell', keepL, freshL, vaOL, outB, wkTm, subL, ninL, injL, nm, resW, resL, resV, shift, ren, ren2, ren1, renO, va, va2, va1, vaO, inDom, stA, Int.reduceEq, ↓reduceIte, reduceCtorEq, Nat.reduceEqDiff, Nat.reduceLT, Nat.reduceLeDiff, Nat.reduceAdd, Nat.reduceSub, Nat.reduceMul, Int.reduceToNat, Int.reduceLE, Int.reduceLT, C4, Sp_overdubref01_Take, Sp_overdubref14_PackCell, x_ar60, x_bt3, x_bt9, x_el27, x_el60, x_ik27, x_ik5, x_ik9, x_pl29, x_pt3, x_pt9, x_slt27, x_st9, x_tk29, x_tk3, x_un27, x_zc29, x_zc3, x_zc5, hd8, hbt, hbl, hg, W5d, nth, List.getD_cons_zero, List.getD_cons_succ, hk, hcd, hct, hcy, hp, hpl, hpt, hns, mB_inj, Sg3, St.updIf, ifc_nil, gt_ifc, go_ifc, ite_self, Option.none_or, Option.some_or]
                            (try ((repeat' first | (refine And.intro ?_ ?_) | (intro hc; first | cases hc | ((try rw [hc]); (try simp only [stH] at hc); (try (exfalso; omega)))))
                                  all_goals first | (refine hK _ _ ?_; clear hK K; simp only [St.upd, St.put, List.nil_append, List.cons_append, List.singleton_append, List.append_nil]) | exact hK | omega))))
    (refine Ends.of (nm []) (by first | exact .inl rfl | exact .inr rfl) ?_; simp (disch := omega) only [awl, ev1, evk, evc, gv, e_move, e_pick, e_bin, binW, e_un, e_cnv, e_conv, e_str, e_mark, e_copy, e_extract, e_len, e_mm, e_nil, e_index, e_field, e_load, e_fld, e_cut, e_alloc, e_box, e_make, e_build, e_lit, e_store, e_app, e_call, e_callF, idsA, killL, so, args, pus, pu, pu1, toDL, toD, toD1, toDs, elems, idsW, idsV, lenV, oint, cutOk, ldV, subD, newD, fillV, cellsV, one1, one0, zD, cD0, scs, St.upd, St.put, St.ev, St.keep, gt, go, tmOf, ofD, dOk, cV, cV0, renM, Value.oneCell', keepL, freshL, vaOL, outB, wkTm, subL, ninL, injL, nm, resW, resL, resV, shift, ren, ren2, ren1, renO, va, va2, va1, vaO, inDom, stA, Int.reduceEq, ↓reduceIte, reduceCtorEq, Nat.reduceEqDiff, Nat.reduceLT, Nat.reduceLeDiff, Nat.reduceAdd, Nat.reduceSub, Nat.reduceMul, Int.reduceToNat, Int.reduceLE, Int.reduceLT, C4, Sp_overdubref01_Take, Sp_overdubref14_PackCell, x_ar60, x_bt3, x_bt9, x_el27, x_el60, x_ik27, x_ik5, x_ik9, x_pl29, x_pt3, x_pt9, x_slt27, x_st9, x_tk29, x_tk3, x_un27, x_zc29, x_zc3, x_zc5, hz, celFail])
theorem ent_overdubref14_UnpackCell : Ent Try.prog 26 := ⟨_, Try.func26, rfl, by decide⟩
end Go.Proofs.Ytaiaackeljlbfaa.Am
