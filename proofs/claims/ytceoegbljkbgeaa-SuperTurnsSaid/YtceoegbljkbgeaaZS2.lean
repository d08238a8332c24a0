import Derived.Test.YtceoegbljkbgeaaZS1
import Derived.Test.YtceoegbljkbgeaaZG2
set_option linter.unusedVariables false
set_option linter.unusedSimpArgs false
set_option maxRecDepth 10000
set_option maxHeartbeats 0
namespace Go.Proofs.Ytceoegbljkbgeaa.Am
open Go Go.RowKit Go.Proofs
theorem putB_take' (n : Int) (m : Nat) : ((putB n m).map mB).take m = (putB n m).map mB := List.take_of_length_le (by simp [putB])
theorem wd_4 : wd 4 = 4 := rfl
def wordL : List Int := [111, 118, 101, 114, 100, 117, 98, 49]
def supL (g l d r c : Int) : List Int := wordL ++ (putB (max 0 g) 4 ++ (putB (max 0 l) 4 ++ (putB (max 0 d) 4 ++ (putB (max 0 r) 4 ++ putB (max 0 c) 4))))
theorem supL_len (g l d r c : Int) : (supL g l d r c).length = 28 := by simp [supL, wordL, putB_len]
theorem YS (a b c d e : List Int) (l : List (List Int)) : ([D.list [D.v (.int .u8 111), D.v (.int .u8 118), D.v (.int .u8 101), D.v (.int .u8 114), D.v (.int .u8 100), D.v (.int .u8 117), D.v (.int .u8 98), D.v (.int .u8 49)], D.list (a.map mB), D.list (b.map mB), D.list (c.map mB), D.list (d.map mB), D.list (e.map mB)] = l.map bys) = (l = [wordL, a, b, c, d, e]) := by
  rw [show [D.list [D.v (.int .u8 111), D.v (.int .u8 118), D.v (.int .u8 101), D.v (.int .u8 114), D.v (.int .u8 100), D.v (.int .u8 117), D.v (.int .u8 98), D.v (.int .u8 49)], D.list (a.map mB), D.list (b.map mB), D.list (c.map mB), D.list (d.map mB), D.list (e.map mB)] = [wordL, a, b, c, d, e].map bys from rfl, Y_inj]
  exact propext eq_comm
theorem supL_fold (g l d r c : Int) : wordL ++ (putB (max 0 g) 4 ++ (putB (max 0 l) 4 ++ (putB (max 0 d) 4 ++ (putB (max 0 r) 4 ++ putB (max 0 c) 4)))) = supL g l d r c := rfl
theorem wordL_len : wordL.length = 8 := rfl
theorem take_lenB' (l : List Int) (n : Nat) (h : l.length = n) : (l.map mB).take n = l.map mB := List.take_of_length_le (by simp [h])
def supP (g l d r c : Int) : List Int := sealL (supL g l d r c)
noncomputable def Z3 : Env := ⟨Try.prog, fun f ds out => (f = 27 ∧ Sp_field_Put ds out) ∨ (f = 26 ∧ Sp_field_Join ds out) ∨ (f = 25 ∧ Sp_sealed_Seal ds out), Es⟩
theorem Z3_sp : ∀ f ds out, Z3.Sp f ds out → Ent Z3.P f ∧ Good Z3.P f (fun a b => a = ds ∧ b = out) := by
  rintro f ds out (⟨rfl, h⟩ | ⟨rfl, h⟩ | ⟨rfl, h⟩)
  · exact ⟨ent_field_Put, good_field_Put.one h⟩
  · exact ⟨ent_field_Join, good_field_Join.one h⟩
  · exact ⟨ent_sealed_Seal, good_sealed_Seal.one h⟩
theorem Z3_ok : Z3.Ok := ⟨Z3_sp, Es_ok⟩
def Sp_super_Pack (ds : List D) (out : Out) : Prop := ∃ g l d r c : Int, ds = [.agg [.v (.int .i64 g), .v (.int .i64 l), .v (.int .i64 d), .v (.int .i64 r)], .v (.int .i64 c)] ∧ g < 9223372036854775808 ∧ l < 9223372036854775808 ∧ d < 9223372036854775808 ∧ r < 9223372036854775808 ∧ c < 9223372036854775808 ∧ out = ⟨.sl 0 1 0 128 true, [(0, .row 5 1 ((supP g l d r c).map mB))]⟩
def cc_super_Pack_1 : List (List (Option Bool)) := [[some false, some false, none, none, none, none, none, none, none, none, none, none, none, none, none, none, some false, some false, some false, some false], [some true, some false, none, none, none, none, none, none, none, none, none, none, none, none, none, none, some false, some false, some false, some false], [none, none, some false, some false, some false, none, none, some false, none, none, some false, none, none, some false, none, some false, some false, some false, some false, some false], [none, none, some true, some false, some false, none, none, some false, none, none, some false, none, none, some false, none, some false, some false, some false, some false, some false], [none, none, some true, some true, some false, none, none, some false, none, none, some false, none, none, some false, none, some false, some false, some false, some false, some false], [none, none, none, none, none, some false, some false, some false, none, none, some false, none, none, some false, none, some false, some false, some false, some false, some false], [none, none, none, none, none, some true, some false, some false, none, none, some false, none, none, some false, none, some false, some false, some false, some false, some false], [none, none, some true, some true, some true, some true, some true, some false, none, none, some false, none, none, some false, none, some false, some false, some false, some false, some false], [none, none, none, none, none, none, none, none, some false, some false, some false, none, none, some false, none, some false, some false, some false, some false, some false], [none, none, none, none, none, none, none, none, some true, some false, some false, none, none, some false, none, some false, some false, some false, some false, some false], [none, none, some true, some true, some true, some true, some true, some true, some true, some true, some false, none, none, some false, none, some false, some false, some false, some false, some false], [none, none, none, none, none, none, none, none, none, none, none, some false, some false, some false, none, some false, some false, some false, some false, some false], [none, none, none, none, none, none, none, none, none, none, none, some true, some false, some false, none, some false, some false, some false, some false, some false], [none, none, some true, some true, some true, some true, some true, some true, some true, some true, some true, some true, some true, some false, none, some false, some false, some false, some false, some false], [none, none, none, none, none, none, none, none, none, none, none, none, none, none, some false, some false, some false, some false, some false, some false], [none, none, some true, some true, some true, some true, some true, some true, some true, some true, some true, some true, some true, some true, some true, some false, some false, some false, some false, some false], [some true, some true, some true, some true, some true, some true, some true, some true, some true, some true, some true, some true, some true, some true, some true, some true, some false, some false, some false, some false], [some true, some true, some true, some true, some true, some true, some true, some true, some true, some true, some true, some true, some true, some true, some true, some true, some true, some false, some false, some false], [some true, some true, some true, some true, some true, some true, some true, some true, some true, some true, some true, some true, some true, some true, some true, some true, some true, some true, some false, some false], [some true, some true, some true, some true, some true, some true, some true, some true, some true, some true, some true, some true, some true, some true, some true, some true, some true, some true, some true, some false]]
theorem good_super_Pack : Good Try.prog 15 Sp_super_Pack := by
  refine good_body (E := Z3) (nt := 24) (rs := #[.tmp 4]) Try.func15 rfl rfl rfl ?_
  rintro ds out ⟨g, l, d, r, c, rfl, hg, hl, hd, hr, hc, rfl⟩
  refine ⟨by simp, ?_⟩
  have hsl := supL_len g l d r c
  repeat' first
                    | (refine AW.seq ?_)
                    | (refine AW.block ?_)
                    | (refine AW.regl Z3_ok [0, 1, 2, 4] ?_)
                    | (refine AW.regc (id := 1) Z3_ok follows [0, 1, 0, 4, 12, 0, 32, 124, 0, 256, 1020, 0, 2048, 8188, 0, 32764, 65535, 131071, 262143, 524287] (by kernel_rfl) [0, 1, 2, 4] ?_)
                    | (refine then_n ?_)
                    | (refine then_r ?_)
                    | (refine then_x ?_)
                    | (refine block_x ?_)
                    | (refine block_o (by decide) ?_)
                    | (refine block_n ?_)
                    | (refine block_r ?_)
                    | (refine AW.skip ?_)
                    | (refine AW.ret ?_)
                    | (refine AW.exit ?_)
                    | (refine AW.cond rfl ?_ ?_ <;> (intro hc; first | cases hc | ((try rw [hc]); (try simp only [stH] at hc); (try (exfalso; omega)))))
                    | ((first
                          | (refine awl_none rfl fun K hK => ?_)
                          | (refine awl_nil ?_)
                          | (refine awl_some rfl rfl (Nat.le_of_ble_eq_true rfl) rfl rfl ?_ ?_ <;> (intro hc; first | cases hc | ((try rw [hc]); (try simp only [stH] at hc); (try (exfalso; omega)))) <;> (try intro K hK))
                          | (refine awl_skip rfl rfl (Nat.le_of_ble_eq_true rfl) rfl rfl ?_)
                          | (refine awc_none rfl fun K hK => ?_)
                          | (refine awc_some rfl rfl (Nat.le_of_ble_eq_true rfl) rfl rfl ?_ ?_ <;> (intro hc; first | cases hc | ((try rw [hc]); (try simp only [stH] at hc); (try (exfalso; omega)))) <;> (try intro K hK))
                          | exact each_nil
                          | (refine each_none rfl ?_ ?_ <;> (try intro bb K hK))
                          | (refine awc_leaf [some 5, some 6, some 7, some 8, some 9, some 10, some 11, some 12, some 13, some 14, some 15, some 16, some 17, some 18, some 19, some 20, some 21, some 22, some 23, some 4] cc_super_Pack_1 rfl (by kernel_rfl) (by kernel_rfl) ?_ ?_))
                       all_goals first
                         | (show Awl _ _ _ _ _; simp only [St.upd, St.put, List.nil_append, List.cons_append, List.singleton_append, List.append_nil])
                         | (show Awc _ _ _ _ _ _; simp only [St.upd, St.put, List.nil_append, List.cons_append, List.singleton_append, List.append_nil])
                         | (show Each _ _ _ _ _ _ _ _; skip)
                         | (simp (disch := omega) only [awl, ev1, evk, evc, gv, e_move, e_pick, e_bin, binW, e_un, e_cnv, e_conv, e_str, e_mark, e_copy, e_extract, e_len, e_mm, e_nil, e_index, e_field, e_load, e_fld, e_cut, e_alloc, e_box, e_make, e_build, e_lit, e_store, e_app, e_call, args, pus, pu, pu1, toDL, toD, toD1, toDs, elems, idsW, idsV, lenV, oint, cutOk, ldV, subD, newD, fillV, cellsV, one1, one0, zD, cD0, scs, St.upd, St.put, St.ev, St.keep, gt, go, tmOf, ofD, dOk, cV, cV0, renM, Value.oneCell', keepL, freshL, vaOL, outB, wkTm, subL, ninL, injL, nm, resW, resL, resV, shift, ren, ren2, ren1, renO, va, va2, va1, vaO, inDom, stA, Int.reduceEq, ↓reduceIte, reduceCtorEq, Nat.reduceEqDiff, Nat.reduceLT, Nat.reduceLeDiff, Nat.reduceAdd, Nat.reduceSub, Nat.reduceMul, Int.reduceToNat, Int.reduceLE, Int.reduceLT, Z3, Sp_field_Put, Sp_field_Join, Sp_sealed_Seal, x_el24, x_el41, x_fo23_0, x_fo23_1, x_fo23_2, x_fo23_3, x_ik24, x_ik5, x_st24, x_tk23, x_tk24, x_tk3, x_tk5, x_un24, x_zc24, x_zc5, wd_4, putB_take', YS, putB_len, wordL_len, supL_fold, hsl, take_lenB', List.flatten_cons, List.flatten_nil, mB_inj, Sg3, St.updIf, ifc_nil, gt_ifc, go_ifc, ite_self, Option.none_or, Option.some_or]
                            (try ((repeat' first | (refine And.intro ?_ ?_) | (intro hc; first | cases hc | ((try rw [hc]); (try simp only [stH] at hc); (try (exfalso; omega)))))
                                  all_goals first | (refine hK _ _ ?_; clear hK K; simp only [St.upd, St.put, List.nil_append, List.cons_append, List.singleton_append, List.append_nil]) | exact hK | omega))))
  (refine Ends.of (nm [(0, 23)]) (by first | exact .inl rfl | exact .inr rfl) ?_; simp (disch := omega) only [awl, ev1, evk, evc, gv, e_move, e_pick, e_bin, binW, e_un, e_cnv, e_conv, e_str, e_mark, e_copy, e_extract, e_len, e_mm, e_nil, e_index, e_field, e_load, e_fld, e_cut, e_alloc, e_box, e_make, e_build, e_lit, e_store, e_app, e_call, args, pus, pu, pu1, toDL, toD, toD1, toDs, elems, idsW, idsV, lenV, oint, cutOk, ldV, subD, newD, fillV, cellsV, one1, one0, zD, cD0, scs, St.upd, St.put, St.ev, St.keep, gt, go, tmOf, ofD, dOk, cV, cV0, renM, Value.oneCell', keepL, freshL, vaOL, outB, wkTm, subL, ninL, injL, nm, resW, resL, resV, shift, ren, ren2, ren1, renO, va, va2, va1, vaO, inDom, stA, Int.reduceEq, ↓reduceIte, reduceCtorEq, Nat.reduceEqDiff, Nat.reduceLT, Nat.reduceLeDiff, Nat.reduceAdd, Nat.reduceSub, Nat.reduceMul, Int.reduceToNat, Int.reduceLE, Int.reduceLT, Z3, Sp_field_Put, Sp_field_Join, Sp_sealed_Seal, x_el24, x_el41, x_fo23_0, x_fo23_1, x_fo23_2, x_fo23_3, x_ik24, x_ik5, x_st24, x_tk23, x_tk24, x_tk3, x_tk5, x_un24, x_zc24, x_zc5, supP])
theorem ent_super_Pack : Ent Try.prog 15 := ⟨_, Try.func15, rfl, by decide⟩
end Go.Proofs.Ytceoegbljkbgeaa.Am
