import Derived.Test.YtigkcigoiinkpaaZNP
set_option linter.unusedVariables false
set_option linter.unusedSimpArgs false
set_option maxRecDepth 10000
set_option maxHeartbeats 0
namespace Go.Proofs.Ytigkcigoiinkpaa.Am
open Go Go.RowKit Go.Proofs
noncomputable def QU : Env := ⟨Try.prog, fun f ds out => (f = 12 ∧ Sp_overdubkeep_Cut_overdublaw20_Line ds out) ∨ (f = 11 ∧ Sp_overdublaw20_lines ds out) ∨ (f = 13 ∧ Sp_node_PackDir ds out) ∨ (f = 14 ∧ Sp_overdubkeep_Same_byte ds out) ∨ (f = 15 ∧ Sp_overdubkeep_Same_node_Line ds out) ∨ (f = 16 ∧ Sp_overdublaw16_Row ds out) ∨ (f = 17 ∧ Sp_overdublaw20_wakes ds out) ∨ (f = 18 ∧ Sp_node_PackLeaf ds out) ∨ (f = 19 ∧ Sp_overdubkeep_Same_api_Extent ds out), Es, fun _ => false⟩
theorem QU_sp : ∀ f ds out, QU.Sp f ds out → Ent QU.P f ∧ Good QU.P f (fun a b => a = ds ∧ b = out) := by
  rintro f ds out (⟨rfl, h⟩ | ⟨rfl, h⟩ | ⟨rfl, h⟩ | ⟨rfl, h⟩ | ⟨rfl, h⟩ | ⟨rfl, h⟩ | ⟨rfl, h⟩ | ⟨rfl, h⟩ | ⟨rfl, h⟩)
  · exact ⟨ent_overdubkeep_Cut_overdublaw20_Line, good_overdubkeep_Cut_overdublaw20_Line.one h⟩
  · exact ⟨ent_overdublaw20_lines, good_overdublaw20_lines.one h⟩
  · exact ⟨ent_node_PackDir, good_node_PackDir.one h⟩
  · exact ⟨ent_overdubkeep_Same_byte, good_overdubkeep_Same_byte.one h⟩
  · exact ⟨ent_overdubkeep_Same_node_Line, good_overdubkeep_Same_node_Line.one h⟩
  · exact ⟨ent_overdublaw16_Row, good_overdublaw16_Row.one h⟩
  · exact ⟨ent_overdublaw20_wakes, good_overdublaw20_wakes.one h⟩
  · exact ⟨ent_node_PackLeaf, good_node_PackLeaf.one h⟩
  · exact ⟨ent_overdubkeep_Same_api_Extent, good_overdubkeep_Same_api_Extent.one h⟩
theorem QU_ok : QU.Ok := ⟨QU_sp, Es_ok⟩
def Sp_overdublaw20_NodeUnlike (ds : List D) (out : Out) : Prop := ∃ (a b : List Ln) (l m : List Xt) (tw : Bool), ds = [.list (a.map lD), .list (b.map lD), .list (l.map eD), .list (m.map eD), .v (.bool tw)] ∧ a.length ≤ 9223372036854775807 ∧ b.length ≤ 9223372036854775807 ∧ l.length ≤ 9223372036854775807 ∧ (∀ e ∈ l, numE e) ∧ m.length ≤ 9223372036854775807 ∧ (∀ e ∈ m, numE e) ∧ out = ⟨.d (.v (.bool true)), []⟩
theorem good_overdublaw20_NodeUnlike : Good Try.prog 3 Sp_overdublaw20_NodeUnlike := by
  refine good_body (E := QU) (nt := 109) (rs := #[.tmp 10]) Try.func3 rfl rfl rfl ?_
  rintro ds out ⟨a, b, l, m, tw, rfl, ha, hb, hl, hnl, hm, hnm, rfl⟩
  refine ⟨by simp, ?_⟩
  have n6 : (6 : Int).toNat = 6 := rfl
  have n8 : (8 : Int).toNat = 8 := rfl
  have hX := may_lines6 a
  have hY := may_lines6 b
  have ta : (a.take 6).length ≤ 6 := List.length_take_le ..
  have tb : (b.take 6).length ≤ 6 := List.length_take_le ..
  have oX : linesOut true (a.take 6) = ⟨.tup [.sl 0 3 0 (lnG true 8 (-1) (a.take 6)).length true, .sl 1 3 0 (lnG true 8 (-1) (a.take 6)).length true], [(0, .row 36 3 ((lnG true 8 (-1) (a.take 6)).map lD)), (1, .row 86 3 ((lnG true 8 (-1) (a.take 6)).map lD))]⟩ := rfl
  have oY : linesOut true (b.take 6) = ⟨.tup [.sl 0 3 0 (lnG true 8 (-1) (b.take 6)).length true, .sl 1 3 0 (lnG true 8 (-1) (b.take 6)).length true], [(0, .row 36 3 ((lnG true 8 (-1) (b.take 6)).map lD)), (1, .row 86 3 ((lnG true 8 (-1) (b.take 6)).map lD))]⟩ := rfl
  generalize lnG true 8 (-1) (a.take 6) = X at *
  generalize lnG true 8 (-1) (b.take 6) = Y at *
  have pX : packDOut X = ⟨.tup [.sl 0 1 0 128 true, .d (.v (.bool true))], [(0, .row 5 1 ((dirP X).map mB))]⟩ := if_pos hX
  have pY : packDOut Y = ⟨.tup [.sl 0 1 0 128 true, .d (.v (.bool true))], [(0, .row 5 1 ((dirP Y).map mB))]⟩ := if_pos hY
  have cX : (dirP X).length = 128 := nodP_len _ _ _
  have cY : (dirP Y).length = 128 := nodP_len _ _ _
  have tX : ((dirP X).map mB).take 128 = (dirP X).map mB := List.take_of_length_le (by rw [List.length_map, cX]; omega)
  have tY : ((dirP Y).map mB).take 128 = (dirP Y).map mB := List.take_of_length_le (by rw [List.length_map, cY]; omega)
  have uX : (X.map lD).take X.length = X.map lD := List.take_of_length_le (by simp)
  have uY : (Y.map lD).take Y.length = Y.map lD := List.take_of_length_le (by simp)
  have lX : X.length ≤ 6 := hX.1
  have lY : Y.length ≤ 6 := hY.1
  have hun := dir_unlike hX hY
  have hld : ∀ u : List Xt, mayF u → leafP u ≠ dirP X := fun u hu => leaf_dir hu hX
  have dXX : decide (dirP X = dirP X) = true := decide_eq_true rfl
  have dxx : decide (X = X) = true := decide_eq_true rfl
  clear hX hY
  obtain ⟨P, hP⟩ : ∃ P, dirP X = P := ⟨_, rfl⟩
  obtain ⟨Q, hQ⟩ : ∃ Q, dirP Y = Q := ⟨_, rfl⟩
  simp only [hP] at pX cX tX hun hld dXX
  simp only [hQ] at pY cY tY hun
  clear hP hQ
  refine AW.m7 ⟨[(2, .d (.list (l.map eD))), (3, .d (.list (m.map eD))), (15, .sl 100 1 0 128 true)], [(100, .row 5 1 (P.map mB))], 109⟩ ?_ ?_
  · clear hld hnl hnm
    cases tw with
    | true =>
      clear hun
      repeat' first
 | refine AW.seq ?_
 | refine AW.block ?_
 | refine AW.regl QU_ok [0, 1, 2, 3, 4, 10, 11, 13, 15, 16, 17, 18, 19, 20, 21, 22, 23, 24, 37, 63, 75] ?_
 | refine then_n ?_
 | refine then_r ?_
 | refine then_x ?_
 | refine block_x ?_
 | refine block_o (by decide) ?_
 | refine block_n ?_
 | refine block_r ?_
 | refine AW.skip ?_
 | refine AW.ret ?_
 | refine AW.exit ?_
 | refine AW.cond rfl ?_ ?_
 | refine awl_none rfl ?_
 | refine awl_nil2 ?_
 | refine awl_some rfl rfl (Nat.le_of_ble_eq_true rfl) rfl rfl ?_ ?_
 | (refine fun (hc : _ = _) => ?_; first | cases hc | ((try rw [hc]); (try simp only [stH] at hc); (try (exfalso; omega))); (try (show Awl _ _ _ _ _; simp only [stU])))
 | ((first | refine fun (K : V → List _ → _) hK => ?_ | refine fun (_ : V → V) => ?_); simp (disch := omega) only [go_sem, Int.reduceEq, ↓reduceIte, reduceCtorEq, Nat.reduceEqDiff, Nat.reduceLT, Nat.reduceLeDiff, Nat.reduceAdd, Nat.reduceSub, Nat.reduceMul, Int.reduceToNat, Int.reduceLE, Int.reduceLT, QU, Sp_overdubkeep_Cut_overdublaw20_Line, Sp_overdublaw20_lines, Sp_node_PackDir, Sp_overdubkeep_Same_byte, Sp_overdubkeep_Same_node_Line, Sp_overdublaw16_Row, Sp_overdublaw20_wakes, Sp_node_PackLeaf, Sp_overdubkeep_Same_api_Extent, n6, oX, oY, pX, pY, cX, cY, tX, tY, uX, uY, dXX, dxx, lD_inj, mB_inj]; (try (revert hK; intro hK; (repeat' first | (refine And.intro ?_ ?_) | (intro hc; first | cases hc | ((try rw [hc]); (try simp only [stH] at hc); (try (exfalso; omega))))); all_goals first | (refine hK _ _ ?_; clear hK K; simp only [stU]) | exact hK | omega)))
      refine ⟨nm [(100, 41)], Wk.of ?_⟩
      simp (disch := omega) only [go_sem, Int.reduceEq, ↓reduceIte, reduceCtorEq, Nat.reduceEqDiff, Nat.reduceLT, Nat.reduceLeDiff, Nat.reduceAdd, Nat.reduceSub, Nat.reduceMul, Int.reduceToNat, Int.reduceLE, Int.reduceLT, QU, Sp_overdubkeep_Cut_overdublaw20_Line, Sp_overdublaw20_lines, Sp_node_PackDir, Sp_overdubkeep_Same_byte, Sp_overdubkeep_Same_node_Line, Sp_overdublaw16_Row, Sp_overdublaw20_wakes, Sp_node_PackLeaf, Sp_overdubkeep_Same_api_Extent]
      all_goals first | done | rfl | exact ⟨rfl, rfl⟩
    | false =>
      by_cases he : X = Y
      · have d1 : decide (P = Q) = true := decide_eq_true (hun.2 he)
        have d2 : decide (X = Y) = true := decide_eq_true he
        clear hun he
        repeat' first
 | refine AW.seq ?_
 | refine AW.block ?_
 | refine AW.regl QU_ok [0, 1, 2, 3, 4, 10, 11, 13, 15, 16, 17, 18, 19, 20, 21, 22, 23, 24, 37, 63, 75] ?_
 | refine then_n ?_
 | refine then_r ?_
 | refine then_x ?_
 | refine block_x ?_
 | refine block_o (by decide) ?_
 | refine block_n ?_
 | refine block_r ?_
 | refine AW.skip ?_
 | refine AW.ret ?_
 | refine AW.exit ?_
 | refine AW.cond rfl ?_ ?_
 | refine awl_none rfl ?_
 | refine awl_nil2 ?_
 | refine awl_some rfl rfl (Nat.le_of_ble_eq_true rfl) rfl rfl ?_ ?_
 | (refine fun (hc : _ = _) => ?_; first | cases hc | ((try rw [hc]); (try simp only [stH] at hc); (try (exfalso; omega))); (try (show Awl _ _ _ _ _; simp only [stU])))
 | ((first | refine fun (K : V → List _ → _) hK => ?_ | refine fun (_ : V → V) => ?_); simp (disch := omega) only [go_sem, Int.reduceEq, ↓reduceIte, reduceCtorEq, Nat.reduceEqDiff, Nat.reduceLT, Nat.reduceLeDiff, Nat.reduceAdd, Nat.reduceSub, Nat.reduceMul, Int.reduceToNat, Int.reduceLE, Int.reduceLT, QU, Sp_overdubkeep_Cut_overdublaw20_Line, Sp_overdublaw20_lines, Sp_node_PackDir, Sp_overdubkeep_Same_byte, Sp_overdubkeep_Same_node_Line, Sp_overdublaw16_Row, Sp_overdublaw20_wakes, Sp_node_PackLeaf, Sp_overdubkeep_Same_api_Extent, n6, oX, oY, pX, pY, cX, cY, tX, tY, uX, uY, d1, d2, lD_inj, mB_inj]; (try (revert hK; intro hK; (repeat' first | (refine And.intro ?_ ?_) | (intro hc; first | cases hc | ((try rw [hc]); (try simp only [stH] at hc); (try (exfalso; omega))))); all_goals first | (refine hK _ _ ?_; clear hK K; simp only [stU]) | exact hK | omega)))
        refine ⟨nm [(100, 41)], Wk.of ?_⟩
        simp (disch := omega) only [go_sem, Int.reduceEq, ↓reduceIte, reduceCtorEq, Nat.reduceEqDiff, Nat.reduceLT, Nat.reduceLeDiff, Nat.reduceAdd, Nat.reduceSub, Nat.reduceMul, Int.reduceToNat, Int.reduceLE, Int.reduceLT, QU, Sp_overdubkeep_Cut_overdublaw20_Line, Sp_overdublaw20_lines, Sp_node_PackDir, Sp_overdubkeep_Same_byte, Sp_overdubkeep_Same_node_Line, Sp_overdublaw16_Row, Sp_overdublaw20_wakes, Sp_node_PackLeaf, Sp_overdubkeep_Same_api_Extent]
        all_goals first | done | rfl | exact ⟨rfl, rfl⟩
      · have d1 : decide (P = Q) = false := decide_eq_false fun h => he (hun.1 h)
        have d2 : decide (X = Y) = false := decide_eq_false he
        clear hun he
        repeat' first
 | refine AW.seq ?_
 | refine AW.block ?_
 | refine AW.regl QU_ok [0, 1, 2, 3, 4, 10, 11, 13, 15, 16, 17, 18, 19, 20, 21, 22, 23, 24, 37, 63, 75] ?_
 | refine then_n ?_
 | refine then_r ?_
 | refine then_x ?_
 | refine block_x ?_
 | refine block_o (by decide) ?_
 | refine block_n ?_
 | refine block_r ?_
 | refine AW.skip ?_
 | refine AW.ret ?_
 | refine AW.exit ?_
 | refine AW.cond rfl ?_ ?_
 | refine awl_none rfl ?_
 | refine awl_nil2 ?_
 | refine awl_some rfl rfl (Nat.le_of_ble_eq_true rfl) rfl rfl ?_ ?_
 | (refine fun (hc : _ = _) => ?_; first | cases hc | ((try rw [hc]); (try simp only [stH] at hc); (try (exfalso; omega))); (try (show Awl _ _ _ _ _; simp only [stU])))
 | ((first | refine fun (K : V → List _ → _) hK => ?_ | refine fun (_ : V → V) => ?_); simp (disch := omega) only [go_sem, Int.reduceEq, ↓reduceIte, reduceCtorEq, Nat.reduceEqDiff, Nat.reduceLT, Nat.reduceLeDiff, Nat.reduceAdd, Nat.reduceSub, Nat.reduceMul, Int.reduceToNat, Int.reduceLE, Int.reduceLT, QU, Sp_overdubkeep_Cut_overdublaw20_Line, Sp_overdublaw20_lines, Sp_node_PackDir, Sp_overdubkeep_Same_byte, Sp_overdubkeep_Same_node_Line, Sp_overdublaw16_Row, Sp_overdublaw20_wakes, Sp_node_PackLeaf, Sp_overdubkeep_Same_api_Extent, n6, oX, oY, pX, pY, cX, cY, tX, tY, uX, uY, d1, d2, lD_inj, mB_inj]; (try (revert hK; intro hK; (repeat' first | (refine And.intro ?_ ?_) | (intro hc; first | cases hc | ((try rw [hc]); (try simp only [stH] at hc); (try (exfalso; omega))))); all_goals first | (refine hK _ _ ?_; clear hK K; simp only [stU]) | exact hK | omega)))
        refine ⟨nm [(100, 41)], Wk.of ?_⟩
        simp (disch := omega) only [go_sem, Int.reduceEq, ↓reduceIte, reduceCtorEq, Nat.reduceEqDiff, Nat.reduceLT, Nat.reduceLeDiff, Nat.reduceAdd, Nat.reduceSub, Nat.reduceMul, Int.reduceToNat, Int.reduceLE, Int.reduceLT, QU, Sp_overdubkeep_Cut_overdublaw20_Line, Sp_overdublaw20_lines, Sp_node_PackDir, Sp_overdubkeep_Same_byte, Sp_overdubkeep_Same_node_Line, Sp_overdublaw16_Row, Sp_overdublaw20_wakes, Sp_node_PackLeaf, Sp_overdubkeep_Same_api_Extent]
        all_goals first | done | rfl | exact ⟨rfl, rfl⟩
  · clear oX oY pX pY uX uY dXX dxx hun tY cY
    have hq1 : (∀ e ∈ l, numE e) = True := eq_true hnl
    have hq2 : (∀ e ∈ m, numE e) = True := eq_true hnm
    have g1 := (rowG_ok 8 0 l (by omega) (by omega)).2
    have g2 := (rowG_ok 8 0 m (by omega) (by omega)).2
    have m1 := may_row l (n := 8) (by omega)
    have m2 := may_row m (n := 8) (by omega)
    clear hnl hnm
    obtain ⟨U, hU⟩ : ∃ U, rowG 8 0 l = U := ⟨_, rfl⟩
    obtain ⟨Wv, hV⟩ : ∃ Wv, rowG 8 0 m = Wv := ⟨_, rfl⟩
    rw [hU] at g1 m1
    rw [hV] at g2 m2
    by_cases h1 : U.length = 0
    · clear m1 m2 hld
      repeat' first
 | refine AW.seq ?_
 | refine AW.block ?_
 | refine AW.regl QU_ok [0, 1, 2, 3, 4, 10, 11, 13, 15, 16, 17, 18, 19, 20, 21, 22, 23, 24, 37, 63, 75] ?_
 | refine then_n ?_
 | refine then_r ?_
 | refine then_x ?_
 | refine block_x ?_
 | refine block_o (by decide) ?_
 | refine block_n ?_
 | refine block_r ?_
 | refine AW.skip ?_
 | refine AW.ret ?_
 | refine AW.exit ?_
 | refine AW.cond rfl ?_ ?_
 | refine awl_none rfl ?_
 | refine awl_nil2 ?_
 | refine awl_some rfl rfl (Nat.le_of_ble_eq_true rfl) rfl rfl ?_ ?_
 | (refine fun (hc : _ = _) => ?_; first | cases hc | ((try rw [hc]); (try simp only [stH] at hc); (try (exfalso; omega))); (try (show Awl _ _ _ _ _; simp only [stU])))
 | ((first | refine fun (K : V → List _ → _) hK => ?_ | refine fun (_ : V → V) => ?_); simp (disch := omega) only [go_sem, Int.reduceEq, ↓reduceIte, reduceCtorEq, Nat.reduceEqDiff, Nat.reduceLT, Nat.reduceLeDiff, Nat.reduceAdd, Nat.reduceSub, Nat.reduceMul, Int.reduceToNat, Int.reduceLE, Int.reduceLT, QU, Sp_overdubkeep_Cut_overdublaw20_Line, Sp_overdublaw20_lines, Sp_node_PackDir, Sp_overdubkeep_Same_byte, Sp_overdubkeep_Same_node_Line, Sp_overdublaw16_Row, Sp_overdublaw20_wakes, Sp_node_PackLeaf, Sp_overdubkeep_Same_api_Extent, n8, hq1, hq2, hU, hV, h1, eD_inj]; (try (revert hK; intro hK; (repeat' first | (refine And.intro ?_ ?_) | (intro hc; first | cases hc | ((try rw [hc]); (try simp only [stH] at hc); (try (exfalso; omega))))); all_goals first | (refine hK _ _ ?_; clear hK K; simp only [stU]) | exact hK | omega)))
      (refine Ends.of (nm []) (by first | exact .inl rfl | exact .inr rfl) ?_; simp (disch := omega) only [go_sem, Int.reduceEq, ↓reduceIte, reduceCtorEq, Nat.reduceEqDiff, Nat.reduceLT, Nat.reduceLeDiff, Nat.reduceAdd, Nat.reduceSub, Nat.reduceMul, Int.reduceToNat, Int.reduceLE, Int.reduceLT, QU, Sp_overdubkeep_Cut_overdublaw20_Line, Sp_overdublaw20_lines, Sp_node_PackDir, Sp_overdubkeep_Same_byte, Sp_overdubkeep_Same_node_Line, Sp_overdublaw16_Row, Sp_overdublaw20_wakes, Sp_node_PackLeaf, Sp_overdubkeep_Same_api_Extent])
    by_cases h2 : Wv.length = 0
    · clear m1 m2 hld
      have e1 : decide ((U.length : Int) = 0) = false := decide_eq_false (by omega)
      repeat' first
 | refine AW.seq ?_
 | refine AW.block ?_
 | refine AW.regl QU_ok [0, 1, 2, 3, 4, 10, 11, 13, 15, 16, 17, 18, 19, 20, 21, 22, 23, 24, 37, 63, 75] ?_
 | refine then_n ?_
 | refine then_r ?_
 | refine then_x ?_
 | refine block_x ?_
 | refine block_o (by decide) ?_
 | refine block_n ?_
 | refine block_r ?_
 | refine AW.skip ?_
 | refine AW.ret ?_
 | refine AW.exit ?_
 | refine AW.cond rfl ?_ ?_
 | refine awl_none rfl ?_
 | refine awl_nil2 ?_
 | refine awl_some rfl rfl (Nat.le_of_ble_eq_true rfl) rfl rfl ?_ ?_
 | (refine fun (hc : _ = _) => ?_; first | cases hc | ((try rw [hc]); (try simp only [stH] at hc); (try (exfalso; omega))); (try (show Awl _ _ _ _ _; simp only [stU])))
 | ((first | refine fun (K : V → List _ → _) hK => ?_ | refine fun (_ : V → V) => ?_); simp (disch := omega) only [go_sem, Int.reduceEq, ↓reduceIte, reduceCtorEq, Nat.reduceEqDiff, Nat.reduceLT, Nat.reduceLeDiff, Nat.reduceAdd, Nat.reduceSub, Nat.reduceMul, Int.reduceToNat, Int.reduceLE, Int.reduceLT, QU, Sp_overdubkeep_Cut_overdublaw20_Line, Sp_overdublaw20_lines, Sp_node_PackDir, Sp_overdubkeep_Same_byte, Sp_overdubkeep_Same_node_Line, Sp_overdublaw16_Row, Sp_overdublaw20_wakes, Sp_node_PackLeaf, Sp_overdubkeep_Same_api_Extent, n8, hq1, hq2, hU, hV, h2, e1, eD_inj]; (try (revert hK; intro hK; (repeat' first | (refine And.intro ?_ ?_) | (intro hc; first | cases hc | ((try rw [hc]); (try simp only [stH] at hc); (try (exfalso; omega))))); all_goals first | (refine hK _ _ ?_; clear hK K; simp only [stU]) | exact hK | omega)))
      (refine Ends.of (nm []) (by first | exact .inl rfl | exact .inr rfl) ?_; simp (disch := omega) only [go_sem, Int.reduceEq, ↓reduceIte, reduceCtorEq, Nat.reduceEqDiff, Nat.reduceLT, Nat.reduceLeDiff, Nat.reduceAdd, Nat.reduceSub, Nat.reduceMul, Int.reduceToNat, Int.reduceLE, Int.reduceLT, QU, Sp_overdubkeep_Cut_overdublaw20_Line, Sp_overdublaw20_lines, Sp_node_PackDir, Sp_overdubkeep_Same_byte, Sp_overdubkeep_Same_node_Line, Sp_overdublaw16_Row, Sp_overdublaw20_wakes, Sp_node_PackLeaf, Sp_overdubkeep_Same_api_Extent])
    have m1 := m1 (by omega)
    have m2 := m2 (by omega)
    have e1 : decide ((U.length : Int) = 0) = false := decide_eq_false (by omega)
    have e2 : decide ((Wv.length : Int) = 0) = false := decide_eq_false (by omega)
    have pU : packFOut U = ⟨.tup [.sl 0 1 0 128 true, .d (.v (.bool true))], [(0, .row 5 1 ((leafP U).map mB))]⟩ := if_pos m1
    have pV : packFOut Wv = ⟨.tup [.sl 0 1 0 128 true, .d (.v (.bool true))], [(0, .row 5 1 ((leafP Wv).map mB))]⟩ := if_pos m2
    have cU : (leafP U).length = 128 := nodP_len _ _ _
    have cV : (leafP Wv).length = 128 := nodP_len _ _ _
    have tU : ((leafP U).map mB).take 128 = (leafP U).map mB := List.take_of_length_le (by rw [List.length_map, cU]; omega)
    have tV : ((leafP Wv).map mB).take 128 = (leafP Wv).map mB := List.take_of_length_le (by rw [List.length_map, cV]; omega)
    have uU : (U.map eD).take U.length = U.map eD := List.take_of_length_le (by simp)
    have uV : (Wv.map eD).take Wv.length = Wv.map eD := List.take_of_length_le (by simp)
    have dUP : decide (leafP U = P) = false := decide_eq_false (hld U m1)
    have hun := leaf_unlike m1 m2
    clear m1 m2 hld
    generalize leafP U = A at *
    generalize leafP Wv = B at *
    by_cases he : U = Wv
    · have d1 : decide (A = B) = true := decide_eq_true (hun.2 he)
      have d2 : decide (U = Wv) = true := decide_eq_true he
      clear hun he
      repeat' first
 | refine AW.seq ?_
 | refine AW.block ?_
 | refine AW.regl QU_ok [0, 1, 2, 3, 4, 10, 11, 13, 15, 16, 17, 18, 19, 20, 21, 22, 23, 24, 37, 63, 75] ?_
 | refine then_n ?_
 | refine then_r ?_
 | refine then_x ?_
 | refine block_x ?_
 | refine block_o (by decide) ?_
 | refine block_n ?_
 | refine block_r ?_
 | refine AW.skip ?_
 | refine AW.ret ?_
 | refine AW.exit ?_
 | refine AW.cond rfl ?_ ?_
 | refine awl_none rfl ?_
 | refine awl_nil2 ?_
 | refine awl_some rfl rfl (Nat.le_of_ble_eq_true rfl) rfl rfl ?_ ?_
 | (refine fun (hc : _ = _) => ?_; first | cases hc | ((try rw [hc]); (try simp only [stH] at hc); (try (exfalso; omega))); (try (show Awl _ _ _ _ _; simp only [stU])))
 | ((first | refine fun (K : V → List _ → _) hK => ?_ | refine fun (_ : V → V) => ?_); simp (disch := omega) only [go_sem, Int.reduceEq, ↓reduceIte, reduceCtorEq, Nat.reduceEqDiff, Nat.reduceLT, Nat.reduceLeDiff, Nat.reduceAdd, Nat.reduceSub, Nat.reduceMul, Int.reduceToNat, Int.reduceLE, Int.reduceLT, QU, Sp_overdubkeep_Cut_overdublaw20_Line, Sp_overdublaw20_lines, Sp_node_PackDir, Sp_overdubkeep_Same_byte, Sp_overdubkeep_Same_node_Line, Sp_overdublaw16_Row, Sp_overdublaw20_wakes, Sp_node_PackLeaf, Sp_overdubkeep_Same_api_Extent, n8, hq1, hq2, hU, hV, e1, e2, pU, pV, cU, cV, cX, tU, tV, tX, uU, uV, dUP, d1, d2, eD_inj, mB_inj]; (try (revert hK; intro hK; (repeat' first | (refine And.intro ?_ ?_) | (intro hc; first | cases hc | ((try rw [hc]); (try simp only [stH] at hc); (try (exfalso; omega))))); all_goals first | (refine hK _ _ ?_; clear hK K; simp only [stU]) | exact hK | omega)))
      (refine Ends.of (nm []) (by first | exact .inl rfl | exact .inr rfl) ?_; simp (disch := omega) only [go_sem, Int.reduceEq, ↓reduceIte, reduceCtorEq, Nat.reduceEqDiff, Nat.reduceLT, Nat.reduceLeDiff, Nat.reduceAdd, Nat.reduceSub, Nat.reduceMul, Int.reduceToNat, Int.reduceLE, Int.reduceLT, QU, Sp_overdubkeep_Cut_overdublaw20_Line, Sp_overdublaw20_lines, Sp_node_PackDir, Sp_overdubkeep_Same_byte, Sp_overdubkeep_Same_node_Line, Sp_overdublaw16_Row, Sp_overdublaw20_wakes, Sp_node_PackLeaf, Sp_overdubkeep_Same_api_Extent])
    · have d1 : decide (A = B) = false := decide_eq_false fun h => he (hun.1 h)
      have d2 : decide (U = Wv) = false := decide_eq_false he
      clear hun he
      repeat' first
 | refine AW.seq ?_
 | refine AW.block ?_
 | refine AW.regl QU_ok [0, 1, 2, 3, 4, 10, 11, 13, 15, 16, 17, 18, 19, 20, 21, 22, 23, 24, 37, 63, 75] ?_
 | refine then_n ?_
 | refine then_r ?_
 | refine then_x ?_
 | refine block_x ?_
 | refine block_o (by decide) ?_
 | refine block_n ?_
 | refine block_r ?_
 | refine AW.skip ?_
 | refine AW.ret ?_
 | refine AW.exit ?_
 | refine AW.cond rfl ?_ ?_
 | refine awl_none rfl ?_
 | refine awl_nil2 ?_
 | refine awl_some rfl rfl (Nat.le_of_ble_eq_true rfl) rfl rfl ?_ ?_
 | (refine fun (hc : _ = _) => ?_; first | cases hc | ((try rw [hc]); (try simp only [stH] at hc); (try (exfalso; omega))); (try (show Awl _ _ _ _ _; simp only [stU])))
 | ((first | refine fun (K : V → List _ → _) hK => ?_ | refine fun (_ : V → V) => ?_); simp (disch := omega) only [go_sem, Int.reduceEq, ↓reduceIte, reduceCtorEq, Nat.reduceEqDiff, Nat.reduceLT, Nat.reduceLeDiff, Nat.reduceAdd, Nat.reduceSub, Nat.reduceMul, Int.reduceToNat, Int.reduceLE, Int.reduceLT, QU, Sp_overdubkeep_Cut_overdublaw20_Line, Sp_overdublaw20_lines, Sp_node_PackDir, Sp_overdubkeep_Same_byte, Sp_overdubkeep_Same_node_Line, Sp_overdublaw16_Row, Sp_overdublaw20_wakes, Sp_node_PackLeaf, Sp_overdubkeep_Same_api_Extent, n8, hq1, hq2, hU, hV, e1, e2, pU, pV, cU, cV, cX, tU, tV, tX, uU, uV, dUP, d1, d2, eD_inj, mB_inj]; (try (revert hK; intro hK; (repeat' first | (refine And.intro ?_ ?_) | (intro hc; first | cases hc | ((try rw [hc]); (try simp only [stH] at hc); (try (exfalso; omega))))); all_goals first | (refine hK _ _ ?_; clear hK K; simp only [stU]) | exact hK | omega)))
      (refine Ends.of (nm []) (by first | exact .inl rfl | exact .inr rfl) ?_; simp (disch := omega) only [go_sem, Int.reduceEq, ↓reduceIte, reduceCtorEq, Nat.reduceEqDiff, Nat.reduceLT, Nat.reduceLeDiff, Nat.reduceAdd, Nat.reduceSub, Nat.reduceMul, Int.reduceToNat, Int.reduceLE, Int.reduceLT, QU, Sp_overdubkeep_Cut_overdublaw20_Line, Sp_overdublaw20_lines, Sp_node_PackDir, Sp_overdubkeep_Same_byte, Sp_overdubkeep_Same_node_Line, Sp_overdublaw16_Row, Sp_overdublaw20_wakes, Sp_node_PackLeaf, Sp_overdubkeep_Same_api_Extent])
end Go.Proofs.Ytigkcigoiinkpaa.Am
