import Derived.Test.YtaiaackeljlbfaaZJR
set_option linter.unusedVariables false
set_option linter.unusedSimpArgs false
set_option maxRecDepth 10000
set_option maxHeartbeats 0
namespace Go.Proofs.Ytaiaackeljlbfaa.Am
open Go Go.RowKit Go.Proofs
noncomputable def J7 : Env := ⟨Try.prog, fun f ds out => (f = 11 ∧ Sp_cells_Split ds out), Es, fun f => decide (f = 11), fun f vs lent out => False, fun f => none, fun f => false, false⟩
theorem J7_sp : ∀ f ds out, J7.Sp f ds out → Ent J7.P f ∧ Good J7.P f (fun a b => a = ds ∧ b = out) := by
  rintro f ds out ⟨rfl, h⟩
  exact ⟨ent_cells_Split, good_cells_Split.one h⟩
theorem J7_sm : ∀ f vs lent out, J7.Sm f vs lent out → Ent J7.P f ∧ GoodM J7.P f (fun a l b => a = vs ∧ l = lent ∧ b = out) := fun _ _ _ _ h => h.elim
theorem J7_ok : J7.Ok := ⟨J7_sp, Es_ok, J7_sm⟩
theorem rep_B (n : Nat) : List.replicate n (D.v (.int .u8 0)) = (List.replicate n (0 : Int)).map mB := by simp [mB]
def Sp_overdublaw15_wakes (ds : List D) (out : Out) : Prop := ds = [] ∧ out = ⟨.d (.v (.bool true)), []⟩
theorem good_overdublaw15_wakes : Good Try.prog 12 Sp_overdublaw15_wakes := by
  refine good_body (E := J7) (nt := 23) (rs := #[.tmp 0]) Try.func12 rfl rfl rfl ?_
  rintro ds out ⟨rfl, rfl⟩
  refine ⟨by simp, ?_⟩
  have h113 : ((List.replicate 113 (0 : Int)).map mB).take 113 = (List.replicate 113 (0 : Int)).map mB := List.take_of_length_le (by simp)
  have hrb := rep_B 113
  have hp : prt (List.replicate 113 (0 : Int)) = 2 := by unfold prt; rw [List.length_replicate]; rfl
  have hs : spl 1 1 (List.replicate 113 (0 : Int)) 2 = [⟨1, 1, 0, 2, List.replicate 112 0⟩, ⟨1, 1, 1, 2, List.replicate 1 0⟩] := by
    unfold spl; rw [hp]; simp [List.range_succ, List.take_replicate, List.drop_replicate]
  have hout : splOut 1 1 (List.replicate 113 (0 : Int)) = ⟨.tup [.sl 0 5 0 2 true, .d (.v (.int .i64 0))], [(0, .row 29 5 [eC ⟨1, 1, 0, 2, List.replicate 112 0⟩, eC ⟨1, 1, 1, 2, List.replicate 1 0⟩])]⟩ := by
    unfold splOut; rw [hp, if_neg (by omega), hs]; rfl
  have hn1 : nth [eC ⟨1, 1, 0, 2, List.replicate 112 0⟩, eC ⟨1, 1, 1, 2, List.replicate 1 0⟩] 1 = eC ⟨1, 1, 1, 2, List.replicate 1 0⟩ := rfl
  have hl113 : (List.replicate 113 (0 : Int)).length = 113 := by simp
  generalize List.replicate 113 (0 : Int) = A at *
  generalize List.replicate 112 (0 : Int) = B at *
  have hB1 : (List.replicate 1 (0 : Int)).length = 1 := rfl
  generalize List.replicate 1 (0 : Int) = C at *
  repeat' ((first
 | refine AW.seq ?_
 | refine AW.block ?_
 | refine AW.regl J7_ok [0, 1, 2] ?_
 | refine then_n ?_
 | refine then_r ?_
 | refine then_x ?_
 | refine block_x ?_
 | refine block_o (by decide) ?_
 | refine block_n ?_
 | refine block_r ?_
 | refine AW.skip ?_
 | refine AW.ret ?_
 | refine AW.exit ?_
 | refine AW.cond rfl ?_ ?_
 | refine awl_none rfl ?_
 | refine awl_nil2 ?_
 | refine awl_some rfl rfl (Nat.le_of_ble_eq_true rfl) rfl rfl ?_ ?_
 | (refine fun (hc : _ = _) => ?_; first | cases hc | ((try rw [hc]); (try simp only [stH] at hc); (try (exfalso; omega))); (try (show Awl _ _ _ _ _; simp only [stU])))
 | ((first | refine fun (K : V → List _ → _) hK => ?_ | refine fun (_ : V → V) => ?_); simp (disch := omega) only [go_sem, Int.reduceEq, ↓reduceIte, reduceCtorEq, Nat.reduceEqDiff, Nat.reduceLT, Nat.reduceLeDiff, Nat.reduceAdd, Nat.reduceSub, Nat.reduceMul, Int.reduceToNat, Int.reduceLE, Int.reduceLT, J7, Sp_cells_Split, hrb, h113, hout, hn1, hl113, eC, hB1, mB_inj]; (try (revert hK; intro hK; (repeat' first | (refine And.intro ?_ ?_) | (intro hc; first | cases hc | ((try rw [hc]); (try simp only [stH] at hc); (try (exfalso; omega))))); all_goals first | (refine hK _ _ ?_; clear hK K; simp only [stU]) | exact hK | omega)))) <;> (fail_if_success (show False; skip)))
  all_goals (refine Ends.of (nm []) (by first | exact .inl rfl | exact .inr rfl) ?_; simp (disch := omega) only [go_sem, Int.reduceEq, ↓reduceIte, reduceCtorEq, Nat.reduceEqDiff, Nat.reduceLT, Nat.reduceLeDiff, Nat.reduceAdd, Nat.reduceSub, Nat.reduceMul, Int.reduceToNat, Int.reduceLE, Int.reduceLT, J7, Sp_cells_Split])
theorem ent_overdublaw15_wakes : Ent Try.prog 12 := ⟨_, Try.func12, rfl, by decide⟩
noncomputable def QJ : Env := ⟨Try.prog, fun f ds out => (f = 16 ∧ Sp_overdubkeep_Cut_byte ds out) ∨ (f = 17 ∧ Sp_overdublaw15_small ds out) ∨ (f = 10 ∧ Sp_overdubkeep_Within ds out) ∨ (f = 18 ∧ Sp_cells_Join ds out) ∨ (f = 19 ∧ Sp_overdubref14_Join ds out) ∨ (f = 20 ∧ Sp_overdubkeep_Same_byte ds out) ∨ (f = 12 ∧ Sp_overdublaw15_wakes ds out), Es, fun _ => false, fun f vs lent out => False, fun f => none, fun f => false, false⟩
theorem QJ_sp : ∀ f ds out, QJ.Sp f ds out → Ent QJ.P f ∧ Good QJ.P f (fun a b => a = ds ∧ b = out) := by
  rintro f ds out (⟨rfl, h⟩ | ⟨rfl, h⟩ | ⟨rfl, h⟩ | ⟨rfl, h⟩ | ⟨rfl, h⟩ | ⟨rfl, h⟩ | ⟨rfl, h⟩)
  · exact ⟨ent_overdubkeep_Cut_byte, good_overdubkeep_Cut_byte.one h⟩
  · exact ⟨ent_overdublaw15_small, good_overdublaw15_small.one h⟩
  · exact ⟨ent_overdubkeep_Within, good_overdubkeep_Within.one h⟩
  · exact ⟨ent_cells_Join, good_cells_Join.one h⟩
  · exact ⟨ent_overdubref14_Join, good_overdubref14_Join.one h⟩
  · exact ⟨ent_overdubkeep_Same_byte, good_overdubkeep_Same_byte.one h⟩
  · exact ⟨ent_overdublaw15_wakes, good_overdublaw15_wakes.one h⟩
theorem QJ_sm : ∀ f vs lent out, QJ.Sm f vs lent out → Ent QJ.P f ∧ GoodM QJ.P f (fun a l b => a = vs ∧ l = lent ∧ b = out) := fun _ _ _ _ h => h.elim
theorem QJ_ok : QJ.Ok := ⟨QJ_sp, Es_ok, QJ_sm⟩
theorem nth_E0 (x : List Ce) (h : 0 < x.length) : nth (x.map eC) 0 = eC (x.getD 0 default) := nth_C x 0 h
def stQ (life num : Int) (l : List Ce) (r : Bool) (x : List Ce) : St := ⟨[(0, .d (.v (.int .i64 life))), (1, .d (.v (.int .i64 num))), (2, .d (.list (l.map eC))), (3, .d (.v (.bool r))), (9, .sl 100 5 0 x.length true), (10, .d (.v (.int .i64 x.length)))], [(100, .row 29 5 (x.map eC))], 113⟩
theorem snoc_C (x : List Ce) (a b c d : Int) (e : List Int) : x.map eC ++ [D.agg [.v (.int .i64 a), .v (.int .i64 b), .v (.int .i64 c), .v (.int .i64 d), .list (e.map mB)]] = (x ++ [Ce.mk a b c d e]).map eC := by simp [eC]
theorem eC_eq (a b e f : Int) (g : List Int) (c : Ce) : (D.agg [.v (.int .i64 a), .v (.int .i64 b), .v (.int .i64 e), .v (.int .i64 f), .list (g.map mB)] = eC c) = (⟨a, b, e, f, g⟩ = c) := by
  cases c
  simp [eC, mB_inj]
def qOk (r : Bool) (x : List Ce) : Prop := (∀ c ∈ x, c.dt.length ≤ 112) ∧ (r = true → ∀ c ∈ x, 1 ≤ c.ps ∧ c.ps ≤ 5)
def Sp_overdublaw15_CellJoins (ds : List D) (out : Out) : Prop := ∃ (life num : Int) (l : List Ce) (r : Bool), ds = [.v (.int .i64 life), .v (.int .i64 num), .list (l.map eC), .v (.bool r)] ∧ l.length ≤ 9223372036854775807 ∧ (∀ c ∈ l, c.dt.length ≤ 9223372036854775807) ∧ out = ⟨.d (.v (.bool true)), []⟩
def bb_overdublaw15_CellJoins_10 : List Nat := [0, 1, 3, 7, 0, 16, 48, 112, 0, 256, 768, 1792, 15, 4111, 12543, 28927, 65535, 131071]
def bb_overdublaw15_CellJoins_11 : List Nat := [0, 0, 3, 7, 15, 0, 63, 0, 128, 511, 1023, 2047]
def bb_overdublaw15_CellJoins_14 : List Nat := [0, 1, 3, 7, 0, 16, 48, 112, 15, 511]
def cc_overdublaw15_CellJoins_10 : List (List (Option Bool)) := [[some false, some false, some false, some false, none, none, none, none, none, none, none, none, some false, some false, some false, some false, some false, some false], [some true, some false, some false, some false, none, none, none, none, none, none, none, none, some false, some false, some false, some false, some false, some false], [some true, some true, some false, some false, none, none, none, none, none, none, none, none, some false, some false, some false, some false, some false, some false], [some true, some true, some true, some false, none, none, none, none, none, none, none, none, some false, some false, some false, some false, some false, some false], [none, none, none, none, some false, some false, some false, some false, none, none, none, none, none, none, some false, some false, some false, some false], [none, none, none, none, some true, some false, some false, some false, none, none, none, none, none, none, some false, some false, some false, some false], [none, none, none, none, some true, some true, some false, some false, none, none, none, none, none, none, some false, some false, some false, some false], [none, none, none, none, some true, some true, some true, some false, none, none, none, none, none, none, some false, some false, some false, some false], [none, none, none, none, none, none, none, none, some false, some false, some false, some false, none, none, none, none, some false, some false], [none, none, none, none, none, none, none, none, some true, some false, some false, some false, none, none, none, none, some false, some false], [none, none, none, none, none, none, none, none, some true, some true, some false, some false, none, none, none, none, some false, some false], [none, none, none, none, none, none, none, none, some true, some true, some true, some false, none, none, none, none, some false, some false], [some true, some true, some true, some true, none, none, none, none, none, none, none, none, some false, some false, some false, some false, some false, some false], [some true, some true, some true, some true, none, none, none, none, none, none, none, none, some true, some false, some false, some false, some false, some false], [some true, some true, some true, some true, some true, some true, some true, some true, none, none, none, none, some true, some true, some false, some false, some false, some false], [some true, some true, some true, some true, some true, some true, some true, some true, none, none, none, none, some true, some true, some true, some false, some false, some false], [some true, some true, some true, some true, some true, some true, some true, some true, some true, some true, some true, some true, some true, some true, some true, some true, some false, some false], [some true, some true, some true, some true, some true, some true, some true, some true, some true, some true, some true, some true, some true, some true, some true, some true, some true, some false]]
def cc_overdublaw15_CellJoins_11 : List (List (Option Bool)) := [[some false, none, some false, some false, some false, none, some false, none, none, some false, some false, some false], [none, some false, some false, some false, some false, none, some false, none, none, some false, some false, some false], [some true, some true, some false, some false, some false, none, some false, none, none, some false, some false, some false], [some true, some true, some true, some false, some false, none, some false, none, none, some false, some false, some false], [some true, some true, some true, some true, some false, none, some false, none, none, some false, some false, some false], [none, none, none, none, none, some false, some false, none, none, some false, some false, some false], [some true, some true, some true, some true, some true, some true, some false, none, none, some false, some false, some false], [none, none, none, none, none, none, none, some false, some false, some false, some false, some false], [none, none, none, none, none, none, none, some true, some false, some false, some false, some false], [some true, some true, some true, some true, some true, some true, some true, some true, some true, some false, some false, some false], [some true, some true, some true, some true, some true, some true, some true, some true, some true, some true, some false, some false], [some true, some true, some true, some true, some true, some true, some true, some true, some true, some true, some true, some false]]
def cc_overdublaw15_CellJoins_14 : List (List (Option Bool)) := [[some false, some false, some false, some false, none, none, none, none, some false, some false], [some true, some false, some false, some false, none, none, none, none, some false, some false], [some true, some true, some false, some false, none, none, none, none, some false, some false], [some true, some true, some true, some false, none, none, none, none, some false, some false], [none, none, none, none, some false, some false, some false, some false, none, some false], [none, none, none, none, some true, some false, some false, some false, none, some false], [none, none, none, none, some true, some true, some false, some false, none, some false], [none, none, none, none, some true, some true, some true, some false, none, some false], [some true, some true, some true, some true, none, none, none, none, some false, some false], [some true, some true, some true, some true, some true, some true, some true, some true, some true, some false]]
theorem good_overdublaw15_CellJoins : Good Try.prog 5 Sp_overdublaw15_CellJoins := by
  refine good_body (E := QJ) (nt := 113) (rs := #[.tmp 8]) Try.func5 rfl rfl rfl ?_
  rintro ds out ⟨life, num, l, r, rfl, hl, hB, rfl⟩
  refine ⟨by simp, ?_⟩
  repeat' ((first
 | refine AW.seq ?_
 | refine AW.block ?_
 | refine AW.regl QJ_ok [0, 1, 2, 3, 8, 9, 10, 11, 12, 13, 14, 15, 23, 34, 43, 79] ?_
 | (refine AW.regc (id := 10) QJ_ok follows bb_overdublaw15_CellJoins_10 (by kernel_rfl) [0, 1, 2, 3, 8, 9, 10, 11, 12, 13, 14, 15, 23, 34, 43, 79] ?_)
 | (refine AW.regc (id := 11) QJ_ok follows bb_overdublaw15_CellJoins_11 (by kernel_rfl) [0, 1, 2, 3, 8, 9, 10, 11, 12, 13, 14, 15, 23, 34, 43, 79] ?_)
 | (refine AW.regc (id := 14) QJ_ok follows bb_overdublaw15_CellJoins_14 (by kernel_rfl) [0, 1, 2, 3, 8, 9, 10, 11, 12, 13, 14, 15, 23, 34, 43, 79] ?_)
 | refine then_n ?_
 | refine then_r ?_
 | refine then_x ?_
 | refine block_x ?_
 | refine block_o (by decide) ?_
 | refine block_n ?_
 | refine block_r ?_
 | refine AW.skip ?_
 | refine AW.ret ?_
 | refine AW.exit ?_
 | refine AW.cond rfl ?_ ?_
 | refine awl_none rfl ?_
 | refine awl_nil2 ?_
 | refine awl_some rfl rfl (Nat.le_of_ble_eq_true rfl) rfl rfl ?_ ?_
 | refine awc_none rfl ?_
 | exact each_nil
 | refine each_none rfl ?_ ?_
 | refine awc_leaf2 [some 44, some 45, some 46, some 47, some 48, some 49, some 50, some 51, some 52, some 53, some 54, some 55, some 56, none, some 57, none, some 58, none] cc_overdublaw15_CellJoins_10 rfl (by kernel_rfl) (by kernel_rfl) ?_ ?_
 | refine awc_leaf2 [some 59, some 60, some 61, some 62, some 63, some 64, some 65, some 66, some 67, some 68, some 69, none] cc_overdublaw15_CellJoins_11 rfl (by kernel_rfl) (by kernel_rfl) ?_ ?_
 | refine awc_leaf2 [some 80, some 81, some 82, some 83, some 84, some 85, some 86, some 87, some 0, some 1] cc_overdublaw15_CellJoins_14 rfl (by kernel_rfl) (by kernel_rfl) ?_ ?_
 | (refine fun (hc : _ = _) => ?_; first | cases hc | ((try rw [hc]); (try simp only [stH] at hc); (try (exfalso; omega))); (try ((first | show Awl _ _ _ _ _ | show Awc _ _ _ _ _ _); simp only [stU])))
 | ((first | refine fun (K : V → List _ → _) hK => ?_ | refine fun (_ : V → V) => ?_ | refine fun (bb : Nat → Bool) K hK => ?_); simp (disch := omega) only [go_sem, Int.reduceEq, ↓reduceIte, reduceCtorEq, Nat.reduceEqDiff, Nat.reduceLT, Nat.reduceLeDiff, Nat.reduceAdd, Nat.reduceSub, Nat.reduceMul, Int.reduceToNat, Int.reduceLE, Int.reduceLT, QJ, Sp_overdubkeep_Cut_byte, Sp_overdublaw15_small, Sp_overdubkeep_Within, Sp_cells_Join, Sp_overdubref14_Join, Sp_overdubkeep_Same_byte, Sp_overdublaw15_wakes, Sg3, St.updIf, ifc_nil, gt_ifc, go_ifc, ite_self, Option.none_or, Option.some_or]; (try (revert hK; intro hK; (repeat' first | (refine And.intro ?_ ?_) | (intro hc; first | cases hc | ((try rw [hc]); (try simp only [stH] at hc); (try (exfalso; omega))))); all_goals first | (refine hK _ _ ?_; clear hK K; simp only [stU]) | exact hK | omega)))) <;> (fail_if_success (show False; skip)))
  refine AW.loop_wk (fun x : List Ce => stQ life num l r x) (fun x => x.length ≤ min l.length 12 ∧ qOk r x) (fun x => 12 - x.length) [] ⟨Nat.zero_le _, by simp [qOk]⟩ ?_ ?_
  · intro w0 oa a w hs
    refine Wk.sr (ρ := nm []) (Wk.of ?_) (nil_sr 9 100 29 5 rfl (by simp) rfl (by decide) hs)
    simp (disch := omega) only [go_sem, Int.reduceEq, ↓reduceIte, reduceCtorEq, Nat.reduceEqDiff, Nat.reduceLT, Nat.reduceLeDiff, Nat.reduceAdd, Nat.reduceSub, Nat.reduceMul, Int.reduceToNat, Int.reduceLE, Int.reduceLT, QJ, Sp_overdubkeep_Cut_byte, Sp_overdublaw15_small, Sp_overdubkeep_Within, Sp_cells_Join, Sp_overdubref14_Join, Sp_overdubkeep_Same_byte, Sp_overdublaw15_wakes, stQ]
  rintro x ⟨hx, hxb, hxp⟩
  obtain ⟨i, hi⟩ : ∃ i, x.length = i := ⟨_, rfl⟩
  rw [hi] at hx
  by_cases hi12 : i < min l.length 12
  · have h1 : i < l.length := by omega
    have e1 := nth_C l i h1
    have hcm := hB (l.getD i default) (by rw [List.getD_eq_getElem?_getD, List.getElem?_eq_getElem h1]; exact List.getElem_mem h1)
    obtain ⟨⟨ca, cb, cc, cd, ce⟩, hc⟩ : ∃ c, l.getD i default = c := ⟨_, rfl⟩
    rw [hc] at e1 hcm
    simp only at hcm
    simp only [eC] at e1
    have hxl : ∀ c : Ce, (x ++ [c]).length = i + 1 := fun c => by rw [List.length_append, hi]; rfl
    have hsnoc := snoc_C x
    have hnew : ∀ c : Ce, c.dt.length ≤ 112 → ∀ y ∈ x ++ [c], y.dt.length ≤ 112 := fun c hc y hy => by
      rcases List.mem_append.1 hy with hy | hy
      · exact hxb y hy
      · rw [List.mem_singleton.1 hy]; exact hc
    have ht40 : (ce.take 40).length ≤ 40 := by rw [List.length_take]; omega
    cases r with
    | false =>
      repeat' ((first
 | refine AW.seq ?_
 | refine AW.block ?_
 | refine AW.regl QJ_ok [0, 1, 2, 3, 8, 9, 10, 11, 12, 13, 14, 15, 23, 34, 43, 79] ?_
 | (refine AW.regc (id := 10) QJ_ok follows bb_overdublaw15_CellJoins_10 (by kernel_rfl) [0, 1, 2, 3, 8, 9, 10, 11, 12, 13, 14, 15, 23, 34, 43, 79] ?_)
 | (refine AW.regc (id := 11) QJ_ok follows bb_overdublaw15_CellJoins_11 (by kernel_rfl) [0, 1, 2, 3, 8, 9, 10, 11, 12, 13, 14, 15, 23, 34, 43, 79] ?_)
 | (refine AW.regc (id := 14) QJ_ok follows bb_overdublaw15_CellJoins_14 (by kernel_rfl) [0, 1, 2, 3, 8, 9, 10, 11, 12, 13, 14, 15, 23, 34, 43, 79] ?_)
 | refine then_n ?_
 | refine then_r ?_
 | refine then_x ?_
 | refine block_x ?_
 | refine block_o (by decide) ?_
 | refine block_n ?_
 | refine block_r ?_
 | refine AW.skip ?_
 | refine AW.ret ?_
 | refine AW.exit ?_
 | refine AW.cond rfl ?_ ?_
 | refine awl_none rfl ?_
 | refine awl_nil2 ?_
 | refine awl_some rfl rfl (Nat.le_of_ble_eq_true rfl) rfl rfl ?_ ?_
 | refine awc_none rfl ?_
 | exact each_nil
 | refine each_none rfl ?_ ?_
 | refine awc_leaf2 [some 44, some 45, some 46, some 47, some 48, some 49, some 50, some 51, some 52, some 53, some 54, some 55, some 56, none, some 57, none, some 58, none] cc_overdublaw15_CellJoins_10 rfl (by kernel_rfl) (by kernel_rfl) ?_ ?_
 | refine awc_leaf2 [some 59, some 60, some 61, some 62, some 63, some 64, some 65, some 66, some 67, some 68, some 69, none] cc_overdublaw15_CellJoins_11 rfl (by kernel_rfl) (by kernel_rfl) ?_ ?_
 | refine awc_leaf2 [some 80, some 81, some 82, some 83, some 84, some 85, some 86, some 87, some 0, some 1] cc_overdublaw15_CellJoins_14 rfl (by kernel_rfl) (by kernel_rfl) ?_ ?_
 | (refine fun (hc : _ = _) => ?_; first | cases hc | ((try rw [hc]); (try simp only [stH] at hc); (try (exfalso; omega))); (try ((first | show Awl _ _ _ _ _ | show Awc _ _ _ _ _ _); simp only [stU])))
 | ((first | refine fun (K : V → List _ → _) hK => ?_ | refine fun (_ : V → V) => ?_ | refine fun (bb : Nat → Bool) K hK => ?_); simp (disch := omega) only [go_sem, Int.reduceEq, ↓reduceIte, reduceCtorEq, Nat.reduceEqDiff, Nat.reduceLT, Nat.reduceLeDiff, Nat.reduceAdd, Nat.reduceSub, Nat.reduceMul, Int.reduceToNat, Int.reduceLE, Int.reduceLT, QJ, Sp_overdubkeep_Cut_byte, Sp_overdublaw15_small, Sp_overdubkeep_Within, Sp_cells_Join, Sp_overdubref14_Join, Sp_overdubkeep_Same_byte, Sp_overdublaw15_wakes, stQ, e1, hi, hsnoc, mB_inj, all_C, Sg3, St.updIf, ifc_nil, gt_ifc, go_ifc, ite_self, Option.none_or, Option.some_or]; (try (revert hK; intro hK; (repeat' first | (refine And.intro ?_ ?_) | (intro hc; first | cases hc | ((try rw [hc]); (try simp only [stH] at hc); (try (exfalso; omega))))); all_goals first | (refine hK _ _ ?_; clear hK K; simp only [stU]) | exact hK | omega)))) <;> (fail_if_success (show False; skip)))
      refine ⟨x ++ [⟨ca, cb, cc, cd, ce.take 40⟩], by rw [hxl]; omega, ⟨hnew _ (by dsimp only; omega), fun h => (by cases h)⟩, by rw [hxl]; omega, nm [(100, 73)], Wk.of ?_⟩
      simp (disch := omega) only [go_sem, Int.reduceEq, ↓reduceIte, reduceCtorEq, Nat.reduceEqDiff, Nat.reduceLT, Nat.reduceLeDiff, Nat.reduceAdd, Nat.reduceSub, Nat.reduceMul, Int.reduceToNat, Int.reduceLE, Int.reduceLT, QJ, Sp_overdubkeep_Cut_byte, Sp_overdublaw15_small, Sp_overdubkeep_Within, Sp_cells_Join, Sp_overdubref14_Join, Sp_overdubkeep_Same_byte, Sp_overdublaw15_wakes, stQ, hxl]
      rfl
    | true =>
      have hxp := hxp rfl
      have hps : ∀ c : Ce, 1 ≤ c.ps ∧ c.ps ≤ 5 → ∀ y ∈ x ++ [c], 1 ≤ y.ps ∧ y.ps ≤ 5 := fun c hc y hy => by
        rcases List.mem_append.1 hy with hy | hy
        · exact hxp y hy
        · rw [List.mem_singleton.1 hy]; exact hc
      have hs1 : 1 ≤ (smallE ⟨ca, cb, cc, cd, ce.take 40⟩).ps ∧ (smallE ⟨ca, cb, cc, cd, ce.take 40⟩).ps ≤ 5 := by
        have := within_rngc (v := cd) (n := 5) (by omega)
        simp only [smallE]; omega
      have hs2 : (smallE ⟨ca, cb, cc, cd, ce.take 40⟩).dt.length ≤ 112 := by simp only [smallE]; rw [List.length_take]; omega
      have hsv : vC (smallE ⟨ca, cb, cc, cd, ce.take 40⟩) = .agg [.d (.v (.int .i64 (smallE ⟨ca, cb, cc, cd, ce.take 40⟩).lf)), .d (.v (.int .i64 (smallE ⟨ca, cb, cc, cd, ce.take 40⟩).nu)), .d (.v (.int .i64 (smallE ⟨ca, cb, cc, cd, ce.take 40⟩).pt)), .d (.v (.int .i64 (smallE ⟨ca, cb, cc, cd, ce.take 40⟩).ps)), .d (.list ((smallE ⟨ca, cb, cc, cd, ce.take 40⟩).dt.map mB))] := rfl
      obtain ⟨⟨sa, sb, sc, sd, se⟩, hs⟩ : ∃ s, smallE ⟨ca, cb, cc, cd, ce.take 40⟩ = s := ⟨_, rfl⟩
      rw [hs] at hs1 hs2 hsv
      simp only at hs1 hs2 hsv
      have hm4 : (i : Int).tmod 4 = ((i % 4 : Nat) : Int) := by rw [Int.tmod_eq_emod_of_nonneg (by omega)]; omega
      by_cases hi0 : 0 < i ∧ ¬ i % 4 = 0
      · obtain ⟨hi0, hi4⟩ := hi0
        generalize i % 4 = q at *
        have e0 := nth_C x 0 (by omega)
        have hx0 : 1 ≤ (x.getD 0 default).ps ∧ (x.getD 0 default).ps ≤ 5 := hxp _ (by rw [List.getD_eq_getElem?_getD, List.getElem?_eq_getElem (by omega)]; exact List.getElem_mem _)
        obtain ⟨⟨xa, xb, xc, xd, xe⟩, hx0e⟩ : ∃ c, x.getD 0 default = c := ⟨_, rfl⟩
        rw [hx0e] at e0 hx0
        simp only [eC] at e0
        simp only at hx0
        repeat' ((first
 | refine AW.seq ?_
 | refine AW.block ?_
 | refine AW.regl QJ_ok [0, 1, 2, 3, 8, 9, 10, 11, 12, 13, 14, 15, 23, 34, 43, 79] ?_
 | (refine AW.regc (id := 10) QJ_ok follows bb_overdublaw15_CellJoins_10 (by kernel_rfl) [0, 1, 2, 3, 8, 9, 10, 11, 12, 13, 14, 15, 23, 34, 43, 79] ?_)
 | (refine AW.regc (id := 11) QJ_ok follows bb_overdublaw15_CellJoins_11 (by kernel_rfl) [0, 1, 2, 3, 8, 9, 10, 11, 12, 13, 14, 15, 23, 34, 43, 79] ?_)
 | (refine AW.regc (id := 14) QJ_ok follows bb_overdublaw15_CellJoins_14 (by kernel_rfl) [0, 1, 2, 3, 8, 9, 10, 11, 12, 13, 14, 15, 23, 34, 43, 79] ?_)
 | refine then_n ?_
 | refine then_r ?_
 | refine then_x ?_
 | refine block_x ?_
 | refine block_o (by decide) ?_
 | refine block_n ?_
 | refine block_r ?_
 | refine AW.skip ?_
 | refine AW.ret ?_
 | refine AW.exit ?_
 | refine AW.cond rfl ?_ ?_
 | refine awl_none rfl ?_
 | refine awl_nil2 ?_
 | refine awl_some rfl rfl (Nat.le_of_ble_eq_true rfl) rfl rfl ?_ ?_
 | refine awc_none rfl ?_
 | exact each_nil
 | refine each_none rfl ?_ ?_
 | refine awc_leaf2 [some 44, some 45, some 46, some 47, some 48, some 49, some 50, some 51, some 52, some 53, some 54, some 55, some 56, none, some 57, none, some 58, none] cc_overdublaw15_CellJoins_10 rfl (by kernel_rfl) (by kernel_rfl) ?_ ?_
 | refine awc_leaf2 [some 59, some 60, some 61, some 62, some 63, some 64, some 65, some 66, some 67, some 68, some 69, none] cc_overdublaw15_CellJoins_11 rfl (by kernel_rfl) (by kernel_rfl) ?_ ?_
 | refine awc_leaf2 [some 80, some 81, some 82, some 83, some 84, some 85, some 86, some 87, some 0, some 1] cc_overdublaw15_CellJoins_14 rfl (by kernel_rfl) (by kernel_rfl) ?_ ?_
 | (refine fun (hc : _ = _) => ?_; first | cases hc | ((try rw [hc]); (try simp only [stH] at hc); (try (exfalso; omega))); (try ((first | show Awl _ _ _ _ _ | show Awc _ _ _ _ _ _); simp only [stU])))
 | ((first | refine fun (K : V → List _ → _) hK => ?_ | refine fun (_ : V → V) => ?_ | refine fun (bb : Nat → Bool) K hK => ?_); simp (disch := omega) only [go_sem, Int.reduceEq, ↓reduceIte, reduceCtorEq, Nat.reduceEqDiff, Nat.reduceLT, Nat.reduceLeDiff, Nat.reduceAdd, Nat.reduceSub, Nat.reduceMul, Int.reduceToNat, Int.reduceLE, Int.reduceLT, QJ, Sp_overdubkeep_Cut_byte, Sp_overdublaw15_small, Sp_overdubkeep_Within, Sp_cells_Join, Sp_overdubref14_Join, Sp_overdubkeep_Same_byte, Sp_overdublaw15_wakes, stQ, e1, e0, hi, hi0, hm4, hs, hsv, eC_eq, hsnoc, mB_inj, all_C, Sg3, St.updIf, ifc_nil, gt_ifc, go_ifc, ite_self, Option.none_or, Option.some_or]; (try (revert hK; intro hK; (repeat' first | (refine And.intro ?_ ?_) | (intro hc; first | cases hc | ((try rw [hc]); (try simp only [stH] at hc); (try (exfalso; omega))))); all_goals first | (refine hK _ _ ?_; clear hK K; simp only [stU]) | exact hK | omega)))) <;> (fail_if_success (show False; skip)))
        refine ⟨x ++ [⟨xa, xb, within (IntKind.i64.wrap (cc + i)) xd, xd, se⟩], by rw [hxl]; omega, ⟨hnew _ hs2, fun _ => hps _ hx0⟩, by rw [hxl]; omega, nm [(100, 73)], Wk.of ?_⟩
        simp (disch := omega) only [go_sem, Int.reduceEq, ↓reduceIte, reduceCtorEq, Nat.reduceEqDiff, Nat.reduceLT, Nat.reduceLeDiff, Nat.reduceAdd, Nat.reduceSub, Nat.reduceMul, Int.reduceToNat, Int.reduceLE, Int.reduceLT, QJ, Sp_overdubkeep_Cut_byte, Sp_overdublaw15_small, Sp_overdubkeep_Within, Sp_cells_Join, Sp_overdubref14_Join, Sp_overdubkeep_Same_byte, Sp_overdublaw15_wakes, stQ, hxl]
        rfl
      · have hi0' : ¬ 0 < i ∨ i % 4 = 0 := by omega
        clear hi0
        by_cases hiz : i = 0
        · subst hiz
          repeat' ((first
 | refine AW.seq ?_
 | refine AW.block ?_
 | refine AW.regl QJ_ok [0, 1, 2, 3, 8, 9, 10, 11, 12, 13, 14, 15, 23, 34, 43, 79] ?_
 | (refine AW.regc (id := 10) QJ_ok follows bb_overdublaw15_CellJoins_10 (by kernel_rfl) [0, 1, 2, 3, 8, 9, 10, 11, 12, 13, 14, 15, 23, 34, 43, 79] ?_)
 | (refine AW.regc (id := 11) QJ_ok follows bb_overdublaw15_CellJoins_11 (by kernel_rfl) [0, 1, 2, 3, 8, 9, 10, 11, 12, 13, 14, 15, 23, 34, 43, 79] ?_)
 | (refine AW.regc (id := 14) QJ_ok follows bb_overdublaw15_CellJoins_14 (by kernel_rfl) [0, 1, 2, 3, 8, 9, 10, 11, 12, 13, 14, 15, 23, 34, 43, 79] ?_)
 | refine then_n ?_
 | refine then_r ?_
 | refine then_x ?_
 | refine block_x ?_
 | refine block_o (by decide) ?_
 | refine block_n ?_
 | refine block_r ?_
 | refine AW.skip ?_
 | refine AW.ret ?_
 | refine AW.exit ?_
 | refine AW.cond rfl ?_ ?_
 | refine awl_none rfl ?_
 | refine awl_nil2 ?_
 | refine awl_some rfl rfl (Nat.le_of_ble_eq_true rfl) rfl rfl ?_ ?_
 | refine awc_none rfl ?_
 | exact each_nil
 | refine each_none rfl ?_ ?_
 | refine awc_leaf2 [some 44, some 45, some 46, some 47, some 48, some 49, some 50, some 51, some 52, some 53, some 54, some 55, some 56, none, some 57, none, some 58, none] cc_overdublaw15_CellJoins_10 rfl (by kernel_rfl) (by kernel_rfl) ?_ ?_
 | refine awc_leaf2 [some 59, some 60, some 61, some 62, some 63, some 64, some 65, some 66, some 67, some 68, some 69, none] cc_overdublaw15_CellJoins_11 rfl (by kernel_rfl) (by kernel_rfl) ?_ ?_
 | refine awc_leaf2 [some 80, some 81, some 82, some 83, some 84, some 85, some 86, some 87, some 0, some 1] cc_overdublaw15_CellJoins_14 rfl (by kernel_rfl) (by kernel_rfl) ?_ ?_
 | (refine fun (hc : _ = _) => ?_; first | cases hc | ((try rw [hc]); (try simp only [stH] at hc); (try (exfalso; omega))); (try ((first | show Awl _ _ _ _ _ | show Awc _ _ _ _ _ _); simp only [stU])))
 | ((first | refine fun (K : V → List _ → _) hK => ?_ | refine fun (_ : V → V) => ?_ | refine fun (bb : Nat → Bool) K hK => ?_); simp (disch := omega) only [go_sem, Int.reduceEq, ↓reduceIte, reduceCtorEq, Nat.reduceEqDiff, Nat.reduceLT, Nat.reduceLeDiff, Nat.reduceAdd, Nat.reduceSub, Nat.reduceMul, Int.reduceToNat, Int.reduceLE, Int.reduceLT, QJ, Sp_overdubkeep_Cut_byte, Sp_overdublaw15_small, Sp_overdubkeep_Within, Sp_cells_Join, Sp_overdubref14_Join, Sp_overdubkeep_Same_byte, Sp_overdublaw15_wakes, stQ, e1, hi, hs, hsv, eC_eq, hsnoc, mB_inj, all_C, Sg3, St.updIf, ifc_nil, gt_ifc, go_ifc, ite_self, Option.none_or, Option.some_or]; (try (revert hK; intro hK; (repeat' first | (refine And.intro ?_ ?_) | (intro hc; first | cases hc | ((try rw [hc]); (try simp only [stH] at hc); (try (exfalso; omega))))); all_goals first | (refine hK _ _ ?_; clear hK K; simp only [stU]) | exact hK | omega)))) <;> (fail_if_success (show False; skip)))
          refine ⟨x ++ [⟨sa, sb, sc, sd, se⟩], by rw [hxl]; omega, ⟨hnew _ hs2, fun _ => hps _ hs1⟩, by rw [hxl]; omega, nm [(100, 73)], Wk.of ?_⟩
          simp (disch := omega) only [go_sem, Int.reduceEq, ↓reduceIte, reduceCtorEq, Nat.reduceEqDiff, Nat.reduceLT, Nat.reduceLeDiff, Nat.reduceAdd, Nat.reduceSub, Nat.reduceMul, Int.reduceToNat, Int.reduceLE, Int.reduceLT, QJ, Sp_overdubkeep_Cut_byte, Sp_overdublaw15_small, Sp_overdubkeep_Within, Sp_cells_Join, Sp_overdubref14_Join, Sp_overdubkeep_Same_byte, Sp_overdublaw15_wakes, stQ, hxl]
          try rfl
        · have hi4 : i % 4 = 0 := by omega
          have hi0 : 0 < i := by omega
          generalize i % 4 = q at *
          subst hi4
          repeat' ((first
 | refine AW.seq ?_
 | refine AW.block ?_
 | refine AW.regl QJ_ok [0, 1, 2, 3, 8, 9, 10, 11, 12, 13, 14, 15, 23, 34, 43, 79] ?_
 | (refine AW.regc (id := 10) QJ_ok follows bb_overdublaw15_CellJoins_10 (by kernel_rfl) [0, 1, 2, 3, 8, 9, 10, 11, 12, 13, 14, 15, 23, 34, 43, 79] ?_)
 | (refine AW.regc (id := 11) QJ_ok follows bb_overdublaw15_CellJoins_11 (by kernel_rfl) [0, 1, 2, 3, 8, 9, 10, 11, 12, 13, 14, 15, 23, 34, 43, 79] ?_)
 | (refine AW.regc (id := 14) QJ_ok follows bb_overdublaw15_CellJoins_14 (by kernel_rfl) [0, 1, 2, 3, 8, 9, 10, 11, 12, 13, 14, 15, 23, 34, 43, 79] ?_)
 | refine then_n ?_
 | refine then_r ?_
 | refine then_x ?_
 | refine block_x ?_
 | refine block_o (by decide) ?_
 | refine block_n ?_
 | refine block_r ?_
 | refine AW.skip ?_
 | refine AW.ret ?_
 | refine AW.exit ?_
 | refine AW.cond rfl ?_ ?_
 | refine awl_none rfl ?_
 | refine awl_nil2 ?_
 | refine awl_some rfl rfl (Nat.le_of_ble_eq_true rfl) rfl rfl ?_ ?_
 | refine awc_none rfl ?_
 | exact each_nil
 | refine each_none rfl ?_ ?_
 | refine awc_leaf2 [some 44, some 45, some 46, some 47, some 48, some 49, some 50, some 51, some 52, some 53, some 54, some 55, some 56, none, some 57, none, some 58, none] cc_overdublaw15_CellJoins_10 rfl (by kernel_rfl) (by kernel_rfl) ?_ ?_
 | refine awc_leaf2 [some 59, some 60, some 61, some 62, some 63, some 64, some 65, some 66, some 67, some 68, some 69, none] cc_overdublaw15_CellJoins_11 rfl (by kernel_rfl) (by kernel_rfl) ?_ ?_
 | refine awc_leaf2 [some 80, some 81, some 82, some 83, some 84, some 85, some 86, some 87, some 0, some 1] cc_overdublaw15_CellJoins_14 rfl (by kernel_rfl) (by kernel_rfl) ?_ ?_
 | (refine fun (hc : _ = _) => ?_; first | cases hc | ((try rw [hc]); (try simp only [stH] at hc); (try (exfalso; omega))); (try ((first | show Awl _ _ _ _ _ | show Awc _ _ _ _ _ _); simp only [stU])))
 | ((first | refine fun (K : V → List _ → _) hK => ?_ | refine fun (_ : V → V) => ?_ | refine fun (bb : Nat → Bool) K hK => ?_); simp (disch := omega) only [go_sem, Int.reduceEq, ↓reduceIte, reduceCtorEq, Nat.reduceEqDiff, Nat.reduceLT, Nat.reduceLeDiff, Nat.reduceAdd, Nat.reduceSub, Nat.reduceMul, Int.reduceToNat, Int.reduceLE, Int.reduceLT, QJ, Sp_overdubkeep_Cut_byte, Sp_overdublaw15_small, Sp_overdubkeep_Within, Sp_cells_Join, Sp_overdubref14_Join, Sp_overdubkeep_Same_byte, Sp_overdublaw15_wakes, stQ, e1, hi, hi0, hm4, hs, hsv, eC_eq, hsnoc, mB_inj, all_C, Sg3, St.updIf, ifc_nil, gt_ifc, go_ifc, ite_self, Option.none_or, Option.some_or]; (try (revert hK; intro hK; (repeat' first | (refine And.intro ?_ ?_) | (intro hc; first | cases hc | ((try rw [hc]); (try simp only [stH] at hc); (try (exfalso; omega))))); all_goals first | (refine hK _ _ ?_; clear hK K; simp only [stU]) | exact hK | omega)))) <;> (fail_if_success (show False; skip)))
          refine ⟨x ++ [⟨sa, sb, sc, sd, se⟩], by rw [hxl]; omega, ⟨hnew _ hs2, fun _ => hps _ hs1⟩, by rw [hxl]; omega, nm [(100, 73)], Wk.of ?_⟩
          simp (disch := omega) only [go_sem, Int.reduceEq, ↓reduceIte, reduceCtorEq, Nat.reduceEqDiff, Nat.reduceLT, Nat.reduceLeDiff, Nat.reduceAdd, Nat.reduceSub, Nat.reduceMul, Int.reduceToNat, Int.reduceLE, Int.reduceLT, QJ, Sp_overdubkeep_Cut_byte, Sp_overdublaw15_small, Sp_overdubkeep_Within, Sp_cells_Join, Sp_overdubref14_Join, Sp_overdubkeep_Same_byte, Sp_overdublaw15_wakes, stQ, hxl]
          try rfl
  · have hxt : (x.map eC).take x.length = x.map eC := List.take_of_length_le (by simp)
    rw [hi] at hxt
    have hxb' : (∀ c ∈ x, c.dt.length ≤ 1000000) = True := eq_true fun c hc => Nat.le_trans (hxb c hc) (by omega)
    have fin : ∀ (lf nu : Int), (∃ b : List Int, b.length ≤ 64000000 ∧ joinOut lf nu x = ⟨.tup [.sl 0 1 0 b.length true, .d (.v (.bool true))], [(0, .row 5 1 (b.map mB))]⟩) ∨ joinOut lf nu x = ⟨.tup [.nil, .d (.v (.bool false))], []⟩ := by
      intro lf nu
      cases hj : joinL lf nu x with
      | none => exact .inr (by unfold joinOut; rw [hj])
      | some b =>
        refine .inl ⟨b, ?_, by unfold joinOut; rw [hj]⟩
        unfold joinL at hj
        split at hj
        · cases hj
        · rename_i hm0
          split at hj
          · rename_i hg
            have := gath_len (B := 1000000) (fun c hc => Nat.le_trans (hxb c (List.mem_filter.1 hc).1) (by omega)) _ _ hj
            have hp : pz (mine lf nu x) ≤ 64 := by
              cases hm : mine lf nu x with
              | nil => exact absurd hm hm0
              | cons a r => rw [hm] at hg; exact (hg a (List.mem_cons_self ..)).2.2
            refine Nat.le_trans this ?_
            have : (pz (mine lf nu x)).toNat ≤ 64 := by omega
            calc _ ≤ 64 * 1000000 := Nat.mul_le_mul_right _ this
              _ = 64000000 := rfl
          · cases hj
    have nilB : ∀ l : List Int, ([] = l.map mB) = (l = []) := fun l => by cases l <;> simp
    by_cases hr : r = true ∧ 0 < i
    · obtain ⟨rfl, hi0⟩ := hr
      have e0 := nth_C x 0 (by omega)
      obtain ⟨⟨xa, xb, xc, xd, xe⟩, hx0e⟩ : ∃ c, x.getD 0 default = c := ⟨_, rfl⟩
      rw [hx0e] at e0
      simp only [eC] at e0
      rcases fin xa xb with ⟨b, hbl, hj⟩ | hj
      · have hbt : (b.map mB).take b.length = b.map mB := List.take_of_length_le (by simp)
        repeat' ((first
 | refine AW.seq ?_
 | refine AW.block ?_
 | refine AW.regl QJ_ok [0, 1, 2, 3, 8, 9, 10, 11, 12, 13, 14, 15, 23, 34, 43, 79] ?_
 | (refine AW.regc (id := 10) QJ_ok follows bb_overdublaw15_CellJoins_10 (by kernel_rfl) [0, 1, 2, 3, 8, 9, 10, 11, 12, 13, 14, 15, 23, 34, 43, 79] ?_)
 | (refine AW.regc (id := 11) QJ_ok follows bb_overdublaw15_CellJoins_11 (by kernel_rfl) [0, 1, 2, 3, 8, 9, 10, 11, 12, 13, 14, 15, 23, 34, 43, 79] ?_)
 | (refine AW.regc (id := 14) QJ_ok follows bb_overdublaw15_CellJoins_14 (by kernel_rfl) [0, 1, 2, 3, 8, 9, 10, 11, 12, 13, 14, 15, 23, 34, 43, 79] ?_)
 | refine then_n ?_
 | refine then_r ?_
 | refine then_x ?_
 | refine block_x ?_
 | refine block_o (by decide) ?_
 | refine block_n ?_
 | refine block_r ?_
 | refine AW.skip ?_
 | refine AW.ret ?_
 | refine AW.exit ?_
 | refine AW.cond rfl ?_ ?_
 | refine awl_none rfl ?_
 | refine awl_nil2 ?_
 | refine awl_some rfl rfl (Nat.le_of_ble_eq_true rfl) rfl rfl ?_ ?_
 | refine awc_none rfl ?_
 | exact each_nil
 | refine each_none rfl ?_ ?_
 | refine awc_leaf2 [some 44, some 45, some 46, some 47, some 48, some 49, some 50, some 51, some 52, some 53, some 54, some 55, some 56, none, some 57, none, some 58, none] cc_overdublaw15_CellJoins_10 rfl (by kernel_rfl) (by kernel_rfl) ?_ ?_
 | refine awc_leaf2 [some 59, some 60, some 61, some 62, some 63, some 64, some 65, some 66, some 67, some 68, some 69, none] cc_overdublaw15_CellJoins_11 rfl (by kernel_rfl) (by kernel_rfl) ?_ ?_
 | refine awc_leaf2 [some 80, some 81, some 82, some 83, some 84, some 85, some 86, some 87, some 0, some 1] cc_overdublaw15_CellJoins_14 rfl (by kernel_rfl) (by kernel_rfl) ?_ ?_
 | (refine fun (hc : _ = _) => ?_; first | cases hc | ((try rw [hc]); (try simp only [stH] at hc); (try (exfalso; omega))); (try ((first | show Awl _ _ _ _ _ | show Awc _ _ _ _ _ _); simp only [stU])))
 | ((first | refine fun (K : V → List _ → _) hK => ?_ | refine fun (_ : V → V) => ?_ | refine fun (bb : Nat → Bool) K hK => ?_); simp (disch := omega) only [go_sem, Int.reduceEq, ↓reduceIte, reduceCtorEq, Nat.reduceEqDiff, Nat.reduceLT, Nat.reduceLeDiff, Nat.reduceAdd, Nat.reduceSub, Nat.reduceMul, Int.reduceToNat, Int.reduceLE, Int.reduceLT, QJ, Sp_overdubkeep_Cut_byte, Sp_overdublaw15_small, Sp_overdubkeep_Within, Sp_cells_Join, Sp_overdubref14_Join, Sp_overdubkeep_Same_byte, Sp_overdublaw15_wakes, stQ, e0, hi, hi0, hxt, hxb', hj, hbt, nilB, Cm_inj, mB_inj, all_C, Sg3, St.updIf, ifc_nil, gt_ifc, go_ifc, ite_self, Option.none_or, Option.some_or]; (try (revert hK; intro hK; (repeat' first | (refine And.intro ?_ ?_) | (intro hc; first | cases hc | ((try rw [hc]); (try simp only [stH] at hc); (try (exfalso; omega))))); all_goals first | (refine hK _ _ ?_; clear hK K; simp only [stU]) | exact hK | omega)))) <;> (fail_if_success (show False; skip)))
        all_goals (refine Ends.of (nm []) (by first | exact .inl rfl | exact .inr rfl) ?_; simp (disch := omega) only [go_sem, Int.reduceEq, ↓reduceIte, reduceCtorEq, Nat.reduceEqDiff, Nat.reduceLT, Nat.reduceLeDiff, Nat.reduceAdd, Nat.reduceSub, Nat.reduceMul, Int.reduceToNat, Int.reduceLE, Int.reduceLT, QJ, Sp_overdubkeep_Cut_byte, Sp_overdublaw15_small, Sp_overdubkeep_Within, Sp_cells_Join, Sp_overdubref14_Join, Sp_overdubkeep_Same_byte, Sp_overdublaw15_wakes])
      · repeat' ((first
 | refine AW.seq ?_
 | refine AW.block ?_
 | refine AW.regl QJ_ok [0, 1, 2, 3, 8, 9, 10, 11, 12, 13, 14, 15, 23, 34, 43, 79] ?_
 | (refine AW.regc (id := 10) QJ_ok follows bb_overdublaw15_CellJoins_10 (by kernel_rfl) [0, 1, 2, 3, 8, 9, 10, 11, 12, 13, 14, 15, 23, 34, 43, 79] ?_)
 | (refine AW.regc (id := 11) QJ_ok follows bb_overdublaw15_CellJoins_11 (by kernel_rfl) [0, 1, 2, 3, 8, 9, 10, 11, 12, 13, 14, 15, 23, 34, 43, 79] ?_)
 | (refine AW.regc (id := 14) QJ_ok follows bb_overdublaw15_CellJoins_14 (by kernel_rfl) [0, 1, 2, 3, 8, 9, 10, 11, 12, 13, 14, 15, 23, 34, 43, 79] ?_)
 | refine then_n ?_
 | refine then_r ?_
 | refine then_x ?_
 | refine block_x ?_
 | refine block_o (by decide) ?_
 | refine block_n ?_
 | refine block_r ?_
 | refine AW.skip ?_
 | refine AW.ret ?_
 | refine AW.exit ?_
 | refine AW.cond rfl ?_ ?_
 | refine awl_none rfl ?_
 | refine awl_nil2 ?_
 | refine awl_some rfl rfl (Nat.le_of_ble_eq_true rfl) rfl rfl ?_ ?_
 | refine awc_none rfl ?_
 | exact each_nil
 | refine each_none rfl ?_ ?_
 | refine awc_leaf2 [some 44, some 45, some 46, some 47, some 48, some 49, some 50, some 51, some 52, some 53, some 54, some 55, some 56, none, some 57, none, some 58, none] cc_overdublaw15_CellJoins_10 rfl (by kernel_rfl) (by kernel_rfl) ?_ ?_
 | refine awc_leaf2 [some 59, some 60, some 61, some 62, some 63, some 64, some 65, some 66, some 67, some 68, some 69, none] cc_overdublaw15_CellJoins_11 rfl (by kernel_rfl) (by kernel_rfl) ?_ ?_
 | refine awc_leaf2 [some 80, some 81, some 82, some 83, some 84, some 85, some 86, some 87, some 0, some 1] cc_overdublaw15_CellJoins_14 rfl (by kernel_rfl) (by kernel_rfl) ?_ ?_
 | (refine fun (hc : _ = _) => ?_; first | cases hc | ((try rw [hc]); (try simp only [stH] at hc); (try (exfalso; omega))); (try ((first | show Awl _ _ _ _ _ | show Awc _ _ _ _ _ _); simp only [stU])))
 | ((first | refine fun (K : V → List _ → _) hK => ?_ | refine fun (_ : V → V) => ?_ | refine fun (bb : Nat → Bool) K hK => ?_); simp (disch := omega) only [go_sem, Int.reduceEq, ↓reduceIte, reduceCtorEq, Nat.reduceEqDiff, Nat.reduceLT, Nat.reduceLeDiff, Nat.reduceAdd, Nat.reduceSub, Nat.reduceMul, Int.reduceToNat, Int.reduceLE, Int.reduceLT, QJ, Sp_overdubkeep_Cut_byte, Sp_overdublaw15_small, Sp_overdubkeep_Within, Sp_cells_Join, Sp_overdubref14_Join, Sp_overdubkeep_Same_byte, Sp_overdublaw15_wakes, stQ, e0, hi, hi0, hxt, hxb', hj, nilB, Cm_inj, mB_inj, all_C, Sg3, St.updIf, ifc_nil, gt_ifc, go_ifc, ite_self, Option.none_or, Option.some_or]; (try (revert hK; intro hK; (repeat' first | (refine And.intro ?_ ?_) | (intro hc; first | cases hc | ((try rw [hc]); (try simp only [stH] at hc); (try (exfalso; omega))))); all_goals first | (refine hK _ _ ?_; clear hK K; simp only [stU]) | exact hK | omega)))) <;> (fail_if_success (show False; skip)))
        all_goals (refine Ends.of (nm []) (by first | exact .inl rfl | exact .inr rfl) ?_; simp (disch := omega) only [go_sem, Int.reduceEq, ↓reduceIte, reduceCtorEq, Nat.reduceEqDiff, Nat.reduceLT, Nat.reduceLeDiff, Nat.reduceAdd, Nat.reduceSub, Nat.reduceMul, Int.reduceToNat, Int.reduceLE, Int.reduceLT, QJ, Sp_overdubkeep_Cut_byte, Sp_overdublaw15_small, Sp_overdubkeep_Within, Sp_cells_Join, Sp_overdubref14_Join, Sp_overdubkeep_Same_byte, Sp_overdublaw15_wakes])
    · have hr' : r = false ∨ i = 0 := by
        cases r with
        | false => exact .inl rfl
        | true => exact .inr (by have : ¬ 0 < i := fun h => hr ⟨rfl, h⟩; omega)
      clear hr
      rcases fin life num with ⟨b, hbl, hj⟩ | hj
      · have hbt : (b.map mB).take b.length = b.map mB := List.take_of_length_le (by simp)
        rcases hr' with rfl | rfl
        · repeat' ((first
 | refine AW.seq ?_
 | refine AW.block ?_
 | refine AW.regl QJ_ok [0, 1, 2, 3, 8, 9, 10, 11, 12, 13, 14, 15, 23, 34, 43, 79] ?_
 | (refine AW.regc (id := 10) QJ_ok follows bb_overdublaw15_CellJoins_10 (by kernel_rfl) [0, 1, 2, 3, 8, 9, 10, 11, 12, 13, 14, 15, 23, 34, 43, 79] ?_)
 | (refine AW.regc (id := 11) QJ_ok follows bb_overdublaw15_CellJoins_11 (by kernel_rfl) [0, 1, 2, 3, 8, 9, 10, 11, 12, 13, 14, 15, 23, 34, 43, 79] ?_)
 | (refine AW.regc (id := 14) QJ_ok follows bb_overdublaw15_CellJoins_14 (by kernel_rfl) [0, 1, 2, 3, 8, 9, 10, 11, 12, 13, 14, 15, 23, 34, 43, 79] ?_)
 | refine then_n ?_
 | refine then_r ?_
 | refine then_x ?_
 | refine block_x ?_
 | refine block_o (by decide) ?_
 | refine block_n ?_
 | refine block_r ?_
 | refine AW.skip ?_
 | refine AW.ret ?_
 | refine AW.exit ?_
 | refine AW.cond rfl ?_ ?_
 | refine awl_none rfl ?_
 | refine awl_nil2 ?_
 | refine awl_some rfl rfl (Nat.le_of_ble_eq_true rfl) rfl rfl ?_ ?_
 | refine awc_none rfl ?_
 | exact each_nil
 | refine each_none rfl ?_ ?_
 | refine awc_leaf2 [some 44, some 45, some 46, some 47, some 48, some 49, some 50, some 51, some 52, some 53, some 54, some 55, some 56, none, some 57, none, some 58, none] cc_overdublaw15_CellJoins_10 rfl (by kernel_rfl) (by kernel_rfl) ?_ ?_
 | refine awc_leaf2 [some 59, some 60, some 61, some 62, some 63, some 64, some 65, some 66, some 67, some 68, some 69, none] cc_overdublaw15_CellJoins_11 rfl (by kernel_rfl) (by kernel_rfl) ?_ ?_
 | refine awc_leaf2 [some 80, some 81, some 82, some 83, some 84, some 85, some 86, some 87, some 0, some 1] cc_overdublaw15_CellJoins_14 rfl (by kernel_rfl) (by kernel_rfl) ?_ ?_
 | (refine fun (hc : _ = _) => ?_; first | cases hc | ((try rw [hc]); (try simp only [stH] at hc); (try (exfalso; omega))); (try ((first | show Awl _ _ _ _ _ | show Awc _ _ _ _ _ _); simp only [stU])))
 | ((first | refine fun (K : V → List _ → _) hK => ?_ | refine fun (_ : V → V) => ?_ | refine fun (bb : Nat → Bool) K hK => ?_); simp (disch := omega) only [go_sem, Int.reduceEq, ↓reduceIte, reduceCtorEq, Nat.reduceEqDiff, Nat.reduceLT, Nat.reduceLeDiff, Nat.reduceAdd, Nat.reduceSub, Nat.reduceMul, Int.reduceToNat, Int.reduceLE, Int.reduceLT, QJ, Sp_overdubkeep_Cut_byte, Sp_overdublaw15_small, Sp_overdubkeep_Within, Sp_cells_Join, Sp_overdubref14_Join, Sp_overdubkeep_Same_byte, Sp_overdublaw15_wakes, stQ, hi, hxt, hxb', hj, hbt, nilB, Cm_inj, mB_inj, all_C, Sg3, St.updIf, ifc_nil, gt_ifc, go_ifc, ite_self, Option.none_or, Option.some_or]; (try (revert hK; intro hK; (repeat' first | (refine And.intro ?_ ?_) | (intro hc; first | cases hc | ((try rw [hc]); (try simp only [stH] at hc); (try (exfalso; omega))))); all_goals first | (refine hK _ _ ?_; clear hK K; simp only [stU]) | exact hK | omega)))) <;> (fail_if_success (show False; skip)))
          all_goals (refine Ends.of (nm []) (by first | exact .inl rfl | exact .inr rfl) ?_; simp (disch := omega) only [go_sem, Int.reduceEq, ↓reduceIte, reduceCtorEq, Nat.reduceEqDiff, Nat.reduceLT, Nat.reduceLeDiff, Nat.reduceAdd, Nat.reduceSub, Nat.reduceMul, Int.reduceToNat, Int.reduceLE, Int.reduceLT, QJ, Sp_overdubkeep_Cut_byte, Sp_overdublaw15_small, Sp_overdubkeep_Within, Sp_cells_Join, Sp_overdubref14_Join, Sp_overdubkeep_Same_byte, Sp_overdublaw15_wakes])
        · cases r
          all_goals repeat' ((first
 | refine AW.seq ?_
 | refine AW.block ?_
 | refine AW.regl QJ_ok [0, 1, 2, 3, 8, 9, 10, 11, 12, 13, 14, 15, 23, 34, 43, 79] ?_
 | (refine AW.regc (id := 10) QJ_ok follows bb_overdublaw15_CellJoins_10 (by kernel_rfl) [0, 1, 2, 3, 8, 9, 10, 11, 12, 13, 14, 15, 23, 34, 43, 79] ?_)
 | (refine AW.regc (id := 11) QJ_ok follows bb_overdublaw15_CellJoins_11 (by kernel_rfl) [0, 1, 2, 3, 8, 9, 10, 11, 12, 13, 14, 15, 23, 34, 43, 79] ?_)
 | (refine AW.regc (id := 14) QJ_ok follows bb_overdublaw15_CellJoins_14 (by kernel_rfl) [0, 1, 2, 3, 8, 9, 10, 11, 12, 13, 14, 15, 23, 34, 43, 79] ?_)
 | refine then_n ?_
 | refine then_r ?_
 | refine then_x ?_
 | refine block_x ?_
 | refine block_o (by decide) ?_
 | refine block_n ?_
 | refine block_r ?_
 | refine AW.skip ?_
 | refine AW.ret ?_
 | refine AW.exit ?_
 | refine AW.cond rfl ?_ ?_
 | refine awl_none rfl ?_
 | refine awl_nil2 ?_
 | refine awl_some rfl rfl (Nat.le_of_ble_eq_true rfl) rfl rfl ?_ ?_
 | refine awc_none rfl ?_
 | exact each_nil
 | refine each_none rfl ?_ ?_
 | refine awc_leaf2 [some 44, some 45, some 46, some 47, some 48, some 49, some 50, some 51, some 52, some 53, some 54, some 55, some 56, none, some 57, none, some 58, none] cc_overdublaw15_CellJoins_10 rfl (by kernel_rfl) (by kernel_rfl) ?_ ?_
 | refine awc_leaf2 [some 59, some 60, some 61, some 62, some 63, some 64, some 65, some 66, some 67, some 68, some 69, none] cc_overdublaw15_CellJoins_11 rfl (by kernel_rfl) (by kernel_rfl) ?_ ?_
 | refine awc_leaf2 [some 80, some 81, some 82, some 83, some 84, some 85, some 86, some 87, some 0, some 1] cc_overdublaw15_CellJoins_14 rfl (by kernel_rfl) (by kernel_rfl) ?_ ?_
 | (refine fun (hc : _ = _) => ?_; first | cases hc | ((try rw [hc]); (try simp only [stH] at hc); (try (exfalso; omega))); (try ((first | show Awl _ _ _ _ _ | show Awc _ _ _ _ _ _); simp only [stU])))
 | ((first | refine fun (K : V → List _ → _) hK => ?_ | refine fun (_ : V → V) => ?_ | refine fun (bb : Nat → Bool) K hK => ?_); simp (disch := omega) only [go_sem, Int.reduceEq, ↓reduceIte, reduceCtorEq, Nat.reduceEqDiff, Nat.reduceLT, Nat.reduceLeDiff, Nat.reduceAdd, Nat.reduceSub, Nat.reduceMul, Int.reduceToNat, Int.reduceLE, Int.reduceLT, QJ, Sp_overdubkeep_Cut_byte, Sp_overdublaw15_small, Sp_overdubkeep_Within, Sp_cells_Join, Sp_overdubref14_Join, Sp_overdubkeep_Same_byte, Sp_overdublaw15_wakes, stQ, hi, hxt, hxb', hj, hbt, nilB, Cm_inj, mB_inj, all_C, Sg3, St.updIf, ifc_nil, gt_ifc, go_ifc, ite_self, Option.none_or, Option.some_or]; (try (revert hK; intro hK; (repeat' first | (refine And.intro ?_ ?_) | (intro hc; first | cases hc | ((try rw [hc]); (try simp only [stH] at hc); (try (exfalso; omega))))); all_goals first | (refine hK _ _ ?_; clear hK K; simp only [stU]) | exact hK | omega)))) <;> (fail_if_success (show False; skip)))
          all_goals (refine Ends.of (nm []) (by first | exact .inl rfl | exact .inr rfl) ?_; simp (disch := omega) only [go_sem, Int.reduceEq, ↓reduceIte, reduceCtorEq, Nat.reduceEqDiff, Nat.reduceLT, Nat.reduceLeDiff, Nat.reduceAdd, Nat.reduceSub, Nat.reduceMul, Int.reduceToNat, Int.reduceLE, Int.reduceLT, QJ, Sp_overdubkeep_Cut_byte, Sp_overdublaw15_small, Sp_overdubkeep_Within, Sp_cells_Join, Sp_overdubref14_Join, Sp_overdubkeep_Same_byte, Sp_overdublaw15_wakes])
      · rcases hr' with rfl | rfl
        · repeat' ((first
 | refine AW.seq ?_
 | refine AW.block ?_
 | refine AW.regl QJ_ok [0, 1, 2, 3, 8, 9, 10, 11, 12, 13, 14, 15, 23, 34, 43, 79] ?_
 | (refine AW.regc (id := 10) QJ_ok follows bb_overdublaw15_CellJoins_10 (by kernel_rfl) [0, 1, 2, 3, 8, 9, 10, 11, 12, 13, 14, 15, 23, 34, 43, 79] ?_)
 | (refine AW.regc (id := 11) QJ_ok follows bb_overdublaw15_CellJoins_11 (by kernel_rfl) [0, 1, 2, 3, 8, 9, 10, 11, 12, 13, 14, 15, 23, 34, 43, 79] ?_)
 | (refine AW.regc (id := 14) QJ_ok follows bb_overdublaw15_CellJoins_14 (by kernel_rfl) [0, 1, 2, 3, 8, 9, 10, 11, 12, 13, 14, 15, 23, 34, 43, 79] ?_)
 | refine then_n ?_
 | refine then_r ?_
 | refine then_x ?_
 | refine block_x ?_
 | refine block_o (by decide) ?_
 | refine block_n ?_
 | refine block_r ?_
 | refine AW.skip ?_
 | refine AW.ret ?_
 | refine AW.exit ?_
 | refine AW.cond rfl ?_ ?_
 | refine awl_none rfl ?_
 | refine awl_nil2 ?_
 | refine awl_some rfl rfl (Nat.le_of_ble_eq_true rfl) rfl rfl ?_ ?_
 | refine awc_none rfl ?_
 | exact each_nil
 | refine each_none rfl ?_ ?_
 | refine awc_leaf2 [some 44, some 45, some 46, some 47, some 48, some 49, some 50, some 51, some 52, some 53, some 54, some 55, some 56, none, some 57, none, some 58, none] cc_overdublaw15_CellJoins_10 rfl (by kernel_rfl) (by kernel_rfl) ?_ ?_
 | refine awc_leaf2 [some 59, some 60, some 61, some 62, some 63, some 64, some 65, some 66, some 67, some 68, some 69, none] cc_overdublaw15_CellJoins_11 rfl (by kernel_rfl) (by kernel_rfl) ?_ ?_
 | refine awc_leaf2 [some 80, some 81, some 82, some 83, some 84, some 85, some 86, some 87, some 0, some 1] cc_overdublaw15_CellJoins_14 rfl (by kernel_rfl) (by kernel_rfl) ?_ ?_
 | (refine fun (hc : _ = _) => ?_; first | cases hc | ((try rw [hc]); (try simp only [stH] at hc); (try (exfalso; omega))); (try ((first | show Awl _ _ _ _ _ | show Awc _ _ _ _ _ _); simp only [stU])))
 | ((first | refine fun (K : V → List _ → _) hK => ?_ | refine fun (_ : V → V) => ?_ | refine fun (bb : Nat → Bool) K hK => ?_); simp (disch := omega) only [go_sem, Int.reduceEq, ↓reduceIte, reduceCtorEq, Nat.reduceEqDiff, Nat.reduceLT, Nat.reduceLeDiff, Nat.reduceAdd, Nat.reduceSub, Nat.reduceMul, Int.reduceToNat, Int.reduceLE, Int.reduceLT, QJ, Sp_overdubkeep_Cut_byte, Sp_overdublaw15_small, Sp_overdubkeep_Within, Sp_cells_Join, Sp_overdubref14_Join, Sp_overdubkeep_Same_byte, Sp_overdublaw15_wakes, stQ, hi, hxt, hxb', hj, nilB, Cm_inj, mB_inj, all_C, Sg3, St.updIf, ifc_nil, gt_ifc, go_ifc, ite_self, Option.none_or, Option.some_or]; (try (revert hK; intro hK; (repeat' first | (refine And.intro ?_ ?_) | (intro hc; first | cases hc | ((try rw [hc]); (try simp only [stH] at hc); (try (exfalso; omega))))); all_goals first | (refine hK _ _ ?_; clear hK K; simp only [stU]) | exact hK | omega)))) <;> (fail_if_success (show False; skip)))
          all_goals (refine Ends.of (nm []) (by first | exact .inl rfl | exact .inr rfl) ?_; simp (disch := omega) only [go_sem, Int.reduceEq, ↓reduceIte, reduceCtorEq, Nat.reduceEqDiff, Nat.reduceLT, Nat.reduceLeDiff, Nat.reduceAdd, Nat.reduceSub, Nat.reduceMul, Int.reduceToNat, Int.reduceLE, Int.reduceLT, QJ, Sp_overdubkeep_Cut_byte, Sp_overdublaw15_small, Sp_overdubkeep_Within, Sp_cells_Join, Sp_overdubref14_Join, Sp_overdubkeep_Same_byte, Sp_overdublaw15_wakes])
        · cases r
          all_goals repeat' ((first
 | refine AW.seq ?_
 | refine AW.block ?_
 | refine AW.regl QJ_ok [0, 1, 2, 3, 8, 9, 10, 11, 12, 13, 14, 15, 23, 34, 43, 79] ?_
 | (refine AW.regc (id := 10) QJ_ok follows bb_overdublaw15_CellJoins_10 (by kernel_rfl) [0, 1, 2, 3, 8, 9, 10, 11, 12, 13, 14, 15, 23, 34, 43, 79] ?_)
 | (refine AW.regc (id := 11) QJ_ok follows bb_overdublaw15_CellJoins_11 (by kernel_rfl) [0, 1, 2, 3, 8, 9, 10, 11, 12, 13, 14, 15, 23, 34, 43, 79] ?_)
 | (refine AW.regc (id := 14) QJ_ok follows bb_overdublaw15_CellJoins_14 (by kernel_rfl) [0, 1, 2, 3, 8, 9, 10, 11, 12, 13, 14, 15, 23, 34, 43, 79] ?_)
 | refine then_n ?_
 | refine then_r ?_
 | refine then_x ?_
 | refine block_x ?_
 | refine block_o (by decide) ?_
 | refine block_n ?_
 | refine block_r ?_
 | refine AW.skip ?_
 | refine AW.ret ?_
 | refine AW.exit ?_
 | refine AW.cond rfl ?_ ?_
 | refine awl_none rfl ?_
 | refine awl_nil2 ?_
 | refine awl_some rfl rfl (Nat.le_of_ble_eq_true rfl) rfl rfl ?_ ?_
 | refine awc_none rfl ?_
 | exact each_nil
 | refine each_none rfl ?_ ?_
 | refine awc_leaf2 [some 44, some 45, some 46, some 47, some 48, some 49, some 50, some 51, some 52, some 53, some 54, some 55, some 56, none, some 57, none, some 58, none] cc_overdublaw15_CellJoins_10 rfl (by kernel_rfl) (by kernel_rfl) ?_ ?_
 | refine awc_leaf2 [some 59, some 60, some 61, some 62, some 63, some 64, some 65, some 66, some 67, some 68, some 69, none] cc_overdublaw15_CellJoins_11 rfl (by kernel_rfl) (by kernel_rfl) ?_ ?_
 | refine awc_leaf2 [some 80, some 81, some 82, some 83, some 84, some 85, some 86, some 87, some 0, some 1] cc_overdublaw15_CellJoins_14 rfl (by kernel_rfl) (by kernel_rfl) ?_ ?_
 | (refine fun (hc : _ = _) => ?_; first | cases hc | ((try rw [hc]); (try simp only [stH] at hc); (try (exfalso; omega))); (try ((first | show Awl _ _ _ _ _ | show Awc _ _ _ _ _ _); simp only [stU])))
 | ((first | refine fun (K : V → List _ → _) hK => ?_ | refine fun (_ : V → V) => ?_ | refine fun (bb : Nat → Bool) K hK => ?_); simp (disch := omega) only [go_sem, Int.reduceEq, ↓reduceIte, reduceCtorEq, Nat.reduceEqDiff, Nat.reduceLT, Nat.reduceLeDiff, Nat.reduceAdd, Nat.reduceSub, Nat.reduceMul, Int.reduceToNat, Int.reduceLE, Int.reduceLT, QJ, Sp_overdubkeep_Cut_byte, Sp_overdublaw15_small, Sp_overdubkeep_Within, Sp_cells_Join, Sp_overdubref14_Join, Sp_overdubkeep_Same_byte, Sp_overdublaw15_wakes, stQ, hi, hxt, hxb', hj, nilB, Cm_inj, mB_inj, all_C, Sg3, St.updIf, ifc_nil, gt_ifc, go_ifc, ite_self, Option.none_or, Option.some_or]; (try (revert hK; intro hK; (repeat' first | (refine And.intro ?_ ?_) | (intro hc; first | cases hc | ((try rw [hc]); (try simp only [stH] at hc); (try (exfalso; omega))))); all_goals first | (refine hK _ _ ?_; clear hK K; simp only [stU]) | exact hK | omega)))) <;> (fail_if_success (show False; skip)))
          all_goals (refine Ends.of (nm []) (by first | exact .inl rfl | exact .inr rfl) ?_; simp (disch := omega) only [go_sem, Int.reduceEq, ↓reduceIte, reduceCtorEq, Nat.reduceEqDiff, Nat.reduceLT, Nat.reduceLeDiff, Nat.reduceAdd, Nat.reduceSub, Nat.reduceMul, Int.reduceToNat, Int.reduceLE, Int.reduceLT, QJ, Sp_overdubkeep_Cut_byte, Sp_overdublaw15_small, Sp_overdubkeep_Within, Sp_cells_Join, Sp_overdubref14_Join, Sp_overdubkeep_Same_byte, Sp_overdublaw15_wakes])
theorem ent_overdublaw15_CellJoins : Ent Try.prog 5 := ⟨_, Try.func5, rfl, by decide⟩
end Go.Proofs.Ytaiaackeljlbfaa.Am
