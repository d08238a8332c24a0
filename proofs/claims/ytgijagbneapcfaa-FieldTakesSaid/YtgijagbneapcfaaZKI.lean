import Derived.Test.YtgijagbneapcfaaZHA
set_option linter.unusedVariables false
set_option linter.unusedSimpArgs false
set_option maxRecDepth 10000
set_option maxHeartbeats 0
namespace Go.Proofs.Ytgijagbneapcfaa.Am
open Go Go.RowKit Go.Proofs
def Sp_overdubkeep_Cut_int (ds : List D) (out : Out) : Prop := ∃ (l : List Int) (n : Int), ds = [.list (l.map mI), .v (.int .i64 n)] ∧ 0 ≤ n ∧ l.length ≤ 9223372036854775807 ∧ out = ⟨.d (.list ((l.take n.toNat).map mI)), []⟩
theorem good_overdubkeep_Cut_int : Good Try.prog 19 Sp_overdubkeep_Cut_int := by
  refine good_body (E := E0) (nt := 11) (rs := #[.tmp 4]) Try.func19 rfl rfl rfl ?_
  rintro ds out ⟨l, n, rfl, h0, hl, rfl⟩
  refine ⟨by simp, ?_⟩
  have hm1 : min (l.length : Int) n ≤ l.length := by omega
  have hm2 : 0 ≤ min (l.length : Int) n := by omega
  repeat' first
 | refine AW.seq ?_
 | refine AW.block ?_
 | refine AW.regl E0_ok [0, 1, 4] ?_
 | refine then_n ?_
 | refine then_r ?_
 | refine then_x ?_
 | refine block_x ?_
 | refine block_o (by decide) ?_
 | refine block_n ?_
 | refine block_r ?_
 | refine AW.skip ?_
 | refine AW.ret ?_
 | refine AW.exit ?_
 | refine AW.cond rfl ?_ ?_
 | refine awl_none rfl ?_
 | refine awl_nil2 ?_
 | (refine fun (hc : _ = _) => ?_; first | cases hc | ((try rw [hc]); (try simp only [stH] at hc); (try (exfalso; omega))); (try (show Awl _ _ _ _ _; simp only [stU])))
 | ((first | refine fun (K : V → List _ → _) hK => ?_ | refine fun (_ : V → V) => ?_); simp (disch := omega) only [go_sem, Int.reduceEq, ↓reduceIte, reduceCtorEq, Nat.reduceEqDiff, Nat.reduceLT, Nat.reduceLeDiff, Nat.reduceAdd, Nat.reduceSub, Nat.reduceMul, Int.reduceToNat, Int.reduceLE, Int.reduceLT, E0, cutOk, all_I, hm1, hm2]; (try (revert hK; intro hK; (repeat' first | (refine And.intro ?_ ?_) | (intro hc; first | cases hc | ((try rw [hc]); (try simp only [stH] at hc); (try (exfalso; omega))))); all_goals first | (refine hK _ _ ?_; clear hK K; simp only [stU]) | exact hK | omega)))
  (refine Ends.of (nm []) (by first | exact .inl rfl | exact .inr rfl) ?_; simp (disch := omega) only [go_sem, Int.reduceEq, ↓reduceIte, reduceCtorEq, Nat.reduceEqDiff, Nat.reduceLT, Nat.reduceLeDiff, Nat.reduceAdd, Nat.reduceSub, Nat.reduceMul, Int.reduceToNat, Int.reduceLE, Int.reduceLT, E0, take_min, map_take'])
theorem ent_overdubkeep_Cut_int : Ent Try.prog 19 := ⟨_, Try.func19, rfl, by decide⟩
def Sp_overdubkeep_Same_int (ds : List D) (out : Out) : Prop := ∃ l m : List Int, ds = [.list (l.map mI), .list (m.map mI)] ∧ l.length ≤ 9223372036854775807 ∧ m.length ≤ 9223372036854775807 ∧ out = ⟨.d (.v (.bool (decide (l = m)))), []⟩
def bb_overdubkeep_Same_int_6 : List Nat := [0, 0, 3, 7, 0, 0, 48, 112, 255]
def cc_overdubkeep_Same_int_6 : List (List (Option Bool)) := [[some false, none, some false, some false, none, none, none, none, some false], [none, some false, some false, some false, none, none, none, none, some false], [some true, some true, some false, some false, none, none, none, none, some false], [some true, some true, some true, some false, none, none, none, none, some false], [none, none, none, none, some false, none, some false, some false, some false], [none, none, none, none, none, some false, some false, some false, some false], [none, none, none, none, some true, some true, some false, some false, some false], [none, none, none, none, some true, some true, some true, some false, some false], [some true, some true, some true, some true, some true, some true, some true, some true, some false]]
theorem good_overdubkeep_Same_int : Good Try.prog 22 Sp_overdubkeep_Same_int := by
  refine good_body (E := E0) (nt := 26) (rs := #[.tmp 4]) Try.func22 rfl rfl rfl ?_
  rintro ds out ⟨l, m, rfl, hl, hm, rfl⟩
  refine ⟨by simp, ?_⟩
  by_cases hlm : l.length = m.length
  case neg =>
    have hz : decide (l = m) = false := decide_eq_false (ne_of_length hlm)
    repeat' first
 | refine AW.seq ?_
 | refine AW.block ?_
 | refine AW.regl E0_ok [0, 1, 4, 5, 10, 14, 25] ?_
 | (refine AW.regc (id := 6) E0_ok follows bb_overdubkeep_Same_int_6 (by kernel_rfl) [0, 1, 4, 5, 10, 14, 25] ?_)
 | refine then_n ?_
 | refine then_r ?_
 | refine then_x ?_
 | refine block_x ?_
 | refine block_o (by decide) ?_
 | refine block_n ?_
 | refine block_r ?_
 | refine AW.skip ?_
 | refine AW.ret ?_
 | refine AW.exit ?_
 | refine AW.cond rfl ?_ ?_
 | refine awl_none rfl ?_
 | refine awl_nil2 ?_
 | refine awc_none rfl ?_
 | exact each_nil
 | refine each_none rfl ?_ ?_
 | refine awc_leaf2 [some 17, some 18, some 19, some 20, some 21, some 22, some 23, some 24, some 25] cc_overdubkeep_Same_int_6 rfl (by kernel_rfl) (by kernel_rfl) ?_ ?_
 | (refine fun (hc : _ = _) => ?_; first | cases hc | ((try rw [hc]); (try simp only [stH] at hc); (try (exfalso; omega))); (try ((first | show Awl _ _ _ _ _ | show Awc _ _ _ _ _ _); simp only [stU])))
 | ((first | refine fun (K : V → List _ → _) hK => ?_ | refine fun (_ : V → V) => ?_ | refine fun (bb : Nat → Bool) K hK => ?_); simp (disch := omega) only [go_sem, Int.reduceEq, ↓reduceIte, reduceCtorEq, Nat.reduceEqDiff, Nat.reduceLT, Nat.reduceLeDiff, Nat.reduceAdd, Nat.reduceSub, Nat.reduceMul, Int.reduceToNat, Int.reduceLE, Int.reduceLT, E0, Sg3, St.updIf, ifc_nil, gt_ifc, go_ifc, ite_self, Option.none_or, Option.some_or]; (try (revert hK; intro hK; (repeat' first | (refine And.intro ?_ ?_) | (intro hc; first | cases hc | ((try rw [hc]); (try simp only [stH] at hc); (try (exfalso; omega))))); all_goals first | (refine hK _ _ ?_; clear hK K; simp only [stU]) | exact hK | omega)))
    (refine Ends.of (nm []) (by first | exact .inl rfl | exact .inr rfl) ?_; simp (disch := omega) only [go_sem, Int.reduceEq, ↓reduceIte, reduceCtorEq, Nat.reduceEqDiff, Nat.reduceLT, Nat.reduceLeDiff, Nat.reduceAdd, Nat.reduceSub, Nat.reduceMul, Int.reduceToNat, Int.reduceLE, Int.reduceLT, E0, hz])
  repeat' first
 | refine AW.seq ?_
 | refine AW.block ?_
 | refine AW.regl E0_ok [0, 1, 4, 5, 10, 14, 25] ?_
 | (refine AW.regc (id := 6) E0_ok follows bb_overdubkeep_Same_int_6 (by kernel_rfl) [0, 1, 4, 5, 10, 14, 25] ?_)
 | refine then_n ?_
 | refine then_r ?_
 | refine then_x ?_
 | refine block_x ?_
 | refine block_o (by decide) ?_
 | refine block_n ?_
 | refine block_r ?_
 | refine AW.skip ?_
 | refine AW.ret ?_
 | refine AW.exit ?_
 | refine AW.cond rfl ?_ ?_
 | refine awl_none rfl ?_
 | refine awl_nil2 ?_
 | refine awc_none rfl ?_
 | exact each_nil
 | refine each_none rfl ?_ ?_
 | refine awc_leaf2 [some 17, some 18, some 19, some 20, some 21, some 22, some 23, some 24, some 25] cc_overdubkeep_Same_int_6 rfl (by kernel_rfl) (by kernel_rfl) ?_ ?_
 | (refine fun (hc : _ = _) => ?_; first | cases hc | ((try rw [hc]); (try simp only [stH] at hc); (try (exfalso; omega))); (try ((first | show Awl _ _ _ _ _ | show Awc _ _ _ _ _ _); simp only [stU])))
 | ((first | refine fun (K : V → List _ → _) hK => ?_ | refine fun (_ : V → V) => ?_ | refine fun (bb : Nat → Bool) K hK => ?_); simp (disch := omega) only [go_sem, Int.reduceEq, ↓reduceIte, reduceCtorEq, Nat.reduceEqDiff, Nat.reduceLT, Nat.reduceLeDiff, Nat.reduceAdd, Nat.reduceSub, Nat.reduceMul, Int.reduceToNat, Int.reduceLE, Int.reduceLT, E0, Sg3, St.updIf, ifc_nil, gt_ifc, go_ifc, ite_self, Option.none_or, Option.some_or]; (try (revert hK; intro hK; (repeat' first | (refine And.intro ?_ ?_) | (intro hc; first | cases hc | ((try rw [hc]); (try simp only [stH] at hc); (try (exfalso; omega))))); all_goals first | (refine hK _ _ ?_; clear hK K; simp only [stU]) | exact hK | omega)))
  refine AW.loop_wk (fun k : Nat => ⟨[(0, .d (.list (l.map mI))), (1, .d (.list (m.map mI))), (5, .d (.v (.int .i64 k)))], [], 26⟩)
    (fun k => k ≤ l.length ∧ l.take k = m.take k) (fun k => l.length - k) 0 ⟨by omega, rfl⟩ (fun w0 oa a w hs => Wk.sr (ρ := nm []) (Wk.of ?_) hs) ?_
  · simp (disch := omega) only [go_sem, Int.reduceEq, ↓reduceIte, reduceCtorEq, Nat.reduceEqDiff, Nat.reduceLT, Nat.reduceLeDiff, Nat.reduceAdd, Nat.reduceSub, Nat.reduceMul, Int.reduceToNat, Int.reduceLE, Int.reduceLT, E0]
  · rintro k ⟨hk, ht⟩
    by_cases hk1 : k < l.length
    · have e1 := nth_I l k hk1
      have e2 := nth_I m k (by omega)
      by_cases he : l.getD k 0 = m.getD k 0
      · have ht1 := take_step 0 ht hk1 (by omega) he
        generalize l.getD k 0 = a at *
        generalize m.getD k 0 = b at *
        subst he
        repeat' first
 | refine AW.seq ?_
 | refine AW.block ?_
 | refine AW.regl E0_ok [0, 1, 4, 5, 10, 14, 25] ?_
 | (refine AW.regc (id := 6) E0_ok follows bb_overdubkeep_Same_int_6 (by kernel_rfl) [0, 1, 4, 5, 10, 14, 25] ?_)
 | refine then_n ?_
 | refine then_r ?_
 | refine then_x ?_
 | refine block_x ?_
 | refine block_o (by decide) ?_
 | refine block_n ?_
 | refine block_r ?_
 | refine AW.skip ?_
 | refine AW.ret ?_
 | refine AW.exit ?_
 | refine AW.cond rfl ?_ ?_
 | refine awl_none rfl ?_
 | refine awl_nil2 ?_
 | refine awc_none rfl ?_
 | exact each_nil
 | refine each_none rfl ?_ ?_
 | refine awc_leaf2 [some 17, some 18, some 19, some 20, some 21, some 22, some 23, some 24, some 25] cc_overdubkeep_Same_int_6 rfl (by kernel_rfl) (by kernel_rfl) ?_ ?_
 | (refine fun (hc : _ = _) => ?_; first | cases hc | ((try rw [hc]); (try simp only [stH] at hc); (try (exfalso; omega))); (try ((first | show Awl _ _ _ _ _ | show Awc _ _ _ _ _ _); simp only [stU])))
 | ((first | refine fun (K : V → List _ → _) hK => ?_ | refine fun (_ : V → V) => ?_ | refine fun (bb : Nat → Bool) K hK => ?_); simp (disch := omega) only [go_sem, Int.reduceEq, ↓reduceIte, reduceCtorEq, Nat.reduceEqDiff, Nat.reduceLT, Nat.reduceLeDiff, Nat.reduceAdd, Nat.reduceSub, Nat.reduceMul, Int.reduceToNat, Int.reduceLE, Int.reduceLT, E0, e1, e2, all_I, Sg3, St.updIf, ifc_nil, gt_ifc, go_ifc, ite_self, Option.none_or, Option.some_or]; (try (revert hK; intro hK; (repeat' first | (refine And.intro ?_ ?_) | (intro hc; first | cases hc | ((try rw [hc]); (try simp only [stH] at hc); (try (exfalso; omega))))); all_goals first | (refine hK _ _ ?_; clear hK K; simp only [stU]) | exact hK | omega)))
        refine ⟨k + 1, by omega, ht1, by omega, nm [], Wk.of ?_⟩
        simp (disch := omega) only [go_sem, Int.reduceEq, ↓reduceIte, reduceCtorEq, Nat.reduceEqDiff, Nat.reduceLT, Nat.reduceLeDiff, Nat.reduceAdd, Nat.reduceSub, Nat.reduceMul, Int.reduceToNat, Int.reduceLE, Int.reduceLT, E0]
        try rfl
      · have hz : decide (l = m) = false := decide_eq_false (ne_of_getD he)
        repeat' first
 | refine AW.seq ?_
 | refine AW.block ?_
 | refine AW.regl E0_ok [0, 1, 4, 5, 10, 14, 25] ?_
 | (refine AW.regc (id := 6) E0_ok follows bb_overdubkeep_Same_int_6 (by kernel_rfl) [0, 1, 4, 5, 10, 14, 25] ?_)
 | refine then_n ?_
 | refine then_r ?_
 | refine then_x ?_
 | refine block_x ?_
 | refine block_o (by decide) ?_
 | refine block_n ?_
 | refine block_r ?_
 | refine AW.skip ?_
 | refine AW.ret ?_
 | refine AW.exit ?_
 | refine AW.cond rfl ?_ ?_
 | refine awl_none rfl ?_
 | refine awl_nil2 ?_
 | refine awc_none rfl ?_
 | exact each_nil
 | refine each_none rfl ?_ ?_
 | refine awc_leaf2 [some 17, some 18, some 19, some 20, some 21, some 22, some 23, some 24, some 25] cc_overdubkeep_Same_int_6 rfl (by kernel_rfl) (by kernel_rfl) ?_ ?_
 | (refine fun (hc : _ = _) => ?_; first | cases hc | ((try rw [hc]); (try simp only [stH] at hc); (try (exfalso; omega))); (try ((first | show Awl _ _ _ _ _ | show Awc _ _ _ _ _ _); simp only [stU])))
 | ((first | refine fun (K : V → List _ → _) hK => ?_ | refine fun (_ : V → V) => ?_ | refine fun (bb : Nat → Bool) K hK => ?_); simp (disch := omega) only [go_sem, Int.reduceEq, ↓reduceIte, reduceCtorEq, Nat.reduceEqDiff, Nat.reduceLT, Nat.reduceLeDiff, Nat.reduceAdd, Nat.reduceSub, Nat.reduceMul, Int.reduceToNat, Int.reduceLE, Int.reduceLT, E0, e1, e2, all_I, he, Sg3, St.updIf, ifc_nil, gt_ifc, go_ifc, ite_self, Option.none_or, Option.some_or]; (try (revert hK; intro hK; (repeat' first | (refine And.intro ?_ ?_) | (intro hc; first | cases hc | ((try rw [hc]); (try simp only [stH] at hc); (try (exfalso; omega))))); all_goals first | (refine hK _ _ ?_; clear hK K; simp only [stU]) | exact hK | omega)))
        (refine Ends.of (nm []) (by first | exact .inl rfl | exact .inr rfl) ?_; simp (disch := omega) only [go_sem, Int.reduceEq, ↓reduceIte, reduceCtorEq, Nat.reduceEqDiff, Nat.reduceLT, Nat.reduceLeDiff, Nat.reduceAdd, Nat.reduceSub, Nat.reduceMul, Int.reduceToNat, Int.reduceLE, Int.reduceLT, E0, hz])
    · obtain rfl : k = l.length := by omega
      have hz : decide (l = m) = true := decide_eq_true (take_all ht hlm)
      repeat' first
 | refine AW.seq ?_
 | refine AW.block ?_
 | refine AW.regl E0_ok [0, 1, 4, 5, 10, 14, 25] ?_
 | (refine AW.regc (id := 6) E0_ok follows bb_overdubkeep_Same_int_6 (by kernel_rfl) [0, 1, 4, 5, 10, 14, 25] ?_)
 | refine then_n ?_
 | refine then_r ?_
 | refine then_x ?_
 | refine block_x ?_
 | refine block_o (by decide) ?_
 | refine block_n ?_
 | refine block_r ?_
 | refine AW.skip ?_
 | refine AW.ret ?_
 | refine AW.exit ?_
 | refine AW.cond rfl ?_ ?_
 | refine awl_none rfl ?_
 | refine awl_nil2 ?_
 | refine awc_none rfl ?_
 | exact each_nil
 | refine each_none rfl ?_ ?_
 | refine awc_leaf2 [some 17, some 18, some 19, some 20, some 21, some 22, some 23, some 24, some 25] cc_overdubkeep_Same_int_6 rfl (by kernel_rfl) (by kernel_rfl) ?_ ?_
 | (refine fun (hc : _ = _) => ?_; first | cases hc | ((try rw [hc]); (try simp only [stH] at hc); (try (exfalso; omega))); (try ((first | show Awl _ _ _ _ _ | show Awc _ _ _ _ _ _); simp only [stU])))
 | ((first | refine fun (K : V → List _ → _) hK => ?_ | refine fun (_ : V → V) => ?_ | refine fun (bb : Nat → Bool) K hK => ?_); simp (disch := omega) only [go_sem, Int.reduceEq, ↓reduceIte, reduceCtorEq, Nat.reduceEqDiff, Nat.reduceLT, Nat.reduceLeDiff, Nat.reduceAdd, Nat.reduceSub, Nat.reduceMul, Int.reduceToNat, Int.reduceLE, Int.reduceLT, E0, Sg3, St.updIf, ifc_nil, gt_ifc, go_ifc, ite_self, Option.none_or, Option.some_or]; (try (revert hK; intro hK; (repeat' first | (refine And.intro ?_ ?_) | (intro hc; first | cases hc | ((try rw [hc]); (try simp only [stH] at hc); (try (exfalso; omega))))); all_goals first | (refine hK _ _ ?_; clear hK K; simp only [stU]) | exact hK | omega)))
      (refine Ends.of (nm []) (by first | exact .inl rfl | exact .inr rfl) ?_; simp (disch := omega) only [go_sem, Int.reduceEq, ↓reduceIte, reduceCtorEq, Nat.reduceEqDiff, Nat.reduceLT, Nat.reduceLeDiff, Nat.reduceAdd, Nat.reduceSub, Nat.reduceMul, Int.reduceToNat, Int.reduceLE, Int.reduceLT, E0, hz])
theorem ent_overdubkeep_Same_int : Ent Try.prog 22 := ⟨_, Try.func22, rfl, by decide⟩
end Go.Proofs.Ytgijagbneapcfaa.Am
