import Derived.Test.YtgijagbneapcfaaZFA
section
set_option linter.unusedVariables false
set_option linter.unusedSimpArgs false
set_option maxRecDepth 10000
set_option maxHeartbeats 0
namespace Go.Proofs.Ytgijagbneapcfaa.Am
open Go Go.RowKit Go.Proofs
theorem getD_byt {l : List Int} (h : Byt l) (i : Nat) : 0 ≤ l.getD i 0 ∧ l.getD i 0 < 256 := by
  rw [List.getD_eq_getElem?_getD]
  by_cases hi : i < l.length
  · rw [List.getElem?_eq_getElem hi]; exact h _ (List.getElem_mem hi)
  · rw [List.getElem?_eq_none (by omega)]; exact ⟨by decide, by decide⟩
def getOut (l : List Int) : Out := if 7 < l.length then ⟨.tup [.d (.v (.int .i64 0)), .d (.v (.bool false))], []⟩ else ⟨.tup [.d (.v (.int .i64 (leV l))), .d (.v (.bool true))], []⟩
def Sp_field_Get (ds : List D) (out : Out) : Prop := ∃ l : List Int, ds = [.list (l.map mB)] ∧ Byt l ∧ l.length ≤ 9223372036854775807 ∧ out = getOut l
theorem good_field_Get : Good Try.prog 14 Sp_field_Get := by
  refine good_body (E := E0) (nt := 25) (rs := #[.tmp 2, .tmp 3]) Try.func14 rfl rfl rfl ?_
  rintro ds out ⟨l, rfl, hb, hl, rfl⟩
  refine ⟨by simp, ?_⟩
  by_cases h7 : 7 < l.length
  · rw [getOut, if_pos h7]
    repeat' first
 | refine AW.seq ?_
 | refine AW.block ?_
 | refine AW.regl E0_ok [0, 2, 3, 4, 5, 8, 13] ?_
 | refine then_n ?_
 | refine then_r ?_
 | refine then_x ?_
 | refine block_x ?_
 | refine block_o (by decide) ?_
 | refine block_n ?_
 | refine block_r ?_
 | refine AW.skip ?_
 | refine AW.ret ?_
 | refine AW.exit ?_
 | refine AW.cond rfl ?_ ?_
 | refine awl_none rfl ?_
 | refine awl_nil2 ?_
 | (refine fun (hc : _ = _) => ?_; first | cases hc | ((try rw [hc]); (try simp only [stH] at hc); (try (exfalso; omega))); (try (show Awl _ _ _ _ _; simp only [stU])))
 | ((first | refine fun (K : V → List _ → _) hK => ?_ | refine fun (_ : V → V) => ?_); simp (disch := omega) only [go_sem, Int.reduceEq, ↓reduceIte, reduceCtorEq, Nat.reduceEqDiff, Nat.reduceLT, Nat.reduceLeDiff, Nat.reduceAdd, Nat.reduceSub, Nat.reduceMul, Int.reduceToNat, Int.reduceLE, Int.reduceLT, E0]; (try (revert hK; intro hK; (repeat' first | (refine And.intro ?_ ?_) | (intro hc; first | cases hc | ((try rw [hc]); (try simp only [stH] at hc); (try (exfalso; omega))))); all_goals first | (refine hK _ _ ?_; clear hK K; simp only [stU]) | exact hK | omega)))
    (refine Ends.of (nm []) (by first | exact .inl rfl | exact .inr rfl) ?_; simp (disch := omega) only [go_sem, Int.reduceEq, ↓reduceIte, reduceCtorEq, Nat.reduceEqDiff, Nat.reduceLT, Nat.reduceLeDiff, Nat.reduceAdd, Nat.reduceSub, Nat.reduceMul, Int.reduceToNat, Int.reduceLE, Int.reduceLT, E0])
  · rw [getOut, if_neg h7]
    repeat' first
 | refine AW.seq ?_
 | refine AW.block ?_
 | refine AW.regl E0_ok [0, 2, 3, 4, 5, 8, 13] ?_
 | refine then_n ?_
 | refine then_r ?_
 | refine then_x ?_
 | refine block_x ?_
 | refine block_o (by decide) ?_
 | refine block_n ?_
 | refine block_r ?_
 | refine AW.skip ?_
 | refine AW.ret ?_
 | refine AW.exit ?_
 | refine AW.cond rfl ?_ ?_
 | refine awl_none rfl ?_
 | refine awl_nil2 ?_
 | (refine fun (hc : _ = _) => ?_; first | cases hc | ((try rw [hc]); (try simp only [stH] at hc); (try (exfalso; omega))); (try (show Awl _ _ _ _ _; simp only [stU])))
 | ((first | refine fun (K : V → List _ → _) hK => ?_ | refine fun (_ : V → V) => ?_); simp (disch := omega) only [go_sem, Int.reduceEq, ↓reduceIte, reduceCtorEq, Nat.reduceEqDiff, Nat.reduceLT, Nat.reduceLeDiff, Nat.reduceAdd, Nat.reduceSub, Nat.reduceMul, Int.reduceToNat, Int.reduceLE, Int.reduceLT, E0]; (try (revert hK; intro hK; (repeat' first | (refine And.intro ?_ ?_) | (intro hc; first | cases hc | ((try rw [hc]); (try simp only [stH] at hc); (try (exfalso; omega))))); all_goals first | (refine hK _ _ ?_; clear hK K; simp only [stU]) | exact hK | omega)))
    refine AW.loop_wk (fun k : Nat => ⟨[(0, .d (.list (l.map mB))), (4, .d (.v (.int .i64 (leV (l.drop k))))), (5, .d (.v (.int .i64 ((k : Int) - 1))))], [], 25⟩)
      (fun k => k ≤ l.length) (fun k => k) l.length (by omega) (fun w0 oa a w hs => Wk.sr (ρ := nm []) (Wk.of ?_) hs) ?_
    · simp (disch := omega) only [go_sem, Int.reduceEq, ↓reduceIte, reduceCtorEq, Nat.reduceEqDiff, Nat.reduceLT, Nat.reduceLeDiff, Nat.reduceAdd, Nat.reduceSub, Nat.reduceMul, Int.reduceToNat, Int.reduceLE, Int.reduceLT, E0, List.drop_length, leV]
    · intro k hk
      by_cases hk0 : 0 < k
      · obtain ⟨q, rfl⟩ : ∃ q, k = q + 1 := ⟨k - 1, by omega⟩
        have e1 := leV_drop_succ (l := l) (i := q) (by omega)
        have e2 := getD_byt hb q
        have e3 := leV_bound (byt_drop hb (q + 1))
        have e4 : (256 : Int) ^ (l.drop (q + 1)).length ≤ 256 ^ 6 := p256_mono (by rw [List.length_drop]; omega)
        have e5 : (256 : Int) ^ 6 = 281474976710656 := by decide
        have e6 : nth (l.map mB) q = .v (.int .u8 (l.getD q 0)) := nth_B l q (by omega)
        have e7 : (((q + 1 : Nat) : Int) - 1).toNat = q := by omega
        have e8 : ((q + 1 : Nat) : Int) - 1 = q := by omega
        generalize l.getD q 0 = x at *
        generalize leV (l.drop (q + 1)) = v at *
        have e9 : bits .or .i64 (v * 256) x = v * 256 + x := or256 (by omega) (by omega) (by omega) (by omega)
        rw [e8]
        repeat' first
 | refine AW.seq ?_
 | refine AW.block ?_
 | refine AW.regl E0_ok [0, 2, 3, 4, 5, 8, 13] ?_
 | refine then_n ?_
 | refine then_r ?_
 | refine then_x ?_
 | refine block_x ?_
 | refine block_o (by decide) ?_
 | refine block_n ?_
 | refine block_r ?_
 | refine AW.skip ?_
 | refine AW.ret ?_
 | refine AW.exit ?_
 | refine AW.cond rfl ?_ ?_
 | refine awl_none rfl ?_
 | refine awl_nil2 ?_
 | (refine fun (hc : _ = _) => ?_; first | cases hc | ((try rw [hc]); (try simp only [stH] at hc); (try (exfalso; omega))); (try (show Awl _ _ _ _ _; simp only [stU])))
 | ((first | refine fun (K : V → List _ → _) hK => ?_ | refine fun (_ : V → V) => ?_); simp (disch := omega) only [go_sem, Int.reduceEq, ↓reduceIte, reduceCtorEq, Nat.reduceEqDiff, Nat.reduceLT, Nat.reduceLeDiff, Nat.reduceAdd, Nat.reduceSub, Nat.reduceMul, Int.reduceToNat, Int.reduceLE, Int.reduceLT, E0, e6, e9, all_B, Int.reducePow]; (try (revert hK; intro hK; (repeat' first | (refine And.intro ?_ ?_) | (intro hc; first | cases hc | ((try rw [hc]); (try simp only [stH] at hc); (try (exfalso; omega))))); all_goals first | (refine hK _ _ ?_; clear hK K; simp only [stU]) | exact hK | omega)))
        have e10 : v * 256 + x = leV (l.drop q) := by rw [e1]; omega
        refine ⟨q, by omega, by omega, nm [], Wk.of ?_⟩
        simp (disch := omega) only [go_sem, Int.reduceEq, ↓reduceIte, reduceCtorEq, Nat.reduceEqDiff, Nat.reduceLT, Nat.reduceLeDiff, Nat.reduceAdd, Nat.reduceSub, Nat.reduceMul, Int.reduceToNat, Int.reduceLE, Int.reduceLT, E0, e10]
      · obtain rfl : k = 0 := by omega
        repeat' first
 | refine AW.seq ?_
 | refine AW.block ?_
 | refine AW.regl E0_ok [0, 2, 3, 4, 5, 8, 13] ?_
 | refine then_n ?_
 | refine then_r ?_
 | refine then_x ?_
 | refine block_x ?_
 | refine block_o (by decide) ?_
 | refine block_n ?_
 | refine block_r ?_
 | refine AW.skip ?_
 | refine AW.ret ?_
 | refine AW.exit ?_
 | refine AW.cond rfl ?_ ?_
 | refine awl_none rfl ?_
 | refine awl_nil2 ?_
 | (refine fun (hc : _ = _) => ?_; first | cases hc | ((try rw [hc]); (try simp only [stH] at hc); (try (exfalso; omega))); (try (show Awl _ _ _ _ _; simp only [stU])))
 | ((first | refine fun (K : V → List _ → _) hK => ?_ | refine fun (_ : V → V) => ?_); simp (disch := omega) only [go_sem, Int.reduceEq, ↓reduceIte, reduceCtorEq, Nat.reduceEqDiff, Nat.reduceLT, Nat.reduceLeDiff, Nat.reduceAdd, Nat.reduceSub, Nat.reduceMul, Int.reduceToNat, Int.reduceLE, Int.reduceLT, E0]; (try (revert hK; intro hK; (repeat' first | (refine And.intro ?_ ?_) | (intro hc; first | cases hc | ((try rw [hc]); (try simp only [stH] at hc); (try (exfalso; omega))))); all_goals first | (refine hK _ _ ?_; clear hK K; simp only [stU]) | exact hK | omega)))
        (refine Ends.of (nm []) (by first | exact .inl rfl | exact .inr rfl) ?_; simp (disch := omega) only [go_sem, Int.reduceEq, ↓reduceIte, reduceCtorEq, Nat.reduceEqDiff, Nat.reduceLT, Nat.reduceLeDiff, Nat.reduceAdd, Nat.reduceSub, Nat.reduceMul, Int.reduceToNat, Int.reduceLE, Int.reduceLT, E0, List.drop_zero])
theorem ent_field_Get : Ent Try.prog 14 := ⟨_, Try.func14, rfl, by decide⟩
end Go.Proofs.Ytgijagbneapcfaa.Am
end
section
set_option linter.unusedVariables false
set_option linter.unusedSimpArgs false
set_option maxRecDepth 10000
set_option maxHeartbeats 0
namespace Go.Proofs.Ytgijagbneapcfaa.Am
open Go Go.RowKit Go.Proofs
noncomputable def G1 : Env := ⟨Try.prog, fun f ds out => (f = 14 ∧ Sp_field_Get ds out), Es, fun _ => false, fun f vs lent out => False, fun f => none, fun f => false, false⟩
theorem G1_sp : ∀ f ds out, G1.Sp f ds out → Ent G1.P f ∧ Good G1.P f (fun a b => a = ds ∧ b = out) := by
  rintro f ds out ⟨rfl, h⟩
  exact ⟨ent_field_Get, good_field_Get.one h⟩
theorem G1_sm : ∀ f vs lent out, G1.Sm f vs lent out → Ent G1.P f ∧ GoodM G1.P f (fun a l b => a = vs ∧ l = lent ∧ b = out) := fun _ _ _ _ h => h.elim
theorem G1_ok : G1.Ok := ⟨G1_sp, Es_ok, G1_sm⟩
theorem take_mB (l : List Int) (n : Nat) : (l.map mB).take n = (l.take n).map mB := List.map_take.symm
theorem drop_mB (l : List Int) (n : Nat) : (l.map mB).drop n = (l.drop n).map mB := List.map_drop.symm
theorem snoc_I (l : List Int) (x : Int) : l.map mI ++ [D.v (.int .i64 x)] = (l ++ [x]).map mI := by simp [mI]
def takeOut (l ws : List Int) : Out := match takeL l ws with
  | none => ⟨.tup [.nil, .d (.v (.bool false))], []⟩
  | some r => ⟨.tup [.sl 0 1 0 r.length true, .d (.v (.bool true))], [(0, .row 3 1 (r.map mI))]⟩
def Sp_field_Take (ds : List D) (out : Out) : Prop := ∃ l ws : List Int, ds = [.list (l.map mB), .list (ws.map mI)] ∧ Byt l ∧ l.length ≤ 9223372036854775807 ∧ ws.length ≤ 1000000000000 ∧ out = takeOut l ws
def bb_field_Take_8 : List Nat := [0, 0, 2, 7, 0, 0, 48, 15, 255]
def cc_field_Take_8 : List (List (Option Bool)) := [[some false, none, none, some false, none, none, none, some false, some false], [none, some false, some false, some false, none, none, none, some false, some false], [none, some true, some false, some false, none, none, none, some false, some false], [some true, some true, some true, some false, none, none, none, some false, some false], [none, none, none, none, some false, none, some false, none, some false], [none, none, none, none, none, some false, some false, none, some false], [none, none, none, none, some true, some true, some false, none, some false], [some true, some true, some true, some true, none, none, none, some false, some false], [some true, some true, some true, some true, some true, some true, some true, some true, some false]]
theorem good_field_Take : Good Try.prog 18 Sp_field_Take := by
  refine good_body (E := G1) (nt := 45) (rs := #[.tmp 4, .tmp 5]) Try.func18 rfl rfl rfl ?_
  rintro ds out ⟨l, ws, rfl, hb, hl, hw, rfl⟩
  refine ⟨by simp, ?_⟩
  repeat' first
 | refine AW.seq ?_
 | refine AW.block ?_
 | refine AW.regl G1_ok [0, 1, 4, 5, 6, 8, 9, 11, 12, 13, 14, 28] ?_
 | (refine AW.regc (id := 8) G1_ok follows bb_field_Take_8 (by kernel_rfl) [0, 1, 4, 5, 6, 8, 9, 11, 12, 13, 14, 28] ?_)
 | refine then_n ?_
 | refine then_r ?_
 | refine then_x ?_
 | refine block_x ?_
 | refine block_o (by decide) ?_
 | refine block_n ?_
 | refine block_r ?_
 | refine AW.skip ?_
 | refine AW.ret ?_
 | refine AW.exit ?_
 | refine AW.cond rfl ?_ ?_
 | refine awl_none rfl ?_
 | refine awl_nil2 ?_
 | refine awl_some rfl rfl (Nat.le_of_ble_eq_true rfl) rfl rfl ?_ ?_
 | refine awc_none rfl ?_
 | exact each_nil
 | refine each_none rfl ?_ ?_
 | refine awc_leaf2 [some 36, some 37, some 38, some 39, some 40, some 41, some 42, some 6, some 0] cc_field_Take_8 rfl (by kernel_rfl) (by kernel_rfl) ?_ ?_
 | (refine fun (hc : _ = _) => ?_; first | cases hc | ((try rw [hc]); (try simp only [stH] at hc); (try (exfalso; omega))); (try ((first | show Awl _ _ _ _ _ | show Awc _ _ _ _ _ _); simp only [stU])))
 | ((first | refine fun (K : V → List _ → _) hK => ?_ | refine fun (_ : V → V) => ?_ | refine fun (bb : Nat → Bool) K hK => ?_); simp (disch := omega) only [go_sem, Int.reduceEq, ↓reduceIte, reduceCtorEq, Nat.reduceEqDiff, Nat.reduceLT, Nat.reduceLeDiff, Nat.reduceAdd, Nat.reduceSub, Nat.reduceMul, Int.reduceToNat, Int.reduceLE, Int.reduceLT, G1, Sp_field_Get, Sg3, St.updIf, ifc_nil, gt_ifc, go_ifc, ite_self, Option.none_or, Option.some_or]; (try (revert hK; intro hK; (repeat' first | (refine And.intro ?_ ?_) | (intro hc; first | cases hc | ((try rw [hc]); (try simp only [stH] at hc); (try (exfalso; omega))))); all_goals first | (refine hK _ _ ?_; clear hK K; simp only [stU]) | exact hK | omega)))
  refine AW.loop_wk (fun p : Nat × List Int × List Int => ⟨[(0, .d (.list (p.2.1.map mB))), (6, .sl 100 1 0 p.2.2.length true), (11, .d (.list (ws.map mI))), (12, .d (.v (.int .i64 ws.length))), (13, .d (.v (.int .i64 p.1)))], [(100, .row 3 1 (p.2.2.map mI))], 45⟩)
    (fun p => p.1 ≤ ws.length ∧ Byt p.2.1 ∧ p.2.1.length ≤ l.length ∧ p.2.2.length = p.1 ∧ takeL l ws = (takeL p.2.1 (ws.drop p.1)).map (p.2.2 ++ ·)) (fun p => ws.length - p.1) (0, l, []) ⟨by omega, hb, Nat.le_refl _, rfl, by simp⟩ (fun w0 oa a w hs => Wk.sr (ρ := nm []) (Wk.of ?_) (nil_sr 6 100 3 1 rfl (by simp) rfl (by decide) hs)) ?_
  · simp (disch := omega) only [go_sem, Int.reduceEq, ↓reduceIte, reduceCtorEq, Nat.reduceEqDiff, Nat.reduceLT, Nat.reduceLeDiff, Nat.reduceAdd, Nat.reduceSub, Nat.reduceMul, Int.reduceToNat, Int.reduceLE, Int.reduceLT, G1, Sp_field_Get]
  · rintro ⟨k, m, r⟩ ⟨hk, hm, hml, hr, hv⟩
    simp only at hk hm hml hr hv
    by_cases hk1 : k < ws.length
    · have e1 : ws.drop k = ws.getD k 0 :: ws.drop (k + 1) := by rw [List.drop_eq_getElem_cons hk1]; simp [List.getD_eq_getElem?_getD, hk1]
      have e2 : nth (ws.map mI) k = .v (.int .i64 (ws.getD k 0)) := nth_I ws k hk1
      rw [e1] at hv
      generalize ws.getD k 0 = w at *
      have hbt : Byt (m.take w.toNat) = True := by simp only [eq_iff_iff, iff_true]; exact byt_take hm _
      by_cases hc : w < 0 ∨ 7 < w ∨ (m.length : Int) < w
      · rw [takeL, if_pos hc, Option.map_none] at hv
        rw [takeOut, hv]
        repeat' first
 | refine AW.seq ?_
 | refine AW.block ?_
 | refine AW.regl G1_ok [0, 1, 4, 5, 6, 8, 9, 11, 12, 13, 14, 28] ?_
 | (refine AW.regc (id := 8) G1_ok follows bb_field_Take_8 (by kernel_rfl) [0, 1, 4, 5, 6, 8, 9, 11, 12, 13, 14, 28] ?_)
 | refine then_n ?_
 | refine then_r ?_
 | refine then_x ?_
 | refine block_x ?_
 | refine block_o (by decide) ?_
 | refine block_n ?_
 | refine block_r ?_
 | refine AW.skip ?_
 | refine AW.ret ?_
 | refine AW.exit ?_
 | refine AW.cond rfl ?_ ?_
 | refine awl_none rfl ?_
 | refine awl_nil2 ?_
 | refine awl_some rfl rfl (Nat.le_of_ble_eq_true rfl) rfl rfl ?_ ?_
 | refine awc_none rfl ?_
 | exact each_nil
 | refine each_none rfl ?_ ?_
 | refine awc_leaf2 [some 36, some 37, some 38, some 39, some 40, some 41, some 42, some 6, some 0] cc_field_Take_8 rfl (by kernel_rfl) (by kernel_rfl) ?_ ?_
 | (refine fun (hc : _ = _) => ?_; first | cases hc | ((try rw [hc]); (try simp only [stH] at hc); (try (exfalso; omega))); (try ((first | show Awl _ _ _ _ _ | show Awc _ _ _ _ _ _); simp only [stU])))
 | ((first | refine fun (K : V → List _ → _) hK => ?_ | refine fun (_ : V → V) => ?_ | refine fun (bb : Nat → Bool) K hK => ?_); simp (disch := omega) only [go_sem, Int.reduceEq, ↓reduceIte, reduceCtorEq, Nat.reduceEqDiff, Nat.reduceLT, Nat.reduceLeDiff, Nat.reduceAdd, Nat.reduceSub, Nat.reduceMul, Int.reduceToNat, Int.reduceLE, Int.reduceLT, G1, Sp_field_Get, e2, all_I, Sg3, St.updIf, ifc_nil, gt_ifc, go_ifc, ite_self, Option.none_or, Option.some_or]; (try (revert hK; intro hK; (repeat' first | (refine And.intro ?_ ?_) | (intro hc; first | cases hc | ((try rw [hc]); (try simp only [stH] at hc); (try (exfalso; omega))))); all_goals first | (refine hK _ _ ?_; clear hK K; simp only [stU]) | exact hK | omega)))
        all_goals (refine Ends.of (nm []) (by first | exact .inl rfl | exact .inr rfl) ?_; simp (disch := omega) only [go_sem, Int.reduceEq, ↓reduceIte, reduceCtorEq, Nat.reduceEqDiff, Nat.reduceLT, Nat.reduceLeDiff, Nat.reduceAdd, Nat.reduceSub, Nat.reduceMul, Int.reduceToNat, Int.reduceLE, Int.reduceLT, G1, Sp_field_Get])
      · have hg : getOut (m.take w.toNat) = ⟨.tup [.d (.v (.int .i64 (leV (m.take w.toNat)))), .d (.v (.bool true))], []⟩ := by rw [getOut, if_neg (by rw [List.length_take]; omega)]
        have hlt : (m.take w.toNat).length ≤ 7 := by rw [List.length_take]; omega
        rw [takeL, if_neg hc] at hv
        repeat' first
 | refine AW.seq ?_
 | refine AW.block ?_
 | refine AW.regl G1_ok [0, 1, 4, 5, 6, 8, 9, 11, 12, 13, 14, 28] ?_
 | (refine AW.regc (id := 8) G1_ok follows bb_field_Take_8 (by kernel_rfl) [0, 1, 4, 5, 6, 8, 9, 11, 12, 13, 14, 28] ?_)
 | refine then_n ?_
 | refine then_r ?_
 | refine then_x ?_
 | refine block_x ?_
 | refine block_o (by decide) ?_
 | refine block_n ?_
 | refine block_r ?_
 | refine AW.skip ?_
 | refine AW.ret ?_
 | refine AW.exit ?_
 | refine AW.cond rfl ?_ ?_
 | refine awl_none rfl ?_
 | refine awl_nil2 ?_
 | refine awl_some rfl rfl (Nat.le_of_ble_eq_true rfl) rfl rfl ?_ ?_
 | refine awc_none rfl ?_
 | exact each_nil
 | refine each_none rfl ?_ ?_
 | refine awc_leaf2 [some 36, some 37, some 38, some 39, some 40, some 41, some 42, some 6, some 0] cc_field_Take_8 rfl (by kernel_rfl) (by kernel_rfl) ?_ ?_
 | (refine fun (hc : _ = _) => ?_; first | cases hc | ((try rw [hc]); (try simp only [stH] at hc); (try (exfalso; omega))); (try ((first | show Awl _ _ _ _ _ | show Awc _ _ _ _ _ _); simp only [stU])))
 | ((first | refine fun (K : V → List _ → _) hK => ?_ | refine fun (_ : V → V) => ?_ | refine fun (bb : Nat → Bool) K hK => ?_); simp (disch := omega) only [go_sem, Int.reduceEq, ↓reduceIte, reduceCtorEq, Nat.reduceEqDiff, Nat.reduceLT, Nat.reduceLeDiff, Nat.reduceAdd, Nat.reduceSub, Nat.reduceMul, Int.reduceToNat, Int.reduceLE, Int.reduceLT, G1, Sp_field_Get, e2, all_I, all_B, hbt, hg, take_mB, drop_mB, mB_inj, snoc_I, List.take_length, Sg3, St.updIf, ifc_nil, gt_ifc, go_ifc, ite_self, Option.none_or, Option.some_or]; (try (revert hK; intro hK; (repeat' first | (refine And.intro ?_ ?_) | (intro hc; first | cases hc | ((try rw [hc]); (try simp only [stH] at hc); (try (exfalso; omega))))); all_goals first | (refine hK _ _ ?_; clear hK K; simp only [stU]) | exact hK | omega)))
        have hd : (m.drop w.toNat).length ≤ l.length := by rw [List.length_drop]; omega
        have hrl : (r ++ [leV (m.take w.toNat)]).length = k + 1 := by simp [hr]
        refine ⟨(k + 1, m.drop w.toNat, r ++ [leV (m.take w.toNat)]), by dsimp only; omega, byt_drop hm _, hd, hrl, ?_, by dsimp only; omega, nm [(100, 39)], Wk.of ?_⟩
        · dsimp only
          rw [hv, Option.map_map]
          congr 1
          funext x
          simp
        · simp (disch := omega) only [go_sem, Int.reduceEq, ↓reduceIte, reduceCtorEq, Nat.reduceEqDiff, Nat.reduceLT, Nat.reduceLeDiff, Nat.reduceAdd, Nat.reduceSub, Nat.reduceMul, Int.reduceToNat, Int.reduceLE, Int.reduceLT, G1, Sp_field_Get]
          rfl
    · obtain rfl : k = ws.length := by omega
      have hz : takeL l ws = some r := by rw [hv, List.drop_length, takeL]; simp
      rw [takeOut, hz]
      repeat' first
 | refine AW.seq ?_
 | refine AW.block ?_
 | refine AW.regl G1_ok [0, 1, 4, 5, 6, 8, 9, 11, 12, 13, 14, 28] ?_
 | (refine AW.regc (id := 8) G1_ok follows bb_field_Take_8 (by kernel_rfl) [0, 1, 4, 5, 6, 8, 9, 11, 12, 13, 14, 28] ?_)
 | refine then_n ?_
 | refine then_r ?_
 | refine then_x ?_
 | refine block_x ?_
 | refine block_o (by decide) ?_
 | refine block_n ?_
 | refine block_r ?_
 | refine AW.skip ?_
 | refine AW.ret ?_
 | refine AW.exit ?_
 | refine AW.cond rfl ?_ ?_
 | refine awl_none rfl ?_
 | refine awl_nil2 ?_
 | refine awl_some rfl rfl (Nat.le_of_ble_eq_true rfl) rfl rfl ?_ ?_
 | refine awc_none rfl ?_
 | exact each_nil
 | refine each_none rfl ?_ ?_
 | refine awc_leaf2 [some 36, some 37, some 38, some 39, some 40, some 41, some 42, some 6, some 0] cc_field_Take_8 rfl (by kernel_rfl) (by kernel_rfl) ?_ ?_
 | (refine fun (hc : _ = _) => ?_; first | cases hc | ((try rw [hc]); (try simp only [stH] at hc); (try (exfalso; omega))); (try ((first | show Awl _ _ _ _ _ | show Awc _ _ _ _ _ _); simp only [stU])))
 | ((first | refine fun (K : V → List _ → _) hK => ?_ | refine fun (_ : V → V) => ?_ | refine fun (bb : Nat → Bool) K hK => ?_); simp (disch := omega) only [go_sem, Int.reduceEq, ↓reduceIte, reduceCtorEq, Nat.reduceEqDiff, Nat.reduceLT, Nat.reduceLeDiff, Nat.reduceAdd, Nat.reduceSub, Nat.reduceMul, Int.reduceToNat, Int.reduceLE, Int.reduceLT, G1, Sp_field_Get, Sg3, St.updIf, ifc_nil, gt_ifc, go_ifc, ite_self, Option.none_or, Option.some_or]; (try (revert hK; intro hK; (repeat' first | (refine And.intro ?_ ?_) | (intro hc; first | cases hc | ((try rw [hc]); (try simp only [stH] at hc); (try (exfalso; omega))))); all_goals first | (refine hK _ _ ?_; clear hK K; simp only [stU]) | exact hK | omega)))
      all_goals (refine Ends.of (nm [(0, 100)]) (by first | exact .inl rfl | exact .inr rfl) ?_; simp (disch := omega) only [go_sem, Int.reduceEq, ↓reduceIte, reduceCtorEq, Nat.reduceEqDiff, Nat.reduceLT, Nat.reduceLeDiff, Nat.reduceAdd, Nat.reduceSub, Nat.reduceMul, Int.reduceToNat, Int.reduceLE, Int.reduceLT, G1, Sp_field_Get])
theorem ent_field_Take : Ent Try.prog 18 := ⟨_, Try.func18, rfl, by decide⟩
end Go.Proofs.Ytgijagbneapcfaa.Am
end
