import Derived.Test.YtgijagbneapcfaaZGA
set_option linter.unusedVariables false
set_option linter.unusedSimpArgs false
set_option maxRecDepth 10000
set_option maxHeartbeats 0
namespace Go.Proofs.Ytgijagbneapcfaa.Am
open Go Go.RowKit Go.Proofs
theorem tmod_nn {a b : Int} (h : 0 ≤ a) : a.tmod b = a % b := Int.tmod_eq_emod_of_nonneg h
theorem tdiv_nn {a b : Int} (h : 0 ≤ a) : a.tdiv b = a / b := Int.tdiv_eq_ediv_of_nonneg h
theorem mod2 (x : Int) : x % 256 % 256 = x % 256 := Int.emod_emod_of_dvd x (Int.dvd_refl 256)
theorem div256 (n : Int) (k : Nat) : n / 256 ^ k / 256 = n / 256 ^ (k + 1) := shr8 n k
theorem quo_rng {n : Int} (h0 : 0 ≤ n) (k : Nat) : 0 ≤ n / 256 ^ k ∧ n / 256 ^ k ≤ n := by
  have hp := p256_pos k
  exact ⟨Int.ediv_nonneg h0 (by omega), Int.ediv_le_self _ h0⟩
def Sp_overdubref01_Put (ds : List D) (out : Out) : Prop := ∃ n w : Int, ds = [.v (.int .i64 n), .v (.int .i64 w)] ∧ n < 9223372036854775808 ∧ out = ⟨.sl 0 1 0 (wd w) true, [(0, .row 5 1 ((putB (max 0 n) (wd w)).map mB))]⟩
theorem good_overdubref01_Put : Good Try.prog 17 Sp_overdubref01_Put := by
  refine good_body (E := E0) (nt := 29) (rs := #[.tmp 4]) Try.func17 rfl rfl rfl ?_
  rintro ds out ⟨n, w, rfl, hn, rfl⟩
  refine ⟨by simp, ?_⟩
  have hwd : ((wd w : Nat) : Int) = min (max w 0) 8 := by unfold wd; omega
  have hw0 : (min (max w 0) 8).toNat = wd w := by unfold wd; omega
  have hmx : max n 0 = max 0 n := by omega
  repeat' first
 | refine AW.seq ?_
 | refine AW.block ?_
 | refine AW.regl E0_ok [0, 1, 4, 5, 6, 15, 16, 17] ?_
 | refine then_n ?_
 | refine then_r ?_
 | refine then_x ?_
 | refine block_x ?_
 | refine block_o (by decide) ?_
 | refine block_n ?_
 | refine block_r ?_
 | refine AW.skip ?_
 | refine AW.ret ?_
 | refine AW.exit ?_
 | refine AW.cond rfl ?_ ?_
 | refine awl_none rfl ?_
 | refine awl_nil2 ?_
 | (refine fun (hc : _ = _) => ?_; first | cases hc | ((try rw [hc]); (try simp only [stH] at hc); (try (exfalso; omega))); (try (show Awl _ _ _ _ _; simp only [stU])))
 | ((first | refine fun (K : V → List _ → _) hK => ?_ | refine fun (_ : V → V) => ?_); simp (disch := omega) only [go_sem, Int.reduceEq, ↓reduceIte, reduceCtorEq, Nat.reduceEqDiff, Nat.reduceLT, Nat.reduceLeDiff, Nat.reduceAdd, Nat.reduceSub, Nat.reduceMul, Int.reduceToNat, Int.reduceLE, Int.reduceLT, E0, hw0, hmx]; (try (revert hK; intro hK; (repeat' first | (refine And.intro ?_ ?_) | (intro hc; first | cases hc | ((try rw [hc]); (try simp only [stH] at hc); (try (exfalso; omega))))); all_goals first | (refine hK _ _ ?_; clear hK K; simp only [stU]) | exact hK | omega)))
  refine AW.loop_wk (fun k : Nat => ⟨[(0, .d (.v (.int .i64 (max 0 n / 256 ^ k)))), (5, .sl 13 1 0 (wd w) true), (15, .d (.v (.int .i64 (wd w)))), (16, .d (.v (.int .i64 k)))], [(13, .row 5 1 ((putK (max 0 n) (wd w) k).map mB))], 29⟩)
    (fun k => k ≤ wd w) (fun k => wd w - k) 0 (by omega) (fun w0 oa a w hs => Wk.sr (ρ := nm []) (Wk.of ?_) hs) ?_
  · simp (disch := omega) only [go_sem, Int.reduceEq, ↓reduceIte, reduceCtorEq, Nat.reduceEqDiff, Nat.reduceLT, Nat.reduceLeDiff, Nat.reduceAdd, Nat.reduceSub, Nat.reduceMul, Int.reduceToNat, Int.reduceLE, Int.reduceLT, E0, repl_B, putK_zero, Int.pow_zero, Int.ediv_one]
    first | exact ⟨rfl, by rw [putK_zero]⟩ | rw [putK_zero]
  · intro k hk
    have hl := putK_len (max 0 n) (wd w) k
    have hr := quo_rng (show 0 ≤ max 0 n by omega) k
    have hst := putK_set (max 0 n) (wd w) k
    have hdv := div256 (max 0 n) k
    generalize max 0 n / 256 ^ k = x at *
    repeat' first
 | refine AW.seq ?_
 | refine AW.block ?_
 | refine AW.regl E0_ok [0, 1, 4, 5, 6, 15, 16, 17] ?_
 | refine then_n ?_
 | refine then_r ?_
 | refine then_x ?_
 | refine block_x ?_
 | refine block_o (by decide) ?_
 | refine block_n ?_
 | refine block_r ?_
 | refine AW.skip ?_
 | refine AW.ret ?_
 | refine AW.exit ?_
 | refine AW.cond rfl ?_ ?_
 | refine awl_none rfl ?_
 | refine awl_nil2 ?_
 | (refine fun (hc : _ = _) => ?_; first | cases hc | ((try rw [hc]); (try simp only [stH] at hc); (try (exfalso; omega))); (try (show Awl _ _ _ _ _; simp only [stU])))
 | ((first | refine fun (K : V → List _ → _) hK => ?_ | refine fun (_ : V → V) => ?_); simp (disch := omega) only [go_sem, Int.reduceEq, ↓reduceIte, reduceCtorEq, Nat.reduceEqDiff, Nat.reduceLT, Nat.reduceLeDiff, Nat.reduceAdd, Nat.reduceSub, Nat.reduceMul, Int.reduceToNat, Int.reduceLE, Int.reduceLT, E0, wrap_u8, putK_len, hst, tmod_nn, tdiv_nn, mod2]; (try (revert hK; intro hK; (repeat' first | (refine And.intro ?_ ?_) | (intro hc; first | cases hc | ((try rw [hc]); (try simp only [stH] at hc); (try (exfalso; omega))))); all_goals first | (refine hK _ _ ?_; clear hK K; simp only [stU]) | exact hK | omega)))
    · refine ⟨k + 1, by omega, by omega, nm [], Wk.of ?_⟩
      simp (disch := omega) only [go_sem, Int.reduceEq, ↓reduceIte, reduceCtorEq, Nat.reduceEqDiff, Nat.reduceLT, Nat.reduceLeDiff, Nat.reduceAdd, Nat.reduceSub, Nat.reduceMul, Int.reduceToNat, Int.reduceLE, Int.reduceLT, E0]
      first | exact ⟨by rw [hdv], rfl⟩ | rfl
    · obtain rfl : k = wd w := by omega
      (refine Ends.of (nm [(0, 13)]) (by first | exact .inl rfl | exact .inr rfl) ?_; simp (disch := omega) only [go_sem, Int.reduceEq, ↓reduceIte, reduceCtorEq, Nat.reduceEqDiff, Nat.reduceLT, Nat.reduceLeDiff, Nat.reduceAdd, Nat.reduceSub, Nat.reduceMul, Int.reduceToNat, Int.reduceLE, Int.reduceLT, E0, putK_all])
theorem ent_overdubref01_Put : Ent Try.prog 17 := ⟨_, Try.func17, rfl, by decide⟩
def Sp_overdubref01_Get (ds : List D) (out : Out) : Prop := ∃ l : List Int, ds = [.list (l.map mB)] ∧ Byt l ∧ l.length ≤ 9223372036854775807 ∧ out = getOut l
theorem good_overdubref01_Get : Good Try.prog 16 Sp_overdubref01_Get := by
  refine good_body (E := E0) (nt := 25) (rs := #[.tmp 2, .tmp 3]) Try.func16 rfl rfl rfl ?_
  rintro ds out ⟨l, rfl, hb, hl, rfl⟩
  refine ⟨by simp, ?_⟩
  by_cases h7 : 7 < l.length
  · rw [getOut, if_pos h7]
    repeat' first
 | refine AW.seq ?_
 | refine AW.block ?_
 | refine AW.regl E0_ok [0, 2, 3, 4, 5, 8, 13] ?_
 | refine then_n ?_
 | refine then_r ?_
 | refine then_x ?_
 | refine block_x ?_
 | refine block_o (by decide) ?_
 | refine block_n ?_
 | refine block_r ?_
 | refine AW.skip ?_
 | refine AW.ret ?_
 | refine AW.exit ?_
 | refine AW.cond rfl ?_ ?_
 | refine awl_none rfl ?_
 | refine awl_nil2 ?_
 | (refine fun (hc : _ = _) => ?_; first | cases hc | ((try rw [hc]); (try simp only [stH] at hc); (try (exfalso; omega))); (try (show Awl _ _ _ _ _; simp only [stU])))
 | ((first | refine fun (K : V → List _ → _) hK => ?_ | refine fun (_ : V → V) => ?_); simp (disch := omega) only [go_sem, Int.reduceEq, ↓reduceIte, reduceCtorEq, Nat.reduceEqDiff, Nat.reduceLT, Nat.reduceLeDiff, Nat.reduceAdd, Nat.reduceSub, Nat.reduceMul, Int.reduceToNat, Int.reduceLE, Int.reduceLT, E0]; (try (revert hK; intro hK; (repeat' first | (refine And.intro ?_ ?_) | (intro hc; first | cases hc | ((try rw [hc]); (try simp only [stH] at hc); (try (exfalso; omega))))); all_goals first | (refine hK _ _ ?_; clear hK K; simp only [stU]) | exact hK | omega)))
    (refine Ends.of (nm []) (by first | exact .inl rfl | exact .inr rfl) ?_; simp (disch := omega) only [go_sem, Int.reduceEq, ↓reduceIte, reduceCtorEq, Nat.reduceEqDiff, Nat.reduceLT, Nat.reduceLeDiff, Nat.reduceAdd, Nat.reduceSub, Nat.reduceMul, Int.reduceToNat, Int.reduceLE, Int.reduceLT, E0])
  · rw [getOut, if_neg h7]
    repeat' first
 | refine AW.seq ?_
 | refine AW.block ?_
 | refine AW.regl E0_ok [0, 2, 3, 4, 5, 8, 13] ?_
 | refine then_n ?_
 | refine then_r ?_
 | refine then_x ?_
 | refine block_x ?_
 | refine block_o (by decide) ?_
 | refine block_n ?_
 | refine block_r ?_
 | refine AW.skip ?_
 | refine AW.ret ?_
 | refine AW.exit ?_
 | refine AW.cond rfl ?_ ?_
 | refine awl_none rfl ?_
 | refine awl_nil2 ?_
 | (refine fun (hc : _ = _) => ?_; first | cases hc | ((try rw [hc]); (try simp only [stH] at hc); (try (exfalso; omega))); (try (show Awl _ _ _ _ _; simp only [stU])))
 | ((first | refine fun (K : V → List _ → _) hK => ?_ | refine fun (_ : V → V) => ?_); simp (disch := omega) only [go_sem, Int.reduceEq, ↓reduceIte, reduceCtorEq, Nat.reduceEqDiff, Nat.reduceLT, Nat.reduceLeDiff, Nat.reduceAdd, Nat.reduceSub, Nat.reduceMul, Int.reduceToNat, Int.reduceLE, Int.reduceLT, E0]; (try (revert hK; intro hK; (repeat' first | (refine And.intro ?_ ?_) | (intro hc; first | cases hc | ((try rw [hc]); (try simp only [stH] at hc); (try (exfalso; omega))))); all_goals first | (refine hK _ _ ?_; clear hK K; simp only [stU]) | exact hK | omega)))
    refine AW.loop_wk (fun k : Nat => ⟨[(0, .d (.list (l.map mB))), (4, .d (.v (.int .i64 (leV (l.drop k))))), (5, .d (.v (.int .i64 ((k : Int) - 1))))], [], 25⟩)
      (fun k => k ≤ l.length) (fun k => k) l.length (by omega) (fun w0 oa a w hs => Wk.sr (ρ := nm []) (Wk.of ?_) hs) ?_
    · simp (disch := omega) only [go_sem, Int.reduceEq, ↓reduceIte, reduceCtorEq, Nat.reduceEqDiff, Nat.reduceLT, Nat.reduceLeDiff, Nat.reduceAdd, Nat.reduceSub, Nat.reduceMul, Int.reduceToNat, Int.reduceLE, Int.reduceLT, E0, List.drop_length, leV]
    · intro k hk
      by_cases hk0 : 0 < k
      · obtain ⟨q, rfl⟩ : ∃ q, k = q + 1 := ⟨k - 1, by omega⟩
        have e1 := leV_drop_succ (l := l) (i := q) (by omega)
        have e2 := getD_byt hb q
        have e3 := leV_bound (byt_drop hb (q + 1))
        have e4 : (256 : Int) ^ (l.drop (q + 1)).length ≤ 256 ^ 6 := p256_mono (by rw [List.length_drop]; omega)
        have e5 : (256 : Int) ^ 6 = 281474976710656 := by decide
        have e6 : nth (l.map mB) q = .v (.int .u8 (l.getD q 0)) := nth_B l q (by omega)
        have e7 : (((q + 1 : Nat) : Int) - 1).toNat = q := by omega
        have e8 : ((q + 1 : Nat) : Int) - 1 = q := by omega
        generalize l.getD q 0 = x at *
        generalize leV (l.drop (q + 1)) = v at *
        rw [e8]
        repeat' first
 | refine AW.seq ?_
 | refine AW.block ?_
 | refine AW.regl E0_ok [0, 2, 3, 4, 5, 8, 13] ?_
 | refine then_n ?_
 | refine then_r ?_
 | refine then_x ?_
 | refine block_x ?_
 | refine block_o (by decide) ?_
 | refine block_n ?_
 | refine block_r ?_
 | refine AW.skip ?_
 | refine AW.ret ?_
 | refine AW.exit ?_
 | refine AW.cond rfl ?_ ?_
 | refine awl_none rfl ?_
 | refine awl_nil2 ?_
 | (refine fun (hc : _ = _) => ?_; first | cases hc | ((try rw [hc]); (try simp only [stH] at hc); (try (exfalso; omega))); (try (show Awl _ _ _ _ _; simp only [stU])))
 | ((first | refine fun (K : V → List _ → _) hK => ?_ | refine fun (_ : V → V) => ?_); simp (disch := omega) only [go_sem, Int.reduceEq, ↓reduceIte, reduceCtorEq, Nat.reduceEqDiff, Nat.reduceLT, Nat.reduceLeDiff, Nat.reduceAdd, Nat.reduceSub, Nat.reduceMul, Int.reduceToNat, Int.reduceLE, Int.reduceLT, E0, e6, all_B, Int.reducePow]; (try (revert hK; intro hK; (repeat' first | (refine And.intro ?_ ?_) | (intro hc; first | cases hc | ((try rw [hc]); (try simp only [stH] at hc); (try (exfalso; omega))))); all_goals first | (refine hK _ _ ?_; clear hK K; simp only [stU]) | exact hK | omega)))
        have e10 : 256 * v + x = leV (l.drop q) := by rw [e1]; omega
        refine ⟨q, by omega, by omega, nm [], Wk.of ?_⟩
        simp (disch := omega) only [go_sem, Int.reduceEq, ↓reduceIte, reduceCtorEq, Nat.reduceEqDiff, Nat.reduceLT, Nat.reduceLeDiff, Nat.reduceAdd, Nat.reduceSub, Nat.reduceMul, Int.reduceToNat, Int.reduceLE, Int.reduceLT, E0, e10]
      · obtain rfl : k = 0 := by omega
        repeat' first
 | refine AW.seq ?_
 | refine AW.block ?_
 | refine AW.regl E0_ok [0, 2, 3, 4, 5, 8, 13] ?_
 | refine then_n ?_
 | refine then_r ?_
 | refine then_x ?_
 | refine block_x ?_
 | refine block_o (by decide) ?_
 | refine block_n ?_
 | refine block_r ?_
 | refine AW.skip ?_
 | refine AW.ret ?_
 | refine AW.exit ?_
 | refine AW.cond rfl ?_ ?_
 | refine awl_none rfl ?_
 | refine awl_nil2 ?_
 | (refine fun (hc : _ = _) => ?_; first | cases hc | ((try rw [hc]); (try simp only [stH] at hc); (try (exfalso; omega))); (try (show Awl _ _ _ _ _; simp only [stU])))
 | ((first | refine fun (K : V → List _ → _) hK => ?_ | refine fun (_ : V → V) => ?_); simp (disch := omega) only [go_sem, Int.reduceEq, ↓reduceIte, reduceCtorEq, Nat.reduceEqDiff, Nat.reduceLT, Nat.reduceLeDiff, Nat.reduceAdd, Nat.reduceSub, Nat.reduceMul, Int.reduceToNat, Int.reduceLE, Int.reduceLT, E0]; (try (revert hK; intro hK; (repeat' first | (refine And.intro ?_ ?_) | (intro hc; first | cases hc | ((try rw [hc]); (try simp only [stH] at hc); (try (exfalso; omega))))); all_goals first | (refine hK _ _ ?_; clear hK K; simp only [stU]) | exact hK | omega)))
        (refine Ends.of (nm []) (by first | exact .inl rfl | exact .inr rfl) ?_; simp (disch := omega) only [go_sem, Int.reduceEq, ↓reduceIte, reduceCtorEq, Nat.reduceEqDiff, Nat.reduceLT, Nat.reduceLeDiff, Nat.reduceAdd, Nat.reduceSub, Nat.reduceMul, Int.reduceToNat, Int.reduceLE, Int.reduceLT, E0, List.drop_zero])
theorem ent_overdubref01_Get : Ent Try.prog 16 := ⟨_, Try.func16, rfl, by decide⟩
noncomputable def R1 : Env := ⟨Try.prog, fun f ds out => (f = 16 ∧ Sp_overdubref01_Get ds out), Es, fun _ => false, fun f vs lent out => False, fun f => none, fun f => false, false⟩
theorem R1_sp : ∀ f ds out, R1.Sp f ds out → Ent R1.P f ∧ Good R1.P f (fun a b => a = ds ∧ b = out) := by
  rintro f ds out ⟨rfl, h⟩
  exact ⟨ent_overdubref01_Get, good_overdubref01_Get.one h⟩
theorem R1_sm : ∀ f vs lent out, R1.Sm f vs lent out → Ent R1.P f ∧ GoodM R1.P f (fun a l b => a = vs ∧ l = lent ∧ b = out) := fun _ _ _ _ h => h.elim
theorem R1_ok : R1.Ok := ⟨R1_sp, Es_ok, R1_sm⟩
def Sp_overdubref01_Take (ds : List D) (out : Out) : Prop := ∃ l ws : List Int, ds = [.list (l.map mB), .list (ws.map mI)] ∧ Byt l ∧ l.length ≤ 9223372036854775807 ∧ ws.length ≤ 1000000000000 ∧ out = takeOut l ws
theorem good_overdubref01_Take : Good Try.prog 21 Sp_overdubref01_Take := by
  refine good_body (E := R1) (nt := 48) (rs := #[.tmp 4, .tmp 5]) Try.func21 rfl rfl rfl ?_
  rintro ds out ⟨l, ws, rfl, hb, hl, hw, rfl⟩
  refine ⟨by simp, ?_⟩
  repeat' first
 | refine AW.seq ?_
 | refine AW.block ?_
 | refine AW.regl R1_ok [0, 1, 4, 5, 6, 7, 8, 9, 12, 13, 14, 31] ?_
 | refine then_n ?_
 | refine then_r ?_
 | refine then_x ?_
 | refine block_x ?_
 | refine block_o (by decide) ?_
 | refine block_n ?_
 | refine block_r ?_
 | refine AW.skip ?_
 | refine AW.ret ?_
 | refine AW.exit ?_
 | refine AW.cond rfl ?_ ?_
 | refine awl_none rfl ?_
 | refine awl_nil2 ?_
 | refine awl_some rfl rfl (Nat.le_of_ble_eq_true rfl) rfl rfl ?_ ?_
 | (refine fun (hc : _ = _) => ?_; first | cases hc | ((try rw [hc]); (try simp only [stH] at hc); (try (exfalso; omega))); (try (show Awl _ _ _ _ _; simp only [stU])))
 | ((first | refine fun (K : V → List _ → _) hK => ?_ | refine fun (_ : V → V) => ?_); simp (disch := omega) only [go_sem, Int.reduceEq, ↓reduceIte, reduceCtorEq, Nat.reduceEqDiff, Nat.reduceLT, Nat.reduceLeDiff, Nat.reduceAdd, Nat.reduceSub, Nat.reduceMul, Int.reduceToNat, Int.reduceLE, Int.reduceLT, R1, Sp_overdubref01_Get]; (try (revert hK; intro hK; (repeat' first | (refine And.intro ?_ ?_) | (intro hc; first | cases hc | ((try rw [hc]); (try simp only [stH] at hc); (try (exfalso; omega))))); all_goals first | (refine hK _ _ ?_; clear hK K; simp only [stU]) | exact hK | omega)))
  refine AW.loop_wk (fun p : Nat × List Int × List Int => ⟨[(0, .d (.list (p.2.1.map mB))), (1, .d (.list (ws.map mI))), (6, .sl 100 1 0 p.2.2.length true), (12, .d (.v (.int .i64 ws.length))), (13, .d (.v (.int .i64 p.1)))], [(100, .row 3 1 (p.2.2.map mI))], 48⟩)
    (fun p => p.1 ≤ ws.length ∧ Byt p.2.1 ∧ p.2.1.length ≤ l.length ∧ p.2.2.length = p.1 ∧ takeL l ws = (takeL p.2.1 (ws.drop p.1)).map (p.2.2 ++ ·)) (fun p => ws.length - p.1) (0, l, []) ⟨by omega, hb, Nat.le_refl _, rfl, by simp⟩ (fun w0 oa a w hs => Wk.sr (ρ := nm []) (Wk.of ?_) (nil_sr 6 100 3 1 rfl (by simp) rfl (by decide) hs)) ?_
  · simp (disch := omega) only [go_sem, Int.reduceEq, ↓reduceIte, reduceCtorEq, Nat.reduceEqDiff, Nat.reduceLT, Nat.reduceLeDiff, Nat.reduceAdd, Nat.reduceSub, Nat.reduceMul, Int.reduceToNat, Int.reduceLE, Int.reduceLT, R1, Sp_overdubref01_Get]
  · rintro ⟨k, m, r⟩ ⟨hk, hm, hml, hr, hv⟩
    simp only at hk hm hml hr hv
    by_cases hk1 : k < ws.length
    · have e1 : ws.drop k = ws.getD k 0 :: ws.drop (k + 1) := by rw [List.drop_eq_getElem_cons hk1]; simp [List.getD_eq_getElem?_getD, hk1]
      have e2 : nth (ws.map mI) k = .v (.int .i64 (ws.getD k 0)) := nth_I ws k hk1
      rw [e1] at hv
      generalize ws.getD k 0 = w at *
      have hbt : Byt (m.take w.toNat) = True := by simp only [eq_iff_iff, iff_true]; exact byt_take hm _
      by_cases hc : w < 0 ∨ 7 < w ∨ (m.length : Int) < w
      · rw [takeL, if_pos hc, Option.map_none] at hv
        rw [takeOut, hv]
        repeat' first
 | refine AW.seq ?_
 | refine AW.block ?_
 | refine AW.regl R1_ok [0, 1, 4, 5, 6, 7, 8, 9, 12, 13, 14, 31] ?_
 | refine then_n ?_
 | refine then_r ?_
 | refine then_x ?_
 | refine block_x ?_
 | refine block_o (by decide) ?_
 | refine block_n ?_
 | refine block_r ?_
 | refine AW.skip ?_
 | refine AW.ret ?_
 | refine AW.exit ?_
 | refine AW.cond rfl ?_ ?_
 | refine awl_none rfl ?_
 | refine awl_nil2 ?_
 | refine awl_some rfl rfl (Nat.le_of_ble_eq_true rfl) rfl rfl ?_ ?_
 | (refine fun (hc : _ = _) => ?_; first | cases hc | ((try rw [hc]); (try simp only [stH] at hc); (try (exfalso; omega))); (try (show Awl _ _ _ _ _; simp only [stU])))
 | ((first | refine fun (K : V → List _ → _) hK => ?_ | refine fun (_ : V → V) => ?_); simp (disch := omega) only [go_sem, Int.reduceEq, ↓reduceIte, reduceCtorEq, Nat.reduceEqDiff, Nat.reduceLT, Nat.reduceLeDiff, Nat.reduceAdd, Nat.reduceSub, Nat.reduceMul, Int.reduceToNat, Int.reduceLE, Int.reduceLT, R1, Sp_overdubref01_Get, e2, all_I]; (try (revert hK; intro hK; (repeat' first | (refine And.intro ?_ ?_) | (intro hc; first | cases hc | ((try rw [hc]); (try simp only [stH] at hc); (try (exfalso; omega))))); all_goals first | (refine hK _ _ ?_; clear hK K; simp only [stU]) | exact hK | omega)))
        all_goals (refine Ends.of (nm []) (by first | exact .inl rfl | exact .inr rfl) ?_; simp (disch := omega) only [go_sem, Int.reduceEq, ↓reduceIte, reduceCtorEq, Nat.reduceEqDiff, Nat.reduceLT, Nat.reduceLeDiff, Nat.reduceAdd, Nat.reduceSub, Nat.reduceMul, Int.reduceToNat, Int.reduceLE, Int.reduceLT, R1, Sp_overdubref01_Get])
      · have hg : getOut (m.take w.toNat) = ⟨.tup [.d (.v (.int .i64 (leV (m.take w.toNat)))), .d (.v (.bool true))], []⟩ := by rw [getOut, if_neg (by rw [List.length_take]; omega)]
        have hlt : (m.take w.toNat).length ≤ 7 := by rw [List.length_take]; omega
        rw [takeL, if_neg hc] at hv
        repeat' first
 | refine AW.seq ?_
 | refine AW.block ?_
 | refine AW.regl R1_ok [0, 1, 4, 5, 6, 7, 8, 9, 12, 13, 14, 31] ?_
 | refine then_n ?_
 | refine then_r ?_
 | refine then_x ?_
 | refine block_x ?_
 | refine block_o (by decide) ?_
 | refine block_n ?_
 | refine block_r ?_
 | refine AW.skip ?_
 | refine AW.ret ?_
 | refine AW.exit ?_
 | refine AW.cond rfl ?_ ?_
 | refine awl_none rfl ?_
 | refine awl_nil2 ?_
 | refine awl_some rfl rfl (Nat.le_of_ble_eq_true rfl) rfl rfl ?_ ?_
 | (refine fun (hc : _ = _) => ?_; first | cases hc | ((try rw [hc]); (try simp only [stH] at hc); (try (exfalso; omega))); (try (show Awl _ _ _ _ _; simp only [stU])))
 | ((first | refine fun (K : V → List _ → _) hK => ?_ | refine fun (_ : V → V) => ?_); simp (disch := omega) only [go_sem, Int.reduceEq, ↓reduceIte, reduceCtorEq, Nat.reduceEqDiff, Nat.reduceLT, Nat.reduceLeDiff, Nat.reduceAdd, Nat.reduceSub, Nat.reduceMul, Int.reduceToNat, Int.reduceLE, Int.reduceLT, R1, Sp_overdubref01_Get, e2, all_I, all_B, hbt, hg, take_mB, drop_mB, mB_inj, snoc_I, List.take_length]; (try (revert hK; intro hK; (repeat' first | (refine And.intro ?_ ?_) | (intro hc; first | cases hc | ((try rw [hc]); (try simp only [stH] at hc); (try (exfalso; omega))))); all_goals first | (refine hK _ _ ?_; clear hK K; simp only [stU]) | exact hK | omega)))
        have hd : (m.drop w.toNat).length ≤ l.length := by rw [List.length_drop]; omega
        have hrl : (r ++ [leV (m.take w.toNat)]).length = k + 1 := by simp [hr]
        refine ⟨(k + 1, m.drop w.toNat, r ++ [leV (m.take w.toNat)]), by dsimp only; omega, byt_drop hm _, hd, hrl, ?_, by dsimp only; omega, nm [(100, 42)], Wk.of ?_⟩
        · dsimp only
          rw [hv, Option.map_map]
          congr 1
          funext x
          simp
        · simp (disch := omega) only [go_sem, Int.reduceEq, ↓reduceIte, reduceCtorEq, Nat.reduceEqDiff, Nat.reduceLT, Nat.reduceLeDiff, Nat.reduceAdd, Nat.reduceSub, Nat.reduceMul, Int.reduceToNat, Int.reduceLE, Int.reduceLT, R1, Sp_overdubref01_Get]
          first | rfl | exact ⟨rfl, rfl⟩
    · obtain rfl : k = ws.length := by omega
      have hz : takeL l ws = some r := by rw [hv, List.drop_length, takeL]; simp
      rw [takeOut, hz]
      repeat' first
 | refine AW.seq ?_
 | refine AW.block ?_
 | refine AW.regl R1_ok [0, 1, 4, 5, 6, 7, 8, 9, 12, 13, 14, 31] ?_
 | refine then_n ?_
 | refine then_r ?_
 | refine then_x ?_
 | refine block_x ?_
 | refine block_o (by decide) ?_
 | refine block_n ?_
 | refine block_r ?_
 | refine AW.skip ?_
 | refine AW.ret ?_
 | refine AW.exit ?_
 | refine AW.cond rfl ?_ ?_
 | refine awl_none rfl ?_
 | refine awl_nil2 ?_
 | refine awl_some rfl rfl (Nat.le_of_ble_eq_true rfl) rfl rfl ?_ ?_
 | (refine fun (hc : _ = _) => ?_; first | cases hc | ((try rw [hc]); (try simp only [stH] at hc); (try (exfalso; omega))); (try (show Awl _ _ _ _ _; simp only [stU])))
 | ((first | refine fun (K : V → List _ → _) hK => ?_ | refine fun (_ : V → V) => ?_); simp (disch := omega) only [go_sem, Int.reduceEq, ↓reduceIte, reduceCtorEq, Nat.reduceEqDiff, Nat.reduceLT, Nat.reduceLeDiff, Nat.reduceAdd, Nat.reduceSub, Nat.reduceMul, Int.reduceToNat, Int.reduceLE, Int.reduceLT, R1, Sp_overdubref01_Get]; (try (revert hK; intro hK; (repeat' first | (refine And.intro ?_ ?_) | (intro hc; first | cases hc | ((try rw [hc]); (try simp only [stH] at hc); (try (exfalso; omega))))); all_goals first | (refine hK _ _ ?_; clear hK K; simp only [stU]) | exact hK | omega)))
      all_goals (refine Ends.of (nm [(0, 100)]) (by first | exact .inl rfl | exact .inr rfl) ?_; simp (disch := omega) only [go_sem, Int.reduceEq, ↓reduceIte, reduceCtorEq, Nat.reduceEqDiff, Nat.reduceLT, Nat.reduceLeDiff, Nat.reduceAdd, Nat.reduceSub, Nat.reduceMul, Int.reduceToNat, Int.reduceLE, Int.reduceLT, R1, Sp_overdubref01_Get])
theorem ent_overdubref01_Take : Ent Try.prog 21 := ⟨_, Try.func21, rfl, by decide⟩
end Go.Proofs.Ytgijagbneapcfaa.Am
