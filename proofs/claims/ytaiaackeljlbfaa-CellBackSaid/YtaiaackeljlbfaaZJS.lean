import Derived.Test.YtaiaackeljlbfaaZJC
set_option linter.unusedVariables false
set_option linter.unusedSimpArgs false
set_option maxRecDepth 10000
set_option maxHeartbeats 0
namespace Go.Proofs.Ytaiaackeljlbfaa.Am
open Go Go.RowKit Go.Proofs
def prt (dt : List Int) : Nat := max 1 ((dt.length + 111) / 112)
def spl (life num : Int) (dt : List Int) (n : Nat) : List Ce := (List.range n).map fun (i : Nat) => ⟨life, num, (i : Int), (prt dt : Int), (dt.drop (112 * i)).take 112⟩
theorem spl_len (life num : Int) (dt : List Int) (n : Nat) : (spl life num dt n).length = n := by simp [spl]
theorem spl_succ (life num : Int) (dt : List Int) (n : Nat) : spl life num dt (n + 1) = spl life num dt n ++ [⟨life, num, (n : Int), (prt dt : Int), (dt.drop (112 * n)).take 112⟩] := by simp [spl, List.range_succ]
def splOut (life num : Int) (dt : List Int) : Out := if 64 < prt dt then ⟨.tup [.nil, .d (.v (.int .i64 4))], []⟩ else ⟨.tup [.sl 0 5 0 (prt dt) true, .d (.v (.int .i64 0))], [(0, .row 29 5 ((spl life num dt (prt dt)).map eC))]⟩
def Sp_cells_Split (ds : List D) (out : Out) : Prop := ∃ (life num : Int) (dt : List Int), ds = [.v (.int .i64 life), .v (.int .i64 num), .list (dt.map mB)] ∧ dt.length ≤ 100000000000 ∧ out = splOut life num dt
noncomputable def J1 : Env := ⟨Try.prog, fun f ds out => False, Es, fun _ => false, fun f vs lent out => False, fun f => none, fun f => false, false⟩
theorem J1_sp : ∀ f ds out, J1.Sp f ds out → Ent J1.P f ∧ Good J1.P f (fun a b => a = ds ∧ b = out) := fun _ _ _ h => h.elim
theorem J1_sm : ∀ f vs lent out, J1.Sm f vs lent out → Ent J1.P f ∧ GoodM J1.P f (fun a l b => a = vs ∧ l = lent ∧ b = out) := fun _ _ _ _ h => h.elim
theorem J1_ok : J1.Ok := ⟨J1_sp, Es_ok, J1_sm⟩
theorem good_cells_Split : Good Try.prog 11 Sp_cells_Split := by
  refine good_body (E := J1) (nt := 44) (rs := #[.tmp 6, .tmp 7]) Try.func11 rfl rfl rfl ?_
  rintro ds out ⟨life, num, dt, rfl, hl, rfl⟩
  refine ⟨by simp, ?_⟩
  have hq : ((dt.length : Int) + 112 - 1).tdiv 112 = ((dt.length + 111) / 112 : Nat) := by rw [Int.tdiv_eq_ediv_of_nonneg (by omega)]; omega
  have hmx : max 1 (((dt.length + 111) / 112 : Nat) : Int) = (prt dt : Int) := by unfold prt; omega
  have hP1 : 1 ≤ prt dt := by unfold prt; omega
  have hPl : 112 * prt dt ≤ dt.length + 112 := by unfold prt; omega
  have hPg : dt.length ≤ 112 * prt dt := by unfold prt; omega
  obtain ⟨P, hP⟩ : ∃ P, prt dt = P := ⟨_, rfl⟩
  rw [hP] at hmx hP1 hPl hPg
  by_cases hbig : 64 < P
  · have hout : splOut life num dt = ⟨.tup [.nil, .d (.v (.int .i64 4))], []⟩ := by unfold splOut; rw [hP, if_pos hbig]
    repeat' ((first
 | refine AW.seq ?_
 | refine AW.block ?_
 | refine AW.regl J1_ok [0, 1, 2, 6, 7, 8, 9, 10, 11, 19, 20, 21, 22] ?_
 | refine then_n ?_
 | refine then_r ?_
 | refine then_x ?_
 | refine block_x ?_
 | refine block_o (by decide) ?_
 | refine block_n ?_
 | refine block_r ?_
 | refine AW.skip ?_
 | refine AW.ret ?_
 | refine AW.exit ?_
 | refine AW.cond rfl ?_ ?_
 | refine awl_none rfl ?_
 | refine awl_nil2 ?_
 | (refine fun (hc : _ = _) => ?_; first | cases hc | ((try rw [hc]); (try simp only [stH] at hc); (try (exfalso; omega))); (try (show Awl _ _ _ _ _; simp only [stU])))
 | ((first | refine fun (K : V → List _ → _) hK => ?_ | refine fun (_ : V → V) => ?_); simp (disch := omega) only [go_sem, Int.reduceEq, ↓reduceIte, reduceCtorEq, Nat.reduceEqDiff, Nat.reduceLT, Nat.reduceLeDiff, Nat.reduceAdd, Nat.reduceSub, Nat.reduceMul, Int.reduceToNat, Int.reduceLE, Int.reduceLT, J1, hq, hmx]; (try (revert hK; intro hK; (repeat' first | (refine And.intro ?_ ?_) | (intro hc; first | cases hc | ((try rw [hc]); (try simp only [stH] at hc); (try (exfalso; omega))))); all_goals first | (refine hK _ _ ?_; clear hK K; simp only [stU]) | exact hK | omega)))) <;> (fail_if_success (show False; skip)))
    all_goals (refine Ends.of (nm []) (by first | exact .inl rfl | exact .inr rfl) ?_; simp (disch := omega) only [go_sem, Int.reduceEq, ↓reduceIte, reduceCtorEq, Nat.reduceEqDiff, Nat.reduceLT, Nat.reduceLeDiff, Nat.reduceAdd, Nat.reduceSub, Nat.reduceMul, Int.reduceToNat, Int.reduceLE, Int.reduceLT, J1, hout])
  have hout : splOut life num dt = ⟨.tup [.sl 0 5 0 P true, .d (.v (.int .i64 0))], [(0, .row 29 5 ((spl life num dt P).map eC))]⟩ := by unfold splOut; rw [hP, if_neg hbig]
  repeat' ((first
 | refine AW.seq ?_
 | refine AW.block ?_
 | refine AW.regl J1_ok [0, 1, 2, 6, 7, 8, 9, 10, 11, 19, 20, 21, 22] ?_
 | refine then_n ?_
 | refine then_r ?_
 | refine then_x ?_
 | refine block_x ?_
 | refine block_o (by decide) ?_
 | refine block_n ?_
 | refine block_r ?_
 | refine AW.skip ?_
 | refine AW.ret ?_
 | refine AW.exit ?_
 | refine AW.cond rfl ?_ ?_
 | refine awl_none rfl ?_
 | refine awl_nil2 ?_
 | (refine fun (hc : _ = _) => ?_; first | cases hc | ((try rw [hc]); (try simp only [stH] at hc); (try (exfalso; omega))); (try (show Awl _ _ _ _ _; simp only [stU])))
 | ((first | refine fun (K : V → List _ → _) hK => ?_ | refine fun (_ : V → V) => ?_); simp (disch := omega) only [go_sem, Int.reduceEq, ↓reduceIte, reduceCtorEq, Nat.reduceEqDiff, Nat.reduceLT, Nat.reduceLeDiff, Nat.reduceAdd, Nat.reduceSub, Nat.reduceMul, Int.reduceToNat, Int.reduceLE, Int.reduceLT, J1, hq, hmx]; (try (revert hK; intro hK; (repeat' first | (refine And.intro ?_ ?_) | (intro hc; first | cases hc | ((try rw [hc]); (try simp only [stH] at hc); (try (exfalso; omega))))); all_goals first | (refine hK _ _ ?_; clear hK K; simp only [stU]) | exact hK | omega)))) <;> (fail_if_success (show False; skip)))
  refine AW.loop_wk (fun n : Nat => ⟨[(0, .d (.v (.int .i64 life))), (1, .d (.v (.int .i64 num))), (2, .d (.list ((dt.drop (112 * n)).map mB))), (8, .d (.v (.int .i64 P))), (9, .sl 100 5 0 n true), (20, .d (.v (.int .i64 P))), (21, .d (.v (.int .i64 n)))], [(100, .row 29 5 ((spl life num dt n).map eC))], 44⟩)
    (fun n => n ≤ P) (fun n => P - n) 0 (Nat.zero_le _) ?_ ?_
  · intro w0 oa a w hs
    refine Wk.sr (ρ := nm []) (Wk.of ?_) (nil_sr 9 100 29 5 rfl (by simp) rfl (by decide) hs)
    have h0 : spl life num dt 0 = [] := rfl
    simp (disch := omega) only [go_sem, Int.reduceEq, ↓reduceIte, reduceCtorEq, Nat.reduceEqDiff, Nat.reduceLT, Nat.reduceLeDiff, Nat.reduceAdd, Nat.reduceSub, Nat.reduceMul, Int.reduceToNat, Int.reduceLE, Int.reduceLT, J1, h0, Nat.mul_zero]
  intro n hn
  by_cases hn1 : n < P
  · obtain ⟨r, hr⟩ : ∃ r, dt.drop (112 * n) = r := ⟨_, rfl⟩
    have hrl : r.length = dt.length - 112 * n := by rw [← hr, List.length_drop]
    obtain ⟨q, hqq⟩ : ∃ q : Nat, q = min r.length 112 := ⟨_, rfl⟩
    have hmn : min ((r.length : Nat) : Int) 112 = (q : Int) := by omega
    have ht : (r.map mB).take q = (r.take 112).map mB := by
      rw [← List.map_take, hqq]
      rcases Nat.lt_or_ge r.length 112 with h1 | h1
      · rw [Nat.min_eq_left (by omega), List.take_length, List.take_of_length_le (by omega)]
      · rw [Nat.min_eq_right h1]
    have htq : ((r.take 112).map mB).take q = (r.take 112).map mB := List.take_of_length_le (by rw [List.length_map, List.length_take]; omega)
    have htl : (r.take 112).length = q := by rw [List.length_take]; omega
    have hdr : ((r.map mB).take r.length).drop q = (dt.drop (112 * (n + 1))).map mB := by
      rw [List.take_of_length_le (by simp), ← List.map_drop, ← hr, List.drop_drop]
      congr 1
      rcases Nat.lt_or_ge r.length 112 with h1 | h1
      · rw [List.drop_eq_nil_of_le (by omega), List.drop_eq_nil_of_le (by omega)]
      · rw [show 112 * n + q = 112 * (n + 1) by omega]
    have hsc := spl_succ life num dt n
    rw [hr, hP] at hsc
    have hap : (spl life num dt n).map eC ++ [.agg [.v (.int .i64 life), .v (.int .i64 num), .v (.int .i64 n), .v (.int .i64 P), .list ((r.take 112).map mB)]] = (spl life num dt (n + 1)).map eC := by rw [hsc, List.map_append]; rfl
    have hqle : q ≤ r.length := by omega
    repeat' ((first
 | refine AW.seq ?_
 | refine AW.block ?_
 | refine AW.regl J1_ok [0, 1, 2, 6, 7, 8, 9, 10, 11, 19, 20, 21, 22] ?_
 | refine then_n ?_
 | refine then_r ?_
 | refine then_x ?_
 | refine block_x ?_
 | refine block_o (by decide) ?_
 | refine block_n ?_
 | refine block_r ?_
 | refine AW.skip ?_
 | refine AW.ret ?_
 | refine AW.exit ?_
 | refine AW.cond rfl ?_ ?_
 | refine awl_none rfl ?_
 | refine awl_nil2 ?_
 | (refine fun (hc : _ = _) => ?_; first | cases hc | ((try rw [hc]); (try simp only [stH] at hc); (try (exfalso; omega))); (try (show Awl _ _ _ _ _; simp only [stU])))
 | ((first | refine fun (K : V → List _ → _) hK => ?_ | refine fun (_ : V → V) => ?_); simp (disch := omega) only [go_sem, Int.reduceEq, ↓reduceIte, reduceCtorEq, Nat.reduceEqDiff, Nat.reduceLT, Nat.reduceLeDiff, Nat.reduceAdd, Nat.reduceSub, Nat.reduceMul, Int.reduceToNat, Int.reduceLE, Int.reduceLT, J1, hr, hmn, ht, htq, htl, hdr, hap, spl_len, cutOk]; (try (revert hK; intro hK; (repeat' first | (refine And.intro ?_ ?_) | (intro hc; first | cases hc | ((try rw [hc]); (try simp only [stH] at hc); (try (exfalso; omega))))); all_goals first | (refine hK _ _ ?_; clear hK K; simp only [stU]) | exact hK | omega)))) <;> (fail_if_success (show False; skip)))
    refine ⟨n + 1, by omega, by omega, nm [(100, 38)], Wk.of ?_⟩
    simp (disch := omega) only [go_sem, Int.reduceEq, ↓reduceIte, reduceCtorEq, Nat.reduceEqDiff, Nat.reduceLT, Nat.reduceLeDiff, Nat.reduceAdd, Nat.reduceSub, Nat.reduceMul, Int.reduceToNat, Int.reduceLE, Int.reduceLT, J1]
    rfl
  · obtain rfl : n = P := by omega
    repeat' ((first
 | refine AW.seq ?_
 | refine AW.block ?_
 | refine AW.regl J1_ok [0, 1, 2, 6, 7, 8, 9, 10, 11, 19, 20, 21, 22] ?_
 | refine then_n ?_
 | refine then_r ?_
 | refine then_x ?_
 | refine block_x ?_
 | refine block_o (by decide) ?_
 | refine block_n ?_
 | refine block_r ?_
 | refine AW.skip ?_
 | refine AW.ret ?_
 | refine AW.exit ?_
 | refine AW.cond rfl ?_ ?_
 | refine awl_none rfl ?_
 | refine awl_nil2 ?_
 | (refine fun (hc : _ = _) => ?_; first | cases hc | ((try rw [hc]); (try simp only [stH] at hc); (try (exfalso; omega))); (try (show Awl _ _ _ _ _; simp only [stU])))
 | ((first | refine fun (K : V → List _ → _) hK => ?_ | refine fun (_ : V → V) => ?_); simp (disch := omega) only [go_sem, Int.reduceEq, ↓reduceIte, reduceCtorEq, Nat.reduceEqDiff, Nat.reduceLT, Nat.reduceLeDiff, Nat.reduceAdd, Nat.reduceSub, Nat.reduceMul, Int.reduceToNat, Int.reduceLE, Int.reduceLT, J1]; (try (revert hK; intro hK; (repeat' first | (refine And.intro ?_ ?_) | (intro hc; first | cases hc | ((try rw [hc]); (try simp only [stH] at hc); (try (exfalso; omega))))); all_goals first | (refine hK _ _ ?_; clear hK K; simp only [stU]) | exact hK | omega)))) <;> (fail_if_success (show False; skip)))
    all_goals (refine Ends.of (nm [(0, 100)]) (by first | exact .inl rfl | exact .inr rfl) ?_; simp (disch := omega) only [go_sem, Int.reduceEq, ↓reduceIte, reduceCtorEq, Nat.reduceEqDiff, Nat.reduceLT, Nat.reduceLeDiff, Nat.reduceAdd, Nat.reduceSub, Nat.reduceMul, Int.reduceToNat, Int.reduceLE, Int.reduceLT, J1, hout])
theorem ent_cells_Split : Ent Try.prog 11 := ⟨_, Try.func11, rfl, by decide⟩
theorem within_rngc {v n : Int} (hn : 1 ≤ n) : 0 ≤ within v n ∧ within v n < n := by
  unfold within
  rw [if_neg (by omega)]
  have h1 := Int.tmod_lt_of_pos v (show 0 < n by omega)
  have h2 := Int.lt_tmod_of_pos v (show 0 < n by omega)
  split <;> omega
def vC (c : Ce) : V := .agg [.d (.v (.int .i64 c.lf)), .d (.v (.int .i64 c.nu)), .d (.v (.int .i64 c.pt)), .d (.v (.int .i64 c.ps)), .d (.list (c.dt.map mB))]
theorem vC_eq (a b e f : Int) (g : List Int) (c : Ce) : (V.agg [.d (.v (.int .i64 a)), .d (.v (.int .i64 b)), .d (.v (.int .i64 e)), .d (.v (.int .i64 f)), .d (.list (g.map mB))] = vC c) = (⟨a, b, e, f, g⟩ = c) := by
  cases c
  simp [vC, mB_inj]
def smallE (c : Ce) : Ce := ⟨1 + within c.lf 3, 1 + within c.nu 4, within c.pt (1 + within c.ps 5), 1 + within c.ps 5, c.dt.take 112⟩
noncomputable def J5 : Env := ⟨Try.prog, fun f ds out => (f = 10 ∧ Sp_overdubkeep_Within ds out) ∨ (f = 16 ∧ Sp_overdubkeep_Cut_byte ds out), Es, fun _ => false, fun f vs lent out => False, fun f => none, fun f => false, false⟩
theorem J5_sp : ∀ f ds out, J5.Sp f ds out → Ent J5.P f ∧ Good J5.P f (fun a b => a = ds ∧ b = out) := by
  rintro f ds out (⟨rfl, h⟩ | ⟨rfl, h⟩)
  · exact ⟨ent_overdubkeep_Within, good_overdubkeep_Within.one h⟩
  · exact ⟨ent_overdubkeep_Cut_byte, good_overdubkeep_Cut_byte.one h⟩
theorem J5_sm : ∀ f vs lent out, J5.Sm f vs lent out → Ent J5.P f ∧ GoodM J5.P f (fun a l b => a = vs ∧ l = lent ∧ b = out) := fun _ _ _ _ h => h.elim
theorem J5_ok : J5.Ok := ⟨J5_sp, Es_ok, J5_sm⟩
def Sp_overdublaw15_small (ds : List D) (out : Out) : Prop := ∃ c : Ce, ds = [eC c] ∧ c.dt.length ≤ 9223372036854775807 ∧ out = ⟨vC (smallE c), []⟩
def bb_overdublaw15_small_2 : List Nat := [0, 1, 3, 7, 0, 16, 55, 119, 0, 256, 0, 1911, 0, 0, 8192, 28535, 65535, 131071]
def cc_overdublaw15_small_2 : List (List (Option Bool)) := [[some false, some false, some false, some false, none, none, some false, some false, none, none, none, some false, none, none, none, some false, some false, some false], [some true, some false, some false, some false, none, none, some false, some false, none, none, none, some false, none, none, none, some false, some false, some false], [some true, some true, some false, some false, none, none, some false, some false, none, none, none, some false, none, none, none, some false, some false, some false], [some true, some true, some true, some false, none, none, none, none, none, none, none, none, none, none, none, none, some false, some false], [none, none, none, none, some false, some false, some false, some false, none, none, none, some false, none, none, none, some false, some false, some false], [none, none, none, none, some true, some false, some false, some false, none, none, none, some false, none, none, none, some false, some false, some false], [some true, some true, some true, none, some true, some true, some false, some false, none, none, none, some false, none, none, none, some false, some false, some false], [some true, some true, some true, none, some true, some true, some true, some false, none, none, none, none, none, none, none, none, some false, some false], [none, none, none, none, none, none, none, none, some false, some false, none, some false, none, none, none, some false, some false, some false], [none, none, none, none, none, none, none, none, some true, some false, none, some false, none, none, none, some false, some false, some false], [none, none, none, none, none, none, none, none, none, none, some false, some false, none, none, none, some false, some false, some false], [some true, some true, some true, none, some true, some true, some true, none, some true, some true, some true, some false, none, none, none, some false, some false, some false], [none, none, none, none, none, none, none, none, none, none, none, none, some false, none, none, none, some false, some false], [none, none, none, none, none, none, none, none, none, none, none, none, none, some false, some false, some false, some false, some false], [none, none, none, none, none, none, none, none, none, none, none, none, none, some true, some false, some false, some false, some false], [some true, some true, some true, none, some true, some true, some true, none, some true, some true, some true, some true, none, some true, some true, some false, some false, some false], [some true, some true, some true, some true, some true, some true, some true, some true, some true, some true, some true, some true, some true, some true, some true, some true, some false, some false], [some true, some true, some true, some true, some true, some true, some true, some true, some true, some true, some true, some true, some true, some true, some true, some true, some true, some false]]
theorem good_overdublaw15_small : Good Try.prog 17 Sp_overdublaw15_small := by
  refine good_body (E := J5) (nt := 25) (rs := #[.cell 2 29]) Try.func17 rfl rfl rfl ?_
  rintro ds out ⟨⟨lf, nu, pt, ps, dt⟩, rfl, hl, rfl⟩
  refine ⟨by simp, ?_⟩
  have w1 := within_rngc (v := lf) (n := 3) (by omega)
  have w2 := within_rngc (v := nu) (n := 4) (by omega)
  have w3 := within_rngc (v := ps) (n := 5) (by omega)
  have e1 : IntKind.i64.wrap (1 + within lf 3) = 1 + within lf 3 := wrap_id _ (by omega) (by omega)
  have e2 : IntKind.i64.wrap (1 + within nu 4) = 1 + within nu 4 := wrap_id _ (by omega) (by omega)
  have e3 : IntKind.i64.wrap (1 + within ps 5) = 1 + within ps 5 := wrap_id _ (by omega) (by omega)
  have hdt : (dt.map mB).take dt.length = dt.map mB := List.take_of_length_le (by simp)
  have hn : ((112 : Int)).toNat = 112 := rfl
  repeat' first
 | refine AW.seq ?_
 | refine AW.block ?_
 | refine AW.regl J5_ok [0, 1, 2, 3] ?_
 | (refine AW.regc (id := 2) J5_ok follows bb_overdublaw15_small_2 (by kernel_rfl) [0, 1, 2, 3] ?_)
 | refine then_n ?_
 | refine then_r ?_
 | refine then_x ?_
 | refine block_x ?_
 | refine block_o (by decide) ?_
 | refine block_n ?_
 | refine block_r ?_
 | refine AW.skip ?_
 | refine AW.ret ?_
 | refine AW.exit ?_
 | refine AW.cond rfl ?_ ?_
 | refine awl_none rfl ?_
 | refine awl_nil2 ?_
 | refine awc_none rfl ?_
 | exact each_nil
 | refine each_none rfl ?_ ?_
 | refine awc_leaf2 [some 8, some 9, some 10, some 11, some 12, some 13, some 14, some 15, some 16, some 17, some 18, some 19, some 20, some 21, some 22, some 23, some 24, none] cc_overdublaw15_small_2 rfl (by kernel_rfl) (by kernel_rfl) ?_ ?_
 | (refine fun (hc : _ = _) => ?_; first | cases hc | ((try rw [hc]); (try simp only [stH] at hc); (try (exfalso; omega))); (try ((first | show Awl _ _ _ _ _ | show Awc _ _ _ _ _ _); simp only [stU])))
 | ((first | refine fun (K : V → List _ → _) hK => ?_ | refine fun (_ : V → V) => ?_ | refine fun (bb : Nat → Bool) K hK => ?_); simp (disch := omega) only [go_sem, Int.reduceEq, ↓reduceIte, reduceCtorEq, Nat.reduceEqDiff, Nat.reduceLT, Nat.reduceLeDiff, Nat.reduceAdd, Nat.reduceSub, Nat.reduceMul, Int.reduceToNat, Int.reduceLE, Int.reduceLT, J5, Sp_overdubkeep_Within, Sp_overdubkeep_Cut_byte, eC, e1, e2, e3, hdt, hn, mB_inj, Sg3, St.updIf, ifc_nil, gt_ifc, go_ifc, ite_self, Option.none_or, Option.some_or]; (try (revert hK; intro hK; (repeat' first | (refine And.intro ?_ ?_) | (intro hc; first | cases hc | ((try rw [hc]); (try simp only [stH] at hc); (try (exfalso; omega))))); all_goals first | (refine hK _ _ ?_; clear hK K; simp only [stU]) | exact hK | omega)))
  (refine Ends.of (nm []) (by first | exact .inl rfl | exact .inr rfl) ?_; simp (disch := omega) only [go_sem, Int.reduceEq, ↓reduceIte, reduceCtorEq, Nat.reduceEqDiff, Nat.reduceLT, Nat.reduceLeDiff, Nat.reduceAdd, Nat.reduceSub, Nat.reduceMul, Int.reduceToNat, Int.reduceLE, Int.reduceLT, J5, Sp_overdubkeep_Within, Sp_overdubkeep_Cut_byte, smallE, vC])
theorem ent_overdublaw15_small : Ent Try.prog 17 := ⟨_, Try.func17, rfl, by decide⟩
end Go.Proofs.Ytaiaackeljlbfaa.Am
