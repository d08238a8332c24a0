import Derived.Test.YtaiaackeljlbfaaZJP
import Derived.Test.YtaiaackeljlbfaaZZA
set_option linter.unusedVariables false
set_option linter.unusedSimpArgs false
set_option maxRecDepth 10000
set_option maxHeartbeats 0
namespace Go.Proofs.Ytaiaackeljlbfaa.Am
open Go Go.RowKit Go.Proofs
def joinOut (life num : Int) (l : List Ce) : Out := match joinL life num l with
  | none => ⟨.tup [.nil, .d (.v (.bool false))], []⟩
  | some b => ⟨.tup [.sl 0 1 0 b.length true, .d (.v (.bool true))], [(0, .row 5 1 (b.map mB))]⟩
noncomputable def J0 : Env := ⟨Try.prog, fun f ds out => False, Es, fun _ => false, fun f vs lent out => False, fun f => none, fun f => false, false⟩
theorem J0_sp : ∀ f ds out, J0.Sp f ds out → Ent J0.P f ∧ Good J0.P f (fun a b => a = ds ∧ b = out) := fun _ _ _ h => h.elim
theorem J0_sm : ∀ f vs lent out, J0.Sm f vs lent out → Ent J0.P f ∧ GoodM J0.P f (fun a l b => a = vs ∧ l = lent ∧ b = out) := fun _ _ _ _ h => h.elim
theorem J0_ok : J0.Ok := ⟨J0_sp, Es_ok, J0_sm⟩
def stJ (life num : Int) (l : List Ce) (k : Nat) (H : List (Int × List Int)) : St := ⟨[(0, .d (.v (.int .i64 life))), (1, .d (.v (.int .i64 num))), (8, .d (.v (.int .i64 (pz (mine life num (l.take k)))))), (9, .mp 18), (19, .d (.list (l.map eC))), (20, .d (.v (.int .i64 l.length))), (21, .d (.v (.int .i64 k)))], [(18, .mp (mpD H))], 85⟩
def stK (m : List Ce) (P : Int) (H : List (Int × List Int)) (n : Nat) (b : List Int) : St := ⟨[(8, .d (.v (.int .i64 P))), (9, .mp 18), (14, .sl 100 1 0 b.length true), (66, .d (.v (.int .i64 P))), (67, .d (.v (.int .i64 n)))], [(18, .mp (mpD H)), (100, .row 5 1 (b.map mB))], 85⟩
def Sp_cells_Join (ds : List D) (out : Out) : Prop := ∃ (life num : Int) (l : List Ce), ds = [.v (.int .i64 life), .v (.int .i64 num), .list (l.map eC)] ∧ l.length ≤ 1000000 ∧ (∀ c ∈ l, c.dt.length ≤ 1000000) ∧ out = joinOut life num l
theorem good_cells_Join : Good Try.prog 18 Sp_cells_Join := by
  refine good_body (E := J0) (nt := 85) (rs := #[.tmp 6, .tmp 7]) Try.func18 rfl rfl rfl ?_
  rintro ds out ⟨life, num, l, rfl, hl, hB, rfl⟩
  refine ⟨by simp, ?_⟩
  repeat' first
 | refine AW.seq ?_
 | refine AW.block ?_
 | refine AW.regl J0_ok [0, 1, 2, 6, 7, 8, 9, 11, 13, 14, 15, 16, 17, 19, 20, 21, 22, 34, 36, 50, 59, 66, 67, 68, 77] ?_
 | refine then_n ?_
 | refine then_r ?_
 | refine then_x ?_
 | refine block_x ?_
 | refine block_o (by decide) ?_
 | refine block_n ?_
 | refine block_r ?_
 | refine AW.skip ?_
 | refine AW.ret ?_
 | refine AW.exit ?_
 | refine AW.cond rfl ?_ ?_
 | refine awl_none rfl ?_
 | refine awl_nil2 ?_
 | refine awl_some rfl rfl (Nat.le_of_ble_eq_true rfl) rfl rfl ?_ ?_
 | (refine fun (hc : _ = _) => ?_; first | cases hc | ((try rw [hc]); (try simp only [stH] at hc); (try (exfalso; omega))); (try (show Awl _ _ _ _ _; simp only [stU])))
 | ((first | refine fun (K : V → List _ → _) hK => ?_ | refine fun (_ : V → V) => ?_); simp (disch := omega) only [go_sem, Int.reduceEq, ↓reduceIte, reduceCtorEq, Nat.reduceEqDiff, Nat.reduceLT, Nat.reduceLeDiff, Nat.reduceAdd, Nat.reduceSub, Nat.reduceMul, Int.reduceToNat, Int.reduceLE, Int.reduceLT, J0]; (try (revert hK; intro hK; (repeat' first | (refine And.intro ?_ ?_) | (intro hc; first | cases hc | ((try rw [hc]); (try simp only [stH] at hc); (try (exfalso; omega))))); all_goals first | (refine hK _ _ ?_; clear hK K; simp only [stU]) | exact hK | omega)))
  refine AW.loop_wk (fun p : Nat × List (Int × List Int) => stJ life num l p.1 p.2)
    (fun p => p.1 ≤ l.length ∧ goodM (mine life num (l.take p.1)) ∧ ∀ i, lk i p.2 = pick (mine life num (l.take p.1)) i) (fun p => l.length - p.1) (0, []) ⟨by omega, by intro c hc; simp [mine] at hc, fun i => by simp [mine, pick, lk]⟩ (fun w0 oa a w hs => Wk.sr (ρ := nm []) (Wk.of ?_) hs) ?_
  · simp (disch := omega) only [go_sem, Int.reduceEq, ↓reduceIte, reduceCtorEq, Nat.reduceEqDiff, Nat.reduceLT, Nat.reduceLeDiff, Nat.reduceAdd, Nat.reduceSub, Nat.reduceMul, Int.reduceToNat, Int.reduceLE, Int.reduceLT, J0, stJ, mine, pz, mpD, List.filter_nil]
  rintro ⟨k, H⟩ ⟨hk, hg, hH⟩
  simp only at hk hg hH
  by_cases hk1 : k < l.length
  · have e1 := nth_C l k hk1
    have hmt := mine_take (life := life) (num := num) hk1
    have hmem : l.getD k default ∈ l := by rw [List.getD_eq_getElem?_getD, List.getElem?_eq_getElem hk1]; exact List.getElem_mem hk1
    obtain ⟨c, hc⟩ : ∃ c, l.getD k default = c := ⟨_, rfl⟩
    rw [hc] at e1 hmt hmem
    obtain ⟨m, hm⟩ : ∃ m, mine life num (l.take k) = m := ⟨_, rfl⟩
    rw [hm] at hmt hg hH
    by_cases hmi : c.lf = life ∧ c.nu = num
    · have him : isMine life num c = true := by simp [isMine, hmi]
      rw [if_pos him] at hmt
      obtain ⟨h1, h2⟩ := hmi
      have hd1 : decide (¬ c.lf = life) = false := decide_eq_false (by simpa using h1)
      have hd2 : decide (¬ c.nu = num) = false := decide_eq_false (by simpa using h2)
      obtain ⟨P, hP⟩ : ∃ P, pz m = P := ⟨_, rfl⟩
      obtain ⟨P', hP'⟩ : ∃ P', pz (m ++ [c]) = P' := ⟨_, rfl⟩
      have hcase : (P = 0 ∧ P' = c.ps) ∨ (¬ P = 0 ∧ P' = P) := by
        cases m with
        | nil => exact .inl ⟨hP.symm, hP'.symm⟩
        | cons a r =>
          have := (hg a (List.mem_cons_self ..)).2.1
          refine .inr ⟨by rw [← hP]; intro h; rw [h] at this; omega, ?_⟩
          rw [← hP, ← hP']; rfl
      have hgi : c.ps = P' ∧ 1 ≤ P' ∧ P' ≤ 64 → goodM (m ++ [c]) := by
        intro h x hx
        rw [hP']
        rcases List.mem_append.1 hx with hx | hx
        · have h0 : m ≠ [] := List.ne_nil_of_mem hx
          have := hg x hx
          rw [← pz_append (r := [c]) h0, hP'] at this
          exact this
        · rw [List.mem_singleton.1 hx]; exact h
      have hgo : ¬ (c.ps = P' ∧ 1 ≤ P' ∧ P' ≤ 64) → joinOut life num l = ⟨.tup [.nil, .d (.v (.bool false))], []⟩ := by
        intro h
        have : joinL life num l = none := joinL_bad (k := k + 1) (by
          rw [hmt]
          intro hgg
          have := hgg c (by simp)
          rw [hP'] at this
          exact h this)
        unfold joinOut; rw [this]
      have hnext : ∀ H', (∀ i, lk i H' = pick (m ++ [c]) i) → goodM (m ++ [c]) → True := fun _ _ _ => trivial
      have hfd := findM_mpD c.pt H
      have hcd : ∀ c ∈ [c], eC c = eC c := fun _ _ => rfl
      rcases hcase with ⟨hp0, hp1⟩ | ⟨hp0, hp1⟩
      · have hc2 : P' = c.ps := hp1
        have q1 : c.ps = P' := hp1.symm
        by_cases q2 : 1 ≤ P'
        · by_cases q3 : P' ≤ 64
          · subst hp0
            have q4 : decide (c.ps < 1) = false := decide_eq_false (by omega)
            have q5 : decide (64 < c.ps) = false := decide_eq_false (by omega)
            have hgood := hgi ⟨q1, q2, q3⟩
            cases hlk : lk c.pt H with
            | none =>
              rw [hlk] at hfd
              have hsn := mpD_snoc H c.pt c.dt
              repeat' ((first
 | refine AW.seq ?_
 | refine AW.block ?_
 | refine AW.regl J0_ok [0, 1, 2, 6, 7, 8, 9, 11, 13, 14, 15, 16, 17, 19, 20, 21, 22, 34, 36, 50, 59, 66, 67, 68, 77] ?_
 | refine then_n ?_
 | refine then_r ?_
 | refine then_x ?_
 | refine block_x ?_
 | refine block_o (by decide) ?_
 | refine block_n ?_
 | refine block_r ?_
 | refine AW.skip ?_
 | refine AW.ret ?_
 | refine AW.exit ?_
 | refine AW.cond rfl ?_ ?_
 | refine awl_none rfl ?_
 | refine awl_nil2 ?_
 | refine awl_some rfl rfl (Nat.le_of_ble_eq_true rfl) rfl rfl ?_ ?_
 | (refine fun (hc : _ = _) => ?_; first | cases hc | ((try rw [hc]); (try simp only [stH] at hc); (try (exfalso; omega))); (try (show Awl _ _ _ _ _; simp only [stU])))
 | ((first | refine fun (K : V → List _ → _) hK => ?_ | refine fun (_ : V → V) => ?_); simp (disch := omega) only [go_sem, Int.reduceEq, ↓reduceIte, reduceCtorEq, Nat.reduceEqDiff, Nat.reduceLT, Nat.reduceLeDiff, Nat.reduceAdd, Nat.reduceSub, Nat.reduceMul, Int.reduceToNat, Int.reduceLE, Int.reduceLT, J0, stJ, e1, eC, hm, hP, h1, h2, hd1, hd2, q4, q5, hfd, hsn, all_C]; (try (revert hK; intro hK; (repeat' first | (refine And.intro ?_ ?_) | (intro hc; first | cases hc | ((try rw [hc]); (try simp only [stH] at hc); (try (exfalso; omega))))); all_goals first | (refine hK _ _ ?_; clear hK K; simp only [stU]) | exact hK | omega)))) <;> (fail_if_success (show False; skip)))
              refine ⟨(k + 1, H ++ [(c.pt, c.dt)]), by dsimp only; omega, by rw [hmt]; exact hgood, fun i => by rw [hmt, lk_snoc, pick_snoc, hH i], by dsimp only; omega, nm [], Wk.of ?_⟩
              simp (disch := omega) only [go_sem, Int.reduceEq, ↓reduceIte, reduceCtorEq, Nat.reduceEqDiff, Nat.reduceLT, Nat.reduceLeDiff, Nat.reduceAdd, Nat.reduceSub, Nat.reduceMul, Int.reduceToNat, Int.reduceLE, Int.reduceLT, J0, stJ, hmt, hP', hc2]
              rfl
            | some x =>
              rw [hlk] at hfd
              have hpk : ∀ i, lk i H = pick (m ++ [c]) i := fun i => by
                rw [pick_snoc, ← hH i]
                by_cases e : c.pt = i
                · rw [← e, hlk]
                · rw [if_neg e]; cases lk i H <;> rfl
              repeat' ((first
 | refine AW.seq ?_
 | refine AW.block ?_
 | refine AW.regl J0_ok [0, 1, 2, 6, 7, 8, 9, 11, 13, 14, 15, 16, 17, 19, 20, 21, 22, 34, 36, 50, 59, 66, 67, 68, 77] ?_
 | refine then_n ?_
 | refine then_r ?_
 | refine then_x ?_
 | refine block_x ?_
 | refine block_o (by decide) ?_
 | refine block_n ?_
 | refine block_r ?_
 | refine AW.skip ?_
 | refine AW.ret ?_
 | refine AW.exit ?_
 | refine AW.cond rfl ?_ ?_
 | refine awl_none rfl ?_
 | refine awl_nil2 ?_
 | refine awl_some rfl rfl (Nat.le_of_ble_eq_true rfl) rfl rfl ?_ ?_
 | (refine fun (hc : _ = _) => ?_; first | cases hc | ((try rw [hc]); (try simp only [stH] at hc); (try (exfalso; omega))); (try (show Awl _ _ _ _ _; simp only [stU])))
 | ((first | refine fun (K : V → List _ → _) hK => ?_ | refine fun (_ : V → V) => ?_); simp (disch := omega) only [go_sem, Int.reduceEq, ↓reduceIte, reduceCtorEq, Nat.reduceEqDiff, Nat.reduceLT, Nat.reduceLeDiff, Nat.reduceAdd, Nat.reduceSub, Nat.reduceMul, Int.reduceToNat, Int.reduceLE, Int.reduceLT, J0, stJ, e1, eC, hm, hP, h1, h2, hd1, hd2, q4, q5, hfd, all_C]; (try (revert hK; intro hK; (repeat' first | (refine And.intro ?_ ?_) | (intro hc; first | cases hc | ((try rw [hc]); (try simp only [stH] at hc); (try (exfalso; omega))))); all_goals first | (refine hK _ _ ?_; clear hK K; simp only [stU]) | exact hK | omega)))) <;> (fail_if_success (show False; skip)))
              refine ⟨(k + 1, H), by dsimp only; omega, by rw [hmt]; exact hgood, fun i => by rw [hmt]; exact hpk i, by dsimp only; omega, nm [], Wk.of ?_⟩
              simp (disch := omega) only [go_sem, Int.reduceEq, ↓reduceIte, reduceCtorEq, Nat.reduceEqDiff, Nat.reduceLT, Nat.reduceLeDiff, Nat.reduceAdd, Nat.reduceSub, Nat.reduceMul, Int.reduceToNat, Int.reduceLE, Int.reduceLT, J0, stJ, hmt, hP', hc2]
              rfl
          · subst hp0
            have q4 : decide (c.ps < 1) = false := decide_eq_false (by omega)
            have q5 : decide (64 < c.ps) = true := decide_eq_true (by omega)
            have hbad := hgo (by omega)
            repeat' ((first
 | refine AW.seq ?_
 | refine AW.block ?_
 | refine AW.regl J0_ok [0, 1, 2, 6, 7, 8, 9, 11, 13, 14, 15, 16, 17, 19, 20, 21, 22, 34, 36, 50, 59, 66, 67, 68, 77] ?_
 | refine then_n ?_
 | refine then_r ?_
 | refine then_x ?_
 | refine block_x ?_
 | refine block_o (by decide) ?_
 | refine block_n ?_
 | refine block_r ?_
 | refine AW.skip ?_
 | refine AW.ret ?_
 | refine AW.exit ?_
 | refine AW.cond rfl ?_ ?_
 | refine awl_none rfl ?_
 | refine awl_nil2 ?_
 | refine awl_some rfl rfl (Nat.le_of_ble_eq_true rfl) rfl rfl ?_ ?_
 | (refine fun (hc : _ = _) => ?_; first | cases hc | ((try rw [hc]); (try simp only [stH] at hc); (try (exfalso; omega))); (try (show Awl _ _ _ _ _; simp only [stU])))
 | ((first | refine fun (K : V → List _ → _) hK => ?_ | refine fun (_ : V → V) => ?_); simp (disch := omega) only [go_sem, Int.reduceEq, ↓reduceIte, reduceCtorEq, Nat.reduceEqDiff, Nat.reduceLT, Nat.reduceLeDiff, Nat.reduceAdd, Nat.reduceSub, Nat.reduceMul, Int.reduceToNat, Int.reduceLE, Int.reduceLT, J0, stJ, e1, eC, hm, hP, h1, h2, hd1, hd2, q4, q5, all_C]; (try (revert hK; intro hK; (repeat' first | (refine And.intro ?_ ?_) | (intro hc; first | cases hc | ((try rw [hc]); (try simp only [stH] at hc); (try (exfalso; omega))))); all_goals first | (refine hK _ _ ?_; clear hK K; simp only [stU]) | exact hK | omega)))) <;> (fail_if_success (show False; skip)))
            all_goals (refine Ends.of (nm []) (by first | exact .inl rfl | exact .inr rfl) ?_; simp (disch := omega) only [go_sem, Int.reduceEq, ↓reduceIte, reduceCtorEq, Nat.reduceEqDiff, Nat.reduceLT, Nat.reduceLeDiff, Nat.reduceAdd, Nat.reduceSub, Nat.reduceMul, Int.reduceToNat, Int.reduceLE, Int.reduceLT, J0, hbad])
        · subst hp0
          have q4 : decide (c.ps < 1) = true := decide_eq_true (by omega)
          have hbad := hgo (by omega)
          repeat' ((first
 | refine AW.seq ?_
 | refine AW.block ?_
 | refine AW.regl J0_ok [0, 1, 2, 6, 7, 8, 9, 11, 13, 14, 15, 16, 17, 19, 20, 21, 22, 34, 36, 50, 59, 66, 67, 68, 77] ?_
 | refine then_n ?_
 | refine then_r ?_
 | refine then_x ?_
 | refine block_x ?_
 | refine block_o (by decide) ?_
 | refine block_n ?_
 | refine block_r ?_
 | refine AW.skip ?_
 | refine AW.ret ?_
 | refine AW.exit ?_
 | refine AW.cond rfl ?_ ?_
 | refine awl_none rfl ?_
 | refine awl_nil2 ?_
 | refine awl_some rfl rfl (Nat.le_of_ble_eq_true rfl) rfl rfl ?_ ?_
 | (refine fun (hc : _ = _) => ?_; first | cases hc | ((try rw [hc]); (try simp only [stH] at hc); (try (exfalso; omega))); (try (show Awl _ _ _ _ _; simp only [stU])))
 | ((first | refine fun (K : V → List _ → _) hK => ?_ | refine fun (_ : V → V) => ?_); simp (disch := omega) only [go_sem, Int.reduceEq, ↓reduceIte, reduceCtorEq, Nat.reduceEqDiff, Nat.reduceLT, Nat.reduceLeDiff, Nat.reduceAdd, Nat.reduceSub, Nat.reduceMul, Int.reduceToNat, Int.reduceLE, Int.reduceLT, J0, stJ, e1, eC, hm, hP, h1, h2, hd1, hd2, q4, all_C]; (try (revert hK; intro hK; (repeat' first | (refine And.intro ?_ ?_) | (intro hc; first | cases hc | ((try rw [hc]); (try simp only [stH] at hc); (try (exfalso; omega))))); all_goals first | (refine hK _ _ ?_; clear hK K; simp only [stU]) | exact hK | omega)))) <;> (fail_if_success (show False; skip)))
          all_goals (refine Ends.of (nm []) (by first | exact .inl rfl | exact .inr rfl) ?_; simp (disch := omega) only [go_sem, Int.reduceEq, ↓reduceIte, reduceCtorEq, Nat.reduceEqDiff, Nat.reduceLT, Nat.reduceLeDiff, Nat.reduceAdd, Nat.reduceSub, Nat.reduceMul, Int.reduceToNat, Int.reduceLE, Int.reduceLT, J0, hbad])
      · have hc2 : P' = P := hp1
        by_cases q1 : c.ps = P'
        · have q0 : c.ps = P := by omega
          by_cases q2 : 1 ≤ P'
          · by_cases q3 : P' ≤ 64
            · have q4 : decide (P < 1) = false := decide_eq_false (by omega)
              have q5 : decide (64 < P) = false := decide_eq_false (by omega)
              have hgood := hgi ⟨q1, q2, q3⟩
              cases hlk : lk c.pt H with
              | none =>
                rw [hlk] at hfd
                have hsn := mpD_snoc H c.pt c.dt
                repeat' ((first
 | refine AW.seq ?_
 | refine AW.block ?_
 | refine AW.regl J0_ok [0, 1, 2, 6, 7, 8, 9, 11, 13, 14, 15, 16, 17, 19, 20, 21, 22, 34, 36, 50, 59, 66, 67, 68, 77] ?_
 | refine then_n ?_
 | refine then_r ?_
 | refine then_x ?_
 | refine block_x ?_
 | refine block_o (by decide) ?_
 | refine block_n ?_
 | refine block_r ?_
 | refine AW.skip ?_
 | refine AW.ret ?_
 | refine AW.exit ?_
 | refine AW.cond rfl ?_ ?_
 | refine awl_none rfl ?_
 | refine awl_nil2 ?_
 | refine awl_some rfl rfl (Nat.le_of_ble_eq_true rfl) rfl rfl ?_ ?_
 | (refine fun (hc : _ = _) => ?_; first | cases hc | ((try rw [hc]); (try simp only [stH] at hc); (try (exfalso; omega))); (try (show Awl _ _ _ _ _; simp only [stU])))
 | ((first | refine fun (K : V → List _ → _) hK => ?_ | refine fun (_ : V → V) => ?_); simp (disch := omega) only [go_sem, Int.reduceEq, ↓reduceIte, reduceCtorEq, Nat.reduceEqDiff, Nat.reduceLT, Nat.reduceLeDiff, Nat.reduceAdd, Nat.reduceSub, Nat.reduceMul, Int.reduceToNat, Int.reduceLE, Int.reduceLT, J0, stJ, e1, eC, hm, hP, h1, h2, hd1, hd2, hp0, q0, q4, q5, hfd, hsn, all_C]; (try (revert hK; intro hK; (repeat' first | (refine And.intro ?_ ?_) | (intro hc; first | cases hc | ((try rw [hc]); (try simp only [stH] at hc); (try (exfalso; omega))))); all_goals first | (refine hK _ _ ?_; clear hK K; simp only [stU]) | exact hK | omega)))) <;> (fail_if_success (show False; skip)))
                refine ⟨(k + 1, H ++ [(c.pt, c.dt)]), by dsimp only; omega, by rw [hmt]; exact hgood, fun i => by rw [hmt, lk_snoc, pick_snoc, hH i], by dsimp only; omega, nm [], Wk.of ?_⟩
                simp (disch := omega) only [go_sem, Int.reduceEq, ↓reduceIte, reduceCtorEq, Nat.reduceEqDiff, Nat.reduceLT, Nat.reduceLeDiff, Nat.reduceAdd, Nat.reduceSub, Nat.reduceMul, Int.reduceToNat, Int.reduceLE, Int.reduceLT, J0, stJ, hmt, hP', hc2]
                rfl
              | some x =>
                rw [hlk] at hfd
                have hpk : ∀ i, lk i H = pick (m ++ [c]) i := fun i => by
                  rw [pick_snoc, ← hH i]
                  by_cases e : c.pt = i
                  · rw [← e, hlk]
                  · rw [if_neg e]; cases lk i H <;> rfl
                repeat' ((first
 | refine AW.seq ?_
 | refine AW.block ?_
 | refine AW.regl J0_ok [0, 1, 2, 6, 7, 8, 9, 11, 13, 14, 15, 16, 17, 19, 20, 21, 22, 34, 36, 50, 59, 66, 67, 68, 77] ?_
 | refine then_n ?_
 | refine then_r ?_
 | refine then_x ?_
 | refine block_x ?_
 | refine block_o (by decide) ?_
 | refine block_n ?_
 | refine block_r ?_
 | refine AW.skip ?_
 | refine AW.ret ?_
 | refine AW.exit ?_
 | refine AW.cond rfl ?_ ?_
 | refine awl_none rfl ?_
 | refine awl_nil2 ?_
 | refine awl_some rfl rfl (Nat.le_of_ble_eq_true rfl) rfl rfl ?_ ?_
 | (refine fun (hc : _ = _) => ?_; first | cases hc | ((try rw [hc]); (try simp only [stH] at hc); (try (exfalso; omega))); (try (show Awl _ _ _ _ _; simp only [stU])))
 | ((first | refine fun (K : V → List _ → _) hK => ?_ | refine fun (_ : V → V) => ?_); simp (disch := omega) only [go_sem, Int.reduceEq, ↓reduceIte, reduceCtorEq, Nat.reduceEqDiff, Nat.reduceLT, Nat.reduceLeDiff, Nat.reduceAdd, Nat.reduceSub, Nat.reduceMul, Int.reduceToNat, Int.reduceLE, Int.reduceLT, J0, stJ, e1, eC, hm, hP, h1, h2, hd1, hd2, hp0, q0, q4, q5, hfd, all_C]; (try (revert hK; intro hK; (repeat' first | (refine And.intro ?_ ?_) | (intro hc; first | cases hc | ((try rw [hc]); (try simp only [stH] at hc); (try (exfalso; omega))))); all_goals first | (refine hK _ _ ?_; clear hK K; simp only [stU]) | exact hK | omega)))) <;> (fail_if_success (show False; skip)))
                refine ⟨(k + 1, H), by dsimp only; omega, by rw [hmt]; exact hgood, fun i => by rw [hmt]; exact hpk i, by dsimp only; omega, nm [], Wk.of ?_⟩
                simp (disch := omega) only [go_sem, Int.reduceEq, ↓reduceIte, reduceCtorEq, Nat.reduceEqDiff, Nat.reduceLT, Nat.reduceLeDiff, Nat.reduceAdd, Nat.reduceSub, Nat.reduceMul, Int.reduceToNat, Int.reduceLE, Int.reduceLT, J0, stJ, hmt, hP', hc2]
                rfl
            · have q4 : decide (P < 1) = false := decide_eq_false (by omega)
              have q5 : decide (64 < P) = true := decide_eq_true (by omega)
              have hbad := hgo (by omega)
              repeat' ((first
 | refine AW.seq ?_
 | refine AW.block ?_
 | refine AW.regl J0_ok [0, 1, 2, 6, 7, 8, 9, 11, 13, 14, 15, 16, 17, 19, 20, 21, 22, 34, 36, 50, 59, 66, 67, 68, 77] ?_
 | refine then_n ?_
 | refine then_r ?_
 | refine then_x ?_
 | refine block_x ?_
 | refine block_o (by decide) ?_
 | refine block_n ?_
 | refine block_r ?_
 | refine AW.skip ?_
 | refine AW.ret ?_
 | refine AW.exit ?_
 | refine AW.cond rfl ?_ ?_
 | refine awl_none rfl ?_
 | refine awl_nil2 ?_
 | refine awl_some rfl rfl (Nat.le_of_ble_eq_true rfl) rfl rfl ?_ ?_
 | (refine fun (hc : _ = _) => ?_; first | cases hc | ((try rw [hc]); (try simp only [stH] at hc); (try (exfalso; omega))); (try (show Awl _ _ _ _ _; simp only [stU])))
 | ((first | refine fun (K : V → List _ → _) hK => ?_ | refine fun (_ : V → V) => ?_); simp (disch := omega) only [go_sem, Int.reduceEq, ↓reduceIte, reduceCtorEq, Nat.reduceEqDiff, Nat.reduceLT, Nat.reduceLeDiff, Nat.reduceAdd, Nat.reduceSub, Nat.reduceMul, Int.reduceToNat, Int.reduceLE, Int.reduceLT, J0, stJ, e1, eC, hm, hP, h1, h2, hd1, hd2, hp0, q0, q4, q5, all_C]; (try (revert hK; intro hK; (repeat' first | (refine And.intro ?_ ?_) | (intro hc; first | cases hc | ((try rw [hc]); (try simp only [stH] at hc); (try (exfalso; omega))))); all_goals first | (refine hK _ _ ?_; clear hK K; simp only [stU]) | exact hK | omega)))) <;> (fail_if_success (show False; skip)))
              all_goals (refine Ends.of (nm []) (by first | exact .inl rfl | exact .inr rfl) ?_; simp (disch := omega) only [go_sem, Int.reduceEq, ↓reduceIte, reduceCtorEq, Nat.reduceEqDiff, Nat.reduceLT, Nat.reduceLeDiff, Nat.reduceAdd, Nat.reduceSub, Nat.reduceMul, Int.reduceToNat, Int.reduceLE, Int.reduceLT, J0, hbad])
          · have q4 : decide (P < 1) = true := decide_eq_true (by omega)
            have hbad := hgo (by omega)
            repeat' ((first
 | refine AW.seq ?_
 | refine AW.block ?_
 | refine AW.regl J0_ok [0, 1, 2, 6, 7, 8, 9, 11, 13, 14, 15, 16, 17, 19, 20, 21, 22, 34, 36, 50, 59, 66, 67, 68, 77] ?_
 | refine then_n ?_
 | refine then_r ?_
 | refine then_x ?_
 | refine block_x ?_
 | refine block_o (by decide) ?_
 | refine block_n ?_
 | refine block_r ?_
 | refine AW.skip ?_
 | refine AW.ret ?_
 | refine AW.exit ?_
 | refine AW.cond rfl ?_ ?_
 | refine awl_none rfl ?_
 | refine awl_nil2 ?_
 | refine awl_some rfl rfl (Nat.le_of_ble_eq_true rfl) rfl rfl ?_ ?_
 | (refine fun (hc : _ = _) => ?_; first | cases hc | ((try rw [hc]); (try simp only [stH] at hc); (try (exfalso; omega))); (try (show Awl _ _ _ _ _; simp only [stU])))
 | ((first | refine fun (K : V → List _ → _) hK => ?_ | refine fun (_ : V → V) => ?_); simp (disch := omega) only [go_sem, Int.reduceEq, ↓reduceIte, reduceCtorEq, Nat.reduceEqDiff, Nat.reduceLT, Nat.reduceLeDiff, Nat.reduceAdd, Nat.reduceSub, Nat.reduceMul, Int.reduceToNat, Int.reduceLE, Int.reduceLT, J0, stJ, e1, eC, hm, hP, h1, h2, hd1, hd2, hp0, q0, q4, all_C]; (try (revert hK; intro hK; (repeat' first | (refine And.intro ?_ ?_) | (intro hc; first | cases hc | ((try rw [hc]); (try simp only [stH] at hc); (try (exfalso; omega))))); all_goals first | (refine hK _ _ ?_; clear hK K; simp only [stU]) | exact hK | omega)))) <;> (fail_if_success (show False; skip)))
            all_goals (refine Ends.of (nm []) (by first | exact .inl rfl | exact .inr rfl) ?_; simp (disch := omega) only [go_sem, Int.reduceEq, ↓reduceIte, reduceCtorEq, Nat.reduceEqDiff, Nat.reduceLT, Nat.reduceLeDiff, Nat.reduceAdd, Nat.reduceSub, Nat.reduceMul, Int.reduceToNat, Int.reduceLE, Int.reduceLT, J0, hbad])
        · have q0 : ¬ c.ps = P := by omega
          have hbad := hgo (by omega)
          repeat' ((first
 | refine AW.seq ?_
 | refine AW.block ?_
 | refine AW.regl J0_ok [0, 1, 2, 6, 7, 8, 9, 11, 13, 14, 15, 16, 17, 19, 20, 21, 22, 34, 36, 50, 59, 66, 67, 68, 77] ?_
 | refine then_n ?_
 | refine then_r ?_
 | refine then_x ?_
 | refine block_x ?_
 | refine block_o (by decide) ?_
 | refine block_n ?_
 | refine block_r ?_
 | refine AW.skip ?_
 | refine AW.ret ?_
 | refine AW.exit ?_
 | refine AW.cond rfl ?_ ?_
 | refine awl_none rfl ?_
 | refine awl_nil2 ?_
 | refine awl_some rfl rfl (Nat.le_of_ble_eq_true rfl) rfl rfl ?_ ?_
 | (refine fun (hc : _ = _) => ?_; first | cases hc | ((try rw [hc]); (try simp only [stH] at hc); (try (exfalso; omega))); (try (show Awl _ _ _ _ _; simp only [stU])))
 | ((first | refine fun (K : V → List _ → _) hK => ?_ | refine fun (_ : V → V) => ?_); simp (disch := omega) only [go_sem, Int.reduceEq, ↓reduceIte, reduceCtorEq, Nat.reduceEqDiff, Nat.reduceLT, Nat.reduceLeDiff, Nat.reduceAdd, Nat.reduceSub, Nat.reduceMul, Int.reduceToNat, Int.reduceLE, Int.reduceLT, J0, stJ, e1, eC, hm, hP, h1, h2, hd1, hd2, hp0, q0, all_C]; (try (revert hK; intro hK; (repeat' first | (refine And.intro ?_ ?_) | (intro hc; first | cases hc | ((try rw [hc]); (try simp only [stH] at hc); (try (exfalso; omega))))); all_goals first | (refine hK _ _ ?_; clear hK K; simp only [stU]) | exact hK | omega)))) <;> (fail_if_success (show False; skip)))
          all_goals (refine Ends.of (nm []) (by first | exact .inl rfl | exact .inr rfl) ?_; simp (disch := omega) only [go_sem, Int.reduceEq, ↓reduceIte, reduceCtorEq, Nat.reduceEqDiff, Nat.reduceLT, Nat.reduceLeDiff, Nat.reduceAdd, Nat.reduceSub, Nat.reduceMul, Int.reduceToNat, Int.reduceLE, Int.reduceLT, J0, hbad])
    · have him : ¬ isMine life num c = true := by simpa [isMine] using hmi
      rw [if_neg him, List.append_nil] at hmt
      by_cases h1 : c.lf = life
      · have h2 : ¬ c.nu = num := fun h2 => hmi ⟨h1, h2⟩
        repeat' ((first
 | refine AW.seq ?_
 | refine AW.block ?_
 | refine AW.regl J0_ok [0, 1, 2, 6, 7, 8, 9, 11, 13, 14, 15, 16, 17, 19, 20, 21, 22, 34, 36, 50, 59, 66, 67, 68, 77] ?_
 | refine then_n ?_
 | refine then_r ?_
 | refine then_x ?_
 | refine block_x ?_
 | refine block_o (by decide) ?_
 | refine block_n ?_
 | refine block_r ?_
 | refine AW.skip ?_
 | refine AW.ret ?_
 | refine AW.exit ?_
 | refine AW.cond rfl ?_ ?_
 | refine awl_none rfl ?_
 | refine awl_nil2 ?_
 | refine awl_some rfl rfl (Nat.le_of_ble_eq_true rfl) rfl rfl ?_ ?_
 | (refine fun (hc : _ = _) => ?_; first | cases hc | ((try rw [hc]); (try simp only [stH] at hc); (try (exfalso; omega))); (try (show Awl _ _ _ _ _; simp only [stU])))
 | ((first | refine fun (K : V → List _ → _) hK => ?_ | refine fun (_ : V → V) => ?_); simp (disch := omega) only [go_sem, Int.reduceEq, ↓reduceIte, reduceCtorEq, Nat.reduceEqDiff, Nat.reduceLT, Nat.reduceLeDiff, Nat.reduceAdd, Nat.reduceSub, Nat.reduceMul, Int.reduceToNat, Int.reduceLE, Int.reduceLT, J0, stJ, e1, eC, hm, h1, h2, all_C]; (try (revert hK; intro hK; (repeat' first | (refine And.intro ?_ ?_) | (intro hc; first | cases hc | ((try rw [hc]); (try simp only [stH] at hc); (try (exfalso; omega))))); all_goals first | (refine hK _ _ ?_; clear hK K; simp only [stU]) | exact hK | omega)))) <;> (fail_if_success (show False; skip)))
        refine ⟨(k + 1, H), by dsimp only; omega, by rw [hmt]; exact hg, by rw [hmt]; exact hH, by dsimp only; omega, nm [], Wk.of ?_⟩
        simp (disch := omega) only [go_sem, Int.reduceEq, ↓reduceIte, reduceCtorEq, Nat.reduceEqDiff, Nat.reduceLT, Nat.reduceLeDiff, Nat.reduceAdd, Nat.reduceSub, Nat.reduceMul, Int.reduceToNat, Int.reduceLE, Int.reduceLT, J0, stJ, hm, hmt]
        rfl
      · repeat' ((first
 | refine AW.seq ?_
 | refine AW.block ?_
 | refine AW.regl J0_ok [0, 1, 2, 6, 7, 8, 9, 11, 13, 14, 15, 16, 17, 19, 20, 21, 22, 34, 36, 50, 59, 66, 67, 68, 77] ?_
 | refine then_n ?_
 | refine then_r ?_
 | refine then_x ?_
 | refine block_x ?_
 | refine block_o (by decide) ?_
 | refine block_n ?_
 | refine block_r ?_
 | refine AW.skip ?_
 | refine AW.ret ?_
 | refine AW.exit ?_
 | refine AW.cond rfl ?_ ?_
 | refine awl_none rfl ?_
 | refine awl_nil2 ?_
 | refine awl_some rfl rfl (Nat.le_of_ble_eq_true rfl) rfl rfl ?_ ?_
 | (refine fun (hc : _ = _) => ?_; first | cases hc | ((try rw [hc]); (try simp only [stH] at hc); (try (exfalso; omega))); (try (show Awl _ _ _ _ _; simp only [stU])))
 | ((first | refine fun (K : V → List _ → _) hK => ?_ | refine fun (_ : V → V) => ?_); simp (disch := omega) only [go_sem, Int.reduceEq, ↓reduceIte, reduceCtorEq, Nat.reduceEqDiff, Nat.reduceLT, Nat.reduceLeDiff, Nat.reduceAdd, Nat.reduceSub, Nat.reduceMul, Int.reduceToNat, Int.reduceLE, Int.reduceLT, J0, stJ, e1, eC, hm, h1, all_C]; (try (revert hK; intro hK; (repeat' first | (refine And.intro ?_ ?_) | (intro hc; first | cases hc | ((try rw [hc]); (try simp only [stH] at hc); (try (exfalso; omega))))); all_goals first | (refine hK _ _ ?_; clear hK K; simp only [stU]) | exact hK | omega)))) <;> (fail_if_success (show False; skip)))
        refine ⟨(k + 1, H), by dsimp only; omega, by rw [hmt]; exact hg, by rw [hmt]; exact hH, by dsimp only; omega, nm [], Wk.of ?_⟩
        simp (disch := omega) only [go_sem, Int.reduceEq, ↓reduceIte, reduceCtorEq, Nat.reduceEqDiff, Nat.reduceLT, Nat.reduceLeDiff, Nat.reduceAdd, Nat.reduceSub, Nat.reduceMul, Int.reduceToNat, Int.reduceLE, Int.reduceLT, J0, stJ, hm, hmt]
        rfl
  · obtain rfl : k = l.length := by omega
    rw [List.take_length] at hg hH
    obtain ⟨m, hm⟩ : ∃ m, mine life num l = m := ⟨_, rfl⟩
    rw [hm] at hg hH
    have htl : mine life num (l.take l.length) = m := by rw [List.take_length]; exact hm
    obtain ⟨P, hP⟩ : ∃ P, pz m = P := ⟨_, rfl⟩
    by_cases hm0 : m = []
    · have hP0 : P = 0 := by rw [← hP, hm0]; rfl
      subst hP0
      have hout : joinOut life num l = ⟨.tup [.nil, .d (.v (.bool false))], []⟩ := by
        unfold joinOut joinL; rw [hm, if_pos hm0]
      repeat' ((first
 | refine AW.seq ?_
 | refine AW.block ?_
 | refine AW.regl J0_ok [0, 1, 2, 6, 7, 8, 9, 11, 13, 14, 15, 16, 17, 19, 20, 21, 22, 34, 36, 50, 59, 66, 67, 68, 77] ?_
 | refine then_n ?_
 | refine then_r ?_
 | refine then_x ?_
 | refine block_x ?_
 | refine block_o (by decide) ?_
 | refine block_n ?_
 | refine block_r ?_
 | refine AW.skip ?_
 | refine AW.ret ?_
 | refine AW.exit ?_
 | refine AW.cond rfl ?_ ?_
 | refine awl_none rfl ?_
 | refine awl_nil2 ?_
 | refine awl_some rfl rfl (Nat.le_of_ble_eq_true rfl) rfl rfl ?_ ?_
 | (refine fun (hc : _ = _) => ?_; first | cases hc | ((try rw [hc]); (try simp only [stH] at hc); (try (exfalso; omega))); (try (show Awl _ _ _ _ _; simp only [stU])))
 | ((first | refine fun (K : V → List _ → _) hK => ?_ | refine fun (_ : V → V) => ?_); simp (disch := omega) only [go_sem, Int.reduceEq, ↓reduceIte, reduceCtorEq, Nat.reduceEqDiff, Nat.reduceLT, Nat.reduceLeDiff, Nat.reduceAdd, Nat.reduceSub, Nat.reduceMul, Int.reduceToNat, Int.reduceLE, Int.reduceLT, J0, stJ, htl, hP]; (try (revert hK; intro hK; (repeat' first | (refine And.intro ?_ ?_) | (intro hc; first | cases hc | ((try rw [hc]); (try simp only [stH] at hc); (try (exfalso; omega))))); all_goals first | (refine hK _ _ ?_; clear hK K; simp only [stU]) | exact hK | omega)))) <;> (fail_if_success (show False; skip)))
      refine AW.loop_wk (fun _ : Unit => ⟨[(8, .d (.v (.int .i64 0))), (14, .nil), (66, .d (.v (.int .i64 0))), (67, .d (.v (.int .i64 0)))], [], 85⟩) (fun _ => True) (fun _ => 0) () trivial (fun w0 oa a w hs => Wk.sr (ρ := nm []) (Wk.of ?_) hs) ?_
      · simp (disch := omega) only [go_sem, Int.reduceEq, ↓reduceIte, reduceCtorEq, Nat.reduceEqDiff, Nat.reduceLT, Nat.reduceLeDiff, Nat.reduceAdd, Nat.reduceSub, Nat.reduceMul, Int.reduceToNat, Int.reduceLE, Int.reduceLT, J0]
      intro _ _
      repeat' ((first
 | refine AW.seq ?_
 | refine AW.block ?_
 | refine AW.regl J0_ok [0, 1, 2, 6, 7, 8, 9, 11, 13, 14, 15, 16, 17, 19, 20, 21, 22, 34, 36, 50, 59, 66, 67, 68, 77] ?_
 | refine then_n ?_
 | refine then_r ?_
 | refine then_x ?_
 | refine block_x ?_
 | refine block_o (by decide) ?_
 | refine block_n ?_
 | refine block_r ?_
 | refine AW.skip ?_
 | refine AW.ret ?_
 | refine AW.exit ?_
 | refine AW.cond rfl ?_ ?_
 | refine awl_none rfl ?_
 | refine awl_nil2 ?_
 | refine awl_some rfl rfl (Nat.le_of_ble_eq_true rfl) rfl rfl ?_ ?_
 | (refine fun (hc : _ = _) => ?_; first | cases hc | ((try rw [hc]); (try simp only [stH] at hc); (try (exfalso; omega))); (try (show Awl _ _ _ _ _; simp only [stU])))
 | ((first | refine fun (K : V → List _ → _) hK => ?_ | refine fun (_ : V → V) => ?_); simp (disch := omega) only [go_sem, Int.reduceEq, ↓reduceIte, reduceCtorEq, Nat.reduceEqDiff, Nat.reduceLT, Nat.reduceLeDiff, Nat.reduceAdd, Nat.reduceSub, Nat.reduceMul, Int.reduceToNat, Int.reduceLE, Int.reduceLT, J0]; (try (revert hK; intro hK; (repeat' first | (refine And.intro ?_ ?_) | (intro hc; first | cases hc | ((try rw [hc]); (try simp only [stH] at hc); (try (exfalso; omega))))); all_goals first | (refine hK _ _ ?_; clear hK K; simp only [stU]) | exact hK | omega)))) <;> (fail_if_success (show False; skip)))
      all_goals (refine Ends.of (nm []) (by first | exact .inl rfl | exact .inr rfl) ?_; simp (disch := omega) only [go_sem, Int.reduceEq, ↓reduceIte, reduceCtorEq, Nat.reduceEqDiff, Nat.reduceLT, Nat.reduceLeDiff, Nat.reduceAdd, Nat.reduceSub, Nat.reduceMul, Int.reduceToNat, Int.reduceLE, Int.reduceLT, J0, hout])
    · have hPr : 1 ≤ P ∧ P ≤ 64 := by
        cases m with
        | nil => exact absurd rfl hm0
        | cons a r => have := (hg a (List.mem_cons_self ..)).2; rw [hP] at this; exact this
      obtain ⟨N, hN⟩ : ∃ N : Nat, P = N := ⟨P.toNat, by omega⟩
      subst hN
      have hout : joinOut life num l = match gath m N with
          | none => ⟨.tup [.nil, .d (.v (.bool false))], []⟩
          | some b => ⟨.tup [.sl 0 1 0 b.length true, .d (.v (.bool true))], [(0, .row 5 1 (b.map mB))]⟩ := by
        unfold joinOut joinL; rw [hm, if_neg hm0, if_pos hg, hP]; rfl
      have hBm : ∀ c ∈ m, c.dt.length ≤ 1000000 := fun c hc => hB c (by rw [← hm] at hc; exact (List.mem_filter.1 hc).1)
      repeat' ((first
 | refine AW.seq ?_
 | refine AW.block ?_
 | refine AW.regl J0_ok [0, 1, 2, 6, 7, 8, 9, 11, 13, 14, 15, 16, 17, 19, 20, 21, 22, 34, 36, 50, 59, 66, 67, 68, 77] ?_
 | refine then_n ?_
 | refine then_r ?_
 | refine then_x ?_
 | refine block_x ?_
 | refine block_o (by decide) ?_
 | refine block_n ?_
 | refine block_r ?_
 | refine AW.skip ?_
 | refine AW.ret ?_
 | refine AW.exit ?_
 | refine AW.cond rfl ?_ ?_
 | refine awl_none rfl ?_
 | refine awl_nil2 ?_
 | refine awl_some rfl rfl (Nat.le_of_ble_eq_true rfl) rfl rfl ?_ ?_
 | (refine fun (hc : _ = _) => ?_; first | cases hc | ((try rw [hc]); (try simp only [stH] at hc); (try (exfalso; omega))); (try (show Awl _ _ _ _ _; simp only [stU])))
 | ((first | refine fun (K : V → List _ → _) hK => ?_ | refine fun (_ : V → V) => ?_); simp (disch := omega) only [go_sem, Int.reduceEq, ↓reduceIte, reduceCtorEq, Nat.reduceEqDiff, Nat.reduceLT, Nat.reduceLeDiff, Nat.reduceAdd, Nat.reduceSub, Nat.reduceMul, Int.reduceToNat, Int.reduceLE, Int.reduceLT, J0, stJ, htl, hP]; (try (revert hK; intro hK; (repeat' first | (refine And.intro ?_ ?_) | (intro hc; first | cases hc | ((try rw [hc]); (try simp only [stH] at hc); (try (exfalso; omega))))); all_goals first | (refine hK _ _ ?_; clear hK K; simp only [stU]) | exact hK | omega)))) <;> (fail_if_success (show False; skip)))
      refine AW.loop_wk (fun p : Nat × List Int => stK m N H p.1 p.2) (fun p => p.1 ≤ N ∧ gath m p.1 = some p.2) (fun p => N - p.1) (0, []) ⟨Nat.zero_le _, rfl⟩ ?_ ?_
      · intro w0 oa a w hs
        refine Wk.sr (ρ := nm []) (Wk.of ?_) (nil_sr 14 100 5 1 rfl (by simp) rfl (by decide) hs)
        simp (disch := omega) only [go_sem, Int.reduceEq, ↓reduceIte, reduceCtorEq, Nat.reduceEqDiff, Nat.reduceLT, Nat.reduceLeDiff, Nat.reduceAdd, Nat.reduceSub, Nat.reduceMul, Int.reduceToNat, Int.reduceLE, Int.reduceLT, J0, stK]
      rintro ⟨n, b⟩ ⟨hn, hgn⟩
      simp only at hn hgn
      have hbl := gath_len hBm n b hgn
      have hbl2 : b.length ≤ 64000000 := Nat.le_trans hbl (by omega)
      by_cases hn1 : n < N
      · have hfd := findM_mpD (n : Int) H
        rw [hH (n : Int)] at hfd
        cases hpk : pick m (n : Int) with
        | none =>
          rw [hpk] at hfd
          have hnone : gath m N = none := gath_none (k := n + 1) hn1 (by simp only [gath, hgn, hpk, Option.map_none])
          rw [hnone] at hout
          repeat' ((first
 | refine AW.seq ?_
 | refine AW.block ?_
 | refine AW.regl J0_ok [0, 1, 2, 6, 7, 8, 9, 11, 13, 14, 15, 16, 17, 19, 20, 21, 22, 34, 36, 50, 59, 66, 67, 68, 77] ?_
 | refine then_n ?_
 | refine then_r ?_
 | refine then_x ?_
 | refine block_x ?_
 | refine block_o (by decide) ?_
 | refine block_n ?_
 | refine block_r ?_
 | refine AW.skip ?_
 | refine AW.ret ?_
 | refine AW.exit ?_
 | refine AW.cond rfl ?_ ?_
 | refine awl_none rfl ?_
 | refine awl_nil2 ?_
 | refine awl_some rfl rfl (Nat.le_of_ble_eq_true rfl) rfl rfl ?_ ?_
 | (refine fun (hc : _ = _) => ?_; first | cases hc | ((try rw [hc]); (try simp only [stH] at hc); (try (exfalso; omega))); (try (show Awl _ _ _ _ _; simp only [stU])))
 | ((first | refine fun (K : V → List _ → _) hK => ?_ | refine fun (_ : V → V) => ?_); simp (disch := omega) only [go_sem, Int.reduceEq, ↓reduceIte, reduceCtorEq, Nat.reduceEqDiff, Nat.reduceLT, Nat.reduceLeDiff, Nat.reduceAdd, Nat.reduceSub, Nat.reduceMul, Int.reduceToNat, Int.reduceLE, Int.reduceLT, J0, stK, hfd]; (try (revert hK; intro hK; (repeat' first | (refine And.intro ?_ ?_) | (intro hc; first | cases hc | ((try rw [hc]); (try simp only [stH] at hc); (try (exfalso; omega))))); all_goals first | (refine hK _ _ ?_; clear hK K; simp only [stU]) | exact hK | omega)))) <;> (fail_if_success (show False; skip)))
          all_goals (refine Ends.of (nm []) (by first | exact .inl rfl | exact .inr rfl) ?_; simp (disch := omega) only [go_sem, Int.reduceEq, ↓reduceIte, reduceCtorEq, Nat.reduceEqDiff, Nat.reduceLT, Nat.reduceLeDiff, Nat.reduceAdd, Nat.reduceSub, Nat.reduceMul, Int.reduceToNat, Int.reduceLE, Int.reduceLT, J0, hout])
        | some x =>
          rw [hpk] at hfd
          have hg1 : gath m (n + 1) = some (b ++ x) := by simp only [gath, hgn, hpk, Option.map_some]
          have hbl3 := gath_len hBm (n + 1) (b ++ x) hg1
          have hbl4 : (b ++ x).length ≤ 64000000 := Nat.le_trans hbl3 (by omega)
          rw [List.length_append] at hbl4
          have hap : b.map mB ++ x.map mB = (b ++ x).map mB := by simp
          repeat' ((first
 | refine AW.seq ?_
 | refine AW.block ?_
 | refine AW.regl J0_ok [0, 1, 2, 6, 7, 8, 9, 11, 13, 14, 15, 16, 17, 19, 20, 21, 22, 34, 36, 50, 59, 66, 67, 68, 77] ?_
 | refine then_n ?_
 | refine then_r ?_
 | refine then_x ?_
 | refine block_x ?_
 | refine block_o (by decide) ?_
 | refine block_n ?_
 | refine block_r ?_
 | refine AW.skip ?_
 | refine AW.ret ?_
 | refine AW.exit ?_
 | refine AW.cond rfl ?_ ?_
 | refine awl_none rfl ?_
 | refine awl_nil2 ?_
 | refine awl_some rfl rfl (Nat.le_of_ble_eq_true rfl) rfl rfl ?_ ?_
 | (refine fun (hc : _ = _) => ?_; first | cases hc | ((try rw [hc]); (try simp only [stH] at hc); (try (exfalso; omega))); (try (show Awl _ _ _ _ _; simp only [stU])))
 | ((first | refine fun (K : V → List _ → _) hK => ?_ | refine fun (_ : V → V) => ?_); simp (disch := omega) only [go_sem, Int.reduceEq, ↓reduceIte, reduceCtorEq, Nat.reduceEqDiff, Nat.reduceLT, Nat.reduceLeDiff, Nat.reduceAdd, Nat.reduceSub, Nat.reduceMul, Int.reduceToNat, Int.reduceLE, Int.reduceLT, J0, stK, hfd, hap]; (try (revert hK; intro hK; (repeat' first | (refine And.intro ?_ ?_) | (intro hc; first | cases hc | ((try rw [hc]); (try simp only [stH] at hc); (try (exfalso; omega))))); all_goals first | (refine hK _ _ ?_; clear hK K; simp only [stU]) | exact hK | omega)))) <;> (fail_if_success (show False; skip)))
          refine ⟨(n + 1, b ++ x), by dsimp only; omega, hg1, by dsimp only; omega, nm [(100, 80)], Wk.of ?_⟩
          simp (disch := omega) only [go_sem, Int.reduceEq, ↓reduceIte, reduceCtorEq, Nat.reduceEqDiff, Nat.reduceLT, Nat.reduceLeDiff, Nat.reduceAdd, Nat.reduceSub, Nat.reduceMul, Int.reduceToNat, Int.reduceLE, Int.reduceLT, J0, stK]
          rfl
      · obtain rfl : n = N := by omega
        rw [hgn] at hout
        have q9 : decide ((0 : Int) < (n : Int)) = true := decide_eq_true (by omega)
        repeat' ((first
 | refine AW.seq ?_
 | refine AW.block ?_
 | refine AW.regl J0_ok [0, 1, 2, 6, 7, 8, 9, 11, 13, 14, 15, 16, 17, 19, 20, 21, 22, 34, 36, 50, 59, 66, 67, 68, 77] ?_
 | refine then_n ?_
 | refine then_r ?_
 | refine then_x ?_
 | refine block_x ?_
 | refine block_o (by decide) ?_
 | refine block_n ?_
 | refine block_r ?_
 | refine AW.skip ?_
 | refine AW.ret ?_
 | refine AW.exit ?_
 | refine AW.cond rfl ?_ ?_
 | refine awl_none rfl ?_
 | refine awl_nil2 ?_
 | refine awl_some rfl rfl (Nat.le_of_ble_eq_true rfl) rfl rfl ?_ ?_
 | (refine fun (hc : _ = _) => ?_; first | cases hc | ((try rw [hc]); (try simp only [stH] at hc); (try (exfalso; omega))); (try (show Awl _ _ _ _ _; simp only [stU])))
 | ((first | refine fun (K : V → List _ → _) hK => ?_ | refine fun (_ : V → V) => ?_); simp (disch := omega) only [go_sem, Int.reduceEq, ↓reduceIte, reduceCtorEq, Nat.reduceEqDiff, Nat.reduceLT, Nat.reduceLeDiff, Nat.reduceAdd, Nat.reduceSub, Nat.reduceMul, Int.reduceToNat, Int.reduceLE, Int.reduceLT, J0, stK, q9]; (try (revert hK; intro hK; (repeat' first | (refine And.intro ?_ ?_) | (intro hc; first | cases hc | ((try rw [hc]); (try simp only [stH] at hc); (try (exfalso; omega))))); all_goals first | (refine hK _ _ ?_; clear hK K; simp only [stU]) | exact hK | omega)))) <;> (fail_if_success (show False; skip)))
        all_goals (refine Ends.of (nm [(0, 100)]) (by first | exact .inl rfl | exact .inr rfl) ?_; simp (disch := omega) only [go_sem, Int.reduceEq, ↓reduceIte, reduceCtorEq, Nat.reduceEqDiff, Nat.reduceLT, Nat.reduceLeDiff, Nat.reduceAdd, Nat.reduceSub, Nat.reduceMul, Int.reduceToNat, Int.reduceLE, Int.reduceLT, J0, hout])
theorem ent_cells_Join : Ent Try.prog 18 := ⟨_, Try.func18, rfl, by decide⟩
end Go.Proofs.Ytaiaackeljlbfaa.Am
