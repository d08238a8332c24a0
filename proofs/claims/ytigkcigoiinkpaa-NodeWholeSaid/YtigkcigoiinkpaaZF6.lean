import Derived.Test.YtigkcigoiinkpaaZF5
set_option linter.unusedVariables false
set_option linter.unusedSimpArgs false
set_option maxRecDepth 10000
set_option maxHeartbeats 0
namespace Go.Proofs.Ytigkcigoiinkpaa.Am
open Go Go.RowKit Go.Proofs
noncomputable def E5 : Env := ⟨Try.prog, fun f ds out => (f = 20 ∧ Sp_overdubkeep_Within ds out), Es, fun _ => false⟩
theorem E5_sp : ∀ f ds out, E5.Sp f ds out → Ent E5.P f ∧ Good E5.P f (fun a b => a = ds ∧ b = out) := by
  rintro f ds out ⟨rfl, h⟩
  exact ⟨ent_overdubkeep_Within, good_overdubkeep_Within.one h⟩
theorem E5_ok : E5.Ok := ⟨E5_sp, Es_ok⟩
theorem within_rng {v n : Int} (hn : 1 ≤ n) : 0 ≤ within v n ∧ within v n < n := by
  unfold within
  rw [if_neg (by omega)]
  have h1 := Int.tmod_lt_of_pos v (show 0 < n by omega)
  have h2 := Int.lt_tmod_of_pos v (show 0 < n by omega)
  split <;> omega
def rowE (s : Int) (e : Xt) : Xt := ⟨s, 1 + within e.f1 4095, 1 + within e.f2 64, within e.f3 (1 + within e.f2 64), 1 + within e.f4 (1 + within e.f2 64 - within e.f3 (1 + within e.f2 64))⟩
def rowG : Nat → Int → List Xt → List Xt
  | 0, _, _ => []
  | _, _, [] => []
  | m + 1, s, e :: l => if (rowE s e).f4 > 1000 - s then [] else rowE s e :: rowG m (s + (rowE s e).f4) l
theorem snoc_E (l : List Xt) (a b c d e : Int) : l.map eD ++ [D.agg [.v (.int .i64 a), .v (.int .i64 b), .v (.int .i64 c), .v (.int .i64 d), .v (.int .i64 e)]] = (l ++ [Xt.mk a b c d e]).map eD := by simp [eD, mI]
theorem rowG_cons {m s : Int} {k : Nat} {e : Xt} {l : List Xt} (h : (k : Int) < m) : rowG (m.toNat - k) s (e :: l) = if (rowE s e).f4 > 1000 - s then [] else rowE s e :: rowG (m.toNat - (k + 1)) (s + (rowE s e).f4) l := by
  obtain ⟨q, hq⟩ : ∃ q, m.toNat - k = q + 1 := ⟨m.toNat - k - 1, by omega⟩
  rw [hq, show m.toNat - (k + 1) = q by omega]
  rfl
theorem rowG_zero {m s : Int} {k : Nat} {l : List Xt} (h : m ≤ k) : rowG (m.toNat - k) s l = [] := by
  rw [show m.toNat - k = 0 by omega]
  cases l <;> rfl
theorem rowG_nil (n : Nat) (s : Int) : rowG n s [] = [] := by cases n <;> rfl
def Sp_overdublaw16_Row (ds : List D) (out : Out) : Prop := ∃ (l : List Xt) (m : Int), ds = [.list (l.map eD), .v (.int .i64 m)] ∧ l.length ≤ 9223372036854775807 ∧ (∀ e ∈ l, numE e) ∧ m ≤ 1000 ∧ out = ⟨.sl 0 5 0 (rowG m.toNat 0 l).length true, [(0, .row 42 5 ((rowG m.toNat 0 l).map eD))]⟩
theorem good_overdublaw16_Row : Good Try.prog 16 Sp_overdublaw16_Row := by
  refine good_body (E := E5) (nt := 69) (rs := #[.tmp 4]) Try.func16 rfl rfl rfl ?_
  rintro ds out ⟨l, m, rfl, hl, hn, hm, rfl⟩
  refine ⟨by simp, ?_⟩
  repeat' first
 | (refine AW.seq ?_)
 | (refine AW.block ?_)
 | (refine AW.regl E5_ok [0, 1, 4, 5, 6, 7, 8, 9, 10, 19, 49] ?_)
 | (refine then_n ?_)
 | (refine then_r ?_)
 | (refine then_x ?_)
 | (refine block_x ?_)
 | (refine block_o (by decide) ?_)
 | (refine block_n ?_)
 | (refine block_r ?_)
 | (refine AW.skip ?_)
 | (refine AW.ret ?_)
 | (refine AW.exit ?_)
 | (refine AW.cond rfl ?_ ?_ <;> (intro hc; first | cases hc | ((try rw [hc]); (try simp only [stH] at hc); (try (exfalso; omega)))))
 | ((first
       | (refine awl_none rfl fun K hK => ?_)
       | (refine awl_nil ?_)
       | (refine awl_some rfl rfl (Nat.le_of_ble_eq_true rfl) rfl rfl ?_ ?_ <;> (intro hc; first | cases hc | ((try rw [hc]); (try simp only [stH] at hc); (try (exfalso; omega)))) <;> (try intro K hK))
       | (refine awl_skip rfl rfl (Nat.le_of_ble_eq_true rfl) rfl rfl ?_))
    all_goals first
      | (show Awl _ _ _ _ _; simp only [St.upd, St.put, List.nil_append, List.cons_append, List.singleton_append, List.append_nil])
      | (simp (disch := omega) only [go_sem, Int.reduceEq, ↓reduceIte, reduceCtorEq, Nat.reduceEqDiff, Nat.reduceLT, Nat.reduceLeDiff, Nat.reduceAdd, Nat.reduceSub, Nat.reduceMul, Int.reduceToNat, Int.reduceLE, Int.reduceLT, E5, Sp_overdubkeep_Within]
         (try ((repeat' first | (refine And.intro ?_ ?_) | (intro hc; first | cases hc | ((try rw [hc]); (try simp only [stH] at hc); (try (exfalso; omega)))))
               all_goals first | (refine hK _ _ ?_; clear hK K; simp only [St.upd, St.put, List.nil_append, List.cons_append, List.singleton_append, List.append_nil]) | exact hK | omega))))
  refine AW.loop_wk (fun p : Nat × List Xt × Int => ⟨[(0, .d (.list (l.map eD))), (1, .d (.v (.int .i64 m))), (5, .sl 100 5 0 p.2.1.length true), (6, .d (.v (.int .i64 p.2.2))), (7, .d (.v (.int .i64 p.1)))], [(100, .row 42 5 (p.2.1.map eD))], 69⟩)
    (fun p => p.1 ≤ l.length ∧ p.2.1.length = p.1 ∧ (p.1 : Int) ≤ max 0 m ∧ 0 ≤ p.2.2 ∧ p.2.2 ≤ 1000 ∧ rowG m.toNat 0 l = p.2.1 ++ rowG (m.toNat - p.1) p.2.2 (l.drop p.1)) (fun p => l.length - p.1) (0, [], 0) ⟨by omega, rfl, by omega, Int.le_refl 0, by decide, by simp⟩ (fun w0 oa a w hs => Wk.sr (ρ := nm []) (Wk.of ?_) (nil_sr 5 100 42 5 rfl (by simp) rfl (by decide) hs)) ?_
  · simp (disch := omega) only [go_sem, Int.reduceEq, ↓reduceIte, reduceCtorEq, Nat.reduceEqDiff, Nat.reduceLT, Nat.reduceLeDiff, Nat.reduceAdd, Nat.reduceSub, Nat.reduceMul, Int.reduceToNat, Int.reduceLE, Int.reduceLT, E5, Sp_overdubkeep_Within]
  · rintro ⟨k, r, s⟩ ⟨hk, hr, hkm, hs0, hs1, hv⟩
    simp only at hk hr hkm hs0 hs1 hv
    by_cases hk1 : k < l.length
    · have e1 := hn (l.getD k x0) (by rw [List.getD_eq_getElem?_getD, List.getElem?_eq_getElem hk1]; exact List.getElem_mem hk1)
      have e2 := nth_E l k hk1
      have e9 : l.drop k = l.getD k x0 :: l.drop (k + 1) := by rw [List.drop_eq_getElem_cons hk1]; simp [List.getD_eq_getElem?_getD, hk1]
      generalize l.getD k x0 = e at *
      obtain ⟨f0, f1, f2, f3, f4⟩ := e
      unfold numE at e1
      simp only at e1
      have w1 := within_rng (v := f1) (n := 4095) (by omega)
      have w2 := within_rng (v := f2) (n := 64) (by omega)
      have w3 := within_rng (v := f3) (n := 1 + within f2 64) (by omega)
      have w4 := within_rng (v := f4) (n := 1 + within f2 64 - within f3 (1 + within f2 64)) (by omega)
      repeat' first
 | (refine AW.seq ?_)
 | (refine AW.block ?_)
 | (refine AW.regl E5_ok [0, 1, 4, 5, 6, 7, 8, 9, 10, 19, 49] ?_)
 | (refine then_n ?_)
 | (refine then_r ?_)
 | (refine then_x ?_)
 | (refine block_x ?_)
 | (refine block_o (by decide) ?_)
 | (refine block_n ?_)
 | (refine block_r ?_)
 | (refine AW.skip ?_)
 | (refine AW.ret ?_)
 | (refine AW.exit ?_)
 | (refine AW.cond rfl ?_ ?_ <;> (intro hc; first | cases hc | ((try rw [hc]); (try simp only [stH] at hc); (try (exfalso; omega)))))
 | ((first
       | (refine awl_none rfl fun K hK => ?_)
       | (refine awl_nil ?_)
       | (refine awl_some rfl rfl (Nat.le_of_ble_eq_true rfl) rfl rfl ?_ ?_ <;> (intro hc; first | cases hc | ((try rw [hc]); (try simp only [stH] at hc); (try (exfalso; omega)))) <;> (try intro K hK))
       | (refine awl_skip rfl rfl (Nat.le_of_ble_eq_true rfl) rfl rfl ?_))
    all_goals first
      | (show Awl _ _ _ _ _; simp only [St.upd, St.put, List.nil_append, List.cons_append, List.singleton_append, List.append_nil])
      | (simp (disch := omega) only [go_sem, Int.reduceEq, ↓reduceIte, reduceCtorEq, Nat.reduceEqDiff, Nat.reduceLT, Nat.reduceLeDiff, Nat.reduceAdd, Nat.reduceSub, Nat.reduceMul, Int.reduceToNat, Int.reduceLE, Int.reduceLT, E5, Sp_overdubkeep_Within, e2, eD, mI_eq, all_E, snoc_E]
         (try ((repeat' first | (refine And.intro ?_ ?_) | (intro hc; first | cases hc | ((try rw [hc]); (try simp only [stH] at hc); (try (exfalso; omega)))))
               all_goals first | (refine hK _ _ ?_; clear hK K; simp only [St.upd, St.put, List.nil_append, List.cons_append, List.singleton_append, List.append_nil]) | exact hK | omega))))
      all_goals first
        | (have hz : rowG m.toNat 0 l = r := by rw [hv, e9, rowG_cons (by omega), if_pos (by simp only [rowE]; omega), List.append_nil]
           (refine Ends.of (nm [(0, 100)]) (by first | exact .inl rfl | exact .inr rfl) ?_; simp (disch := omega) only [go_sem, Int.reduceEq, ↓reduceIte, reduceCtorEq, Nat.reduceEqDiff, Nat.reduceLT, Nat.reduceLeDiff, Nat.reduceAdd, Nat.reduceSub, Nat.reduceMul, Int.reduceToNat, Int.reduceLE, Int.reduceLT, E5, Sp_overdubkeep_Within, hz]))
        | (have hz : rowG m.toNat 0 l = r := by rw [hv, rowG_zero (by omega), List.append_nil]
           (refine Ends.of (nm [(0, 100)]) (by first | exact .inl rfl | exact .inr rfl) ?_; simp (disch := omega) only [go_sem, Int.reduceEq, ↓reduceIte, reduceCtorEq, Nat.reduceEqDiff, Nat.reduceLT, Nat.reduceLeDiff, Nat.reduceAdd, Nat.reduceSub, Nat.reduceMul, Int.reduceToNat, Int.reduceLE, Int.reduceLT, E5, Sp_overdubkeep_Within, hz]))
        | (have hl : r.length + 1 = (r ++ [rowE s ⟨f0, f1, f2, f3, f4⟩]).length := by simp
           refine ⟨(k + 1, r ++ [rowE s ⟨f0, f1, f2, f3, f4⟩], s + (rowE s ⟨f0, f1, f2, f3, f4⟩).f4), by dsimp only; omega, by dsimp only; omega, by dsimp only; omega, by dsimp only [rowE]; omega, by dsimp only [rowE]; omega, ?_, by dsimp only; omega, nm [(100, 64)], Wk.of ?_⟩
           · dsimp only
             rw [hv, e9, rowG_cons (by omega), if_neg (by simp only [rowE]; omega), List.append_assoc]
             rfl
           · simp (disch := omega) only [go_sem, Int.reduceEq, ↓reduceIte, reduceCtorEq, Nat.reduceEqDiff, Nat.reduceLT, Nat.reduceLeDiff, Nat.reduceAdd, Nat.reduceSub, Nat.reduceMul, Int.reduceToNat, Int.reduceLE, Int.reduceLT, E5, Sp_overdubkeep_Within]
             exact ⟨rfl, rfl, rfl⟩)
    · obtain rfl : k = l.length := by omega
      have hz : rowG m.toNat 0 l = r := by rw [hv, List.drop_length, rowG_nil, List.append_nil]
      repeat' first
 | (refine AW.seq ?_)
 | (refine AW.block ?_)
 | (refine AW.regl E5_ok [0, 1, 4, 5, 6, 7, 8, 9, 10, 19, 49] ?_)
 | (refine then_n ?_)
 | (refine then_r ?_)
 | (refine then_x ?_)
 | (refine block_x ?_)
 | (refine block_o (by decide) ?_)
 | (refine block_n ?_)
 | (refine block_r ?_)
 | (refine AW.skip ?_)
 | (refine AW.ret ?_)
 | (refine AW.exit ?_)
 | (refine AW.cond rfl ?_ ?_ <;> (intro hc; first | cases hc | ((try rw [hc]); (try simp only [stH] at hc); (try (exfalso; omega)))))
 | ((first
       | (refine awl_none rfl fun K hK => ?_)
       | (refine awl_nil ?_)
       | (refine awl_some rfl rfl (Nat.le_of_ble_eq_true rfl) rfl rfl ?_ ?_ <;> (intro hc; first | cases hc | ((try rw [hc]); (try simp only [stH] at hc); (try (exfalso; omega)))) <;> (try intro K hK))
       | (refine awl_skip rfl rfl (Nat.le_of_ble_eq_true rfl) rfl rfl ?_))
    all_goals first
      | (show Awl _ _ _ _ _; simp only [St.upd, St.put, List.nil_append, List.cons_append, List.singleton_append, List.append_nil])
      | (simp (disch := omega) only [go_sem, Int.reduceEq, ↓reduceIte, reduceCtorEq, Nat.reduceEqDiff, Nat.reduceLT, Nat.reduceLeDiff, Nat.reduceAdd, Nat.reduceSub, Nat.reduceMul, Int.reduceToNat, Int.reduceLE, Int.reduceLT, E5, Sp_overdubkeep_Within]
         (try ((repeat' first | (refine And.intro ?_ ?_) | (intro hc; first | cases hc | ((try rw [hc]); (try simp only [stH] at hc); (try (exfalso; omega)))))
               all_goals first | (refine hK _ _ ?_; clear hK K; simp only [St.upd, St.put, List.nil_append, List.cons_append, List.singleton_append, List.append_nil]) | exact hK | omega))))
      all_goals
        (refine Ends.of (nm [(0, 100)]) (by first | exact .inl rfl | exact .inr rfl) ?_; simp (disch := omega) only [go_sem, Int.reduceEq, ↓reduceIte, reduceCtorEq, Nat.reduceEqDiff, Nat.reduceLT, Nat.reduceLeDiff, Nat.reduceAdd, Nat.reduceSub, Nat.reduceMul, Int.reduceToNat, Int.reduceLE, Int.reduceLT, E5, Sp_overdubkeep_Within, hz])
theorem ent_overdublaw16_Row : Ent Try.prog 16 := ⟨_, Try.func16, rfl, by decide⟩
theorem rowG_ok : ∀ (n : Nat) (s : Int) (l : List Xt), 0 ≤ s → s ≤ 1000 → vRow s (rowG n s l) = true ∧ (rowG n s l).length ≤ n
  | 0, s, l, _, _ => by cases l <;> simp [rowG, vRow]
  | n + 1, s, [], _, _ => by simp [rowG, vRow]
  | n + 1, s, e :: l, h0, h1 => by
    have w1 := within_rng (v := e.f1) (n := 4095) (by omega)
    have w2 := within_rng (v := e.f2) (n := 64) (by omega)
    have w3 := within_rng (v := e.f3) (n := 1 + within e.f2 64) (by omega)
    have w4 := within_rng (v := e.f4) (n := 1 + within e.f2 64 - within e.f3 (1 + within e.f2 64)) (by omega)
    by_cases hc : (rowE s e).f4 > 1000 - s
    · rw [rowG, if_pos hc]; simp [vRow]
    · rw [rowG, if_neg hc]
      simp only [rowE] at hc
      have ih := rowG_ok n (s + (rowE s e).f4) l (by simp only [rowE]; omega) (by simp only [rowE]; omega)
      constructor
      · have o1 : oneE (rowE s e) = true := decide_eq_true (by dsimp only [rowE]; omega)
        have o2 : decide ((rowE s e).f4 ≤ 1000 - s) = true := decide_eq_true (by dsimp only [rowE]; omega)
        have o3 : decide ((rowE s e).f0 = s) = true := decide_eq_true rfl
        rw [vRow, o1, o2, o3, ih.1]
        rfl
      · have := ih.2
        simp only [List.length_cons]
        omega
end Go.Proofs.Ytigkcigoiinkpaa.Am
