import Derived.Test.YtaiaackeljlbfaaZJS
set_option linter.unusedVariables false
set_option linter.unusedSimpArgs false
set_option maxRecDepth 10000
set_option maxHeartbeats 0
namespace Go.Proofs.Ytaiaackeljlbfaa.Am
open Go Go.RowKit Go.Proofs
noncomputable def JQ : Env := ⟨Try.prog, fun f ds out => False, Es, fun _ => false, fun f vs lent out => False, fun f => none, fun f => false, false⟩
theorem JQ_sp : ∀ f ds out, JQ.Sp f ds out → Ent JQ.P f ∧ Good JQ.P f (fun a b => a = ds ∧ b = out) := fun _ _ _ h => h.elim
theorem JQ_sm : ∀ f vs lent out, JQ.Sm f vs lent out → Ent JQ.P f ∧ GoodM JQ.P f (fun a l b => a = vs ∧ l = lent ∧ b = out) := fun _ _ _ _ h => h.elim
theorem JQ_ok : JQ.Ok := ⟨JQ_sp, Es_ok, JQ_sm⟩
def Sm_overdubref14_first (vs : List V) (lent : List (Nat × Ob)) (out : Out) : Prop := ∃ (m : List Ce) (c : Ce), lent = [(1000000, .row 29 5 (m.map eC))] ∧ vs.drop 1 = [vC c] ∧ vs.take 1 = [.sl 1000000 5 0 m.length true] ∧ m.length ≤ 1000000 ∧ out = ⟨vC (m.headD c), [(1000000, .row 29 5 (m.map eC))]⟩
theorem goodM_overdubref14_first : GoodM Try.prog 27 Sm_overdubref14_first := by
  refine goodM_body (E := JQ) (nt := 12) (rs := #[.cell 4 29]) Try.func27 rfl rfl rfl ?_
  rintro vs lent out ⟨m, c, rfl, hv2, hv1, hl, rfl⟩
  obtain rfl : vs = [.sl 1000000 5 0 m.length true, vC c] := by rw [← List.take_append_drop 1 vs, hv1, hv2]; rfl
  clear hv1 hv2
  obtain ⟨a, b, e, f, g⟩ := c
  refine ⟨by simp, ?_⟩
  cases m with
  | nil =>
    repeat' first
 | refine AW.seq ?_
 | refine AW.block ?_
 | refine AW.regl JQ_ok [0, 1, 3, 4, 7] ?_
 | refine then_n ?_
 | refine then_r ?_
 | refine then_x ?_
 | refine block_x ?_
 | refine block_o (by decide) ?_
 | refine block_n ?_
 | refine block_r ?_
 | refine AW.skip ?_
 | refine AW.ret ?_
 | refine AW.exit ?_
 | refine AW.cond rfl ?_ ?_
 | refine awl_none rfl ?_
 | refine awl_nil2 ?_
 | (refine fun (hc : _ = _) => ?_; first | cases hc | ((try rw [hc]); (try simp only [stH] at hc); (try (exfalso; omega))); (try (show Awl _ _ _ _ _; simp only [stU])))
 | ((first | refine fun (K : V → List _ → _) hK => ?_ | refine fun (_ : V → V) => ?_); simp (disch := omega) only [go_sem, Int.reduceEq, ↓reduceIte, reduceCtorEq, Nat.reduceEqDiff, Nat.reduceLT, Nat.reduceLeDiff, Nat.reduceAdd, Nat.reduceSub, Nat.reduceMul, Int.reduceToNat, Int.reduceLE, Int.reduceLT, JQ, eC, vC]; (try (revert hK; intro hK; (repeat' first | (refine And.intro ?_ ?_) | (intro hc; first | cases hc | ((try rw [hc]); (try simp only [stH] at hc); (try (exfalso; omega))))); all_goals first | (refine hK _ _ ?_; clear hK K; simp only [stU]) | exact hK | omega)))
    all_goals (refine Ends.of (nm [(1000000, 1000000)]) (by first | exact .inl rfl | exact .inr rfl) ?_; simp (disch := omega) only [go_sem, Int.reduceEq, ↓reduceIte, reduceCtorEq, Nat.reduceEqDiff, Nat.reduceLT, Nat.reduceLeDiff, Nat.reduceAdd, Nat.reduceSub, Nat.reduceMul, Int.reduceToNat, Int.reduceLE, Int.reduceLT, JQ, eC, vC, List.headD_nil])
  | cons c0 r =>
    obtain ⟨a', b', e', f', g'⟩ := c0
    have e1 : nth (({ lf := a', nu := b', pt := e', ps := f', dt := g' } :: r : List Ce).map eC) 0 = .agg [.v (.int .i64 a'), .v (.int .i64 b'), .v (.int .i64 e'), .v (.int .i64 f'), .list (g'.map mB)] := rfl
    obtain ⟨m, hm⟩ : ∃ m, ({ lf := a', nu := b', pt := e', ps := f', dt := g' } :: r : List Ce) = m := ⟨_, rfl⟩
    have hml : 0 < m.length := by rw [← hm]; simp
    have hh : m.headD ⟨a, b, e, f, g⟩ = ⟨a', b', e', f', g'⟩ := by rw [← hm]; rfl
    rw [hm] at e1 ⊢
    rw [hh]
    repeat' first
 | refine AW.seq ?_
 | refine AW.block ?_
 | refine AW.regl JQ_ok [0, 1, 3, 4, 7] ?_
 | refine then_n ?_
 | refine then_r ?_
 | refine then_x ?_
 | refine block_x ?_
 | refine block_o (by decide) ?_
 | refine block_n ?_
 | refine block_r ?_
 | refine AW.skip ?_
 | refine AW.ret ?_
 | refine AW.exit ?_
 | refine AW.cond rfl ?_ ?_
 | refine awl_none rfl ?_
 | refine awl_nil2 ?_
 | (refine fun (hc : _ = _) => ?_; first | cases hc | ((try rw [hc]); (try simp only [stH] at hc); (try (exfalso; omega))); (try (show Awl _ _ _ _ _; simp only [stU])))
 | ((first | refine fun (K : V → List _ → _) hK => ?_ | refine fun (_ : V → V) => ?_); simp (disch := omega) only [go_sem, Int.reduceEq, ↓reduceIte, reduceCtorEq, Nat.reduceEqDiff, Nat.reduceLT, Nat.reduceLeDiff, Nat.reduceAdd, Nat.reduceSub, Nat.reduceMul, Int.reduceToNat, Int.reduceLE, Int.reduceLT, JQ, eC, vC, e1]; (try (revert hK; intro hK; (repeat' first | (refine And.intro ?_ ?_) | (intro hc; first | cases hc | ((try rw [hc]); (try simp only [stH] at hc); (try (exfalso; omega))))); all_goals first | (refine hK _ _ ?_; clear hK K; simp only [stU]) | exact hK | omega)))
    all_goals (refine Ends.of (nm [(1000000, 1000000)]) (by first | exact .inl rfl | exact .inr rfl) ?_; simp (disch := omega) only [go_sem, Int.reduceEq, ↓reduceIte, reduceCtorEq, Nat.reduceEqDiff, Nat.reduceLT, Nat.reduceLeDiff, Nat.reduceAdd, Nat.reduceSub, Nat.reduceMul, Int.reduceToNat, Int.reduceLE, Int.reduceLT, JQ, eC, vC])
theorem ent_overdubref14_first : Ent Try.prog 27 := ⟨_, Try.func27, rfl, by decide⟩
noncomputable def JW : Env := ⟨Try.prog, fun f ds out => False, Es, fun _ => false, fun f vs lent out => (f = 27 ∧ Sm_overdubref14_first vs lent out), fun f => if f = 27 then some [1000000] else none, fun f => decide (f = 27), false⟩
theorem JW_sp : ∀ f ds out, JW.Sp f ds out → Ent JW.P f ∧ Good JW.P f (fun a b => a = ds ∧ b = out) := fun _ _ _ h => h.elim
theorem JW_sm : ∀ f vs lent out, JW.Sm f vs lent out → Ent JW.P f ∧ GoodM JW.P f (fun a l b => a = vs ∧ l = lent ∧ b = out) := by
  rintro f vs lent out ⟨rfl, h⟩
  exact ⟨ent_overdubref14_first, goodM_overdubref14_first.one h⟩
theorem JW_ok : JW.Ok := ⟨JW_sp, Es_ok, JW_sm⟩
def allPs (m : List Ce) : Prop := ∀ c ∈ m, c.ps = pz m
instance (m : List Ce) : Decidable (allPs m) := by unfold allPs; infer_instance
theorem allPs_left {m r : List Ce} (h : allPs (m ++ r)) : allPs m := by
  intro c hc
  have h0 : m ≠ [] := List.ne_nil_of_mem hc
  have := h c (List.mem_append_left _ hc)
  rwa [pz_append h0] at this
theorem joinL_bad2 {life num : Int} {l : List Ce} {k : Nat} (h : ¬ allPs (mine life num (l.take k))) : joinL life num l = none := by
  obtain ⟨r, hr⟩ := mine_all life num l k
  have hn : ¬ goodM (mine life num l) := fun hg => h (allPs_left (r := r) (fun c hc => by rw [← hr] at hc ⊢; exact (hg c hc).1))
  unfold joinL
  simp [hn]
theorem joinL_ref {life num : Int} {l m : List Ce} (hm : mine life num l = m) (h0 : m ≠ []) (ha : allPs m) (hl : m.length ≤ 64) : joinL life num l = if 1 ≤ pz m ∧ pz m ≤ m.length then gath m (pz m).toNat else none := by
  unfold joinL
  rw [hm, if_neg h0]
  by_cases hc : 1 ≤ pz m ∧ pz m ≤ m.length
  · have hg : goodM m := fun c hcm => ⟨ha c hcm, hc.1, by omega⟩
    rw [if_pos hc, if_pos hg]
  · rw [if_neg hc]
    split
    · rename_i hg
      cases m with
      | nil => exact absurd rfl h0
      | cons a r =>
        have h1 := (hg a (List.mem_cons_self ..)).2.1
        cases hga : gath (a :: r) (pz (a :: r)).toNat with
        | none => rfl
        | some b =>
          exfalso
          have := parts_le (pz (a :: r)).toNat (a :: r) (gath_pick _ b hga)
          exact hc ⟨h1, by omega⟩
    · rfl
theorem pick_at {m : List Ce} {i : Nat} {p : Int} (hi : i < m.length) (hn : ∀ j, j < i → (m.getD j default).pt ≠ p) (he : (m.getD i default).pt = p) : pick m p = some (m.getD i default).dt := by
  unfold pick
  have hsplit : m = m.take i ++ (m.getD i default :: m.drop (i + 1)) := by
    rw [List.getD_eq_getElem?_getD, List.getElem?_eq_getElem hi, Option.getD_some, ← List.drop_eq_getElem_cons hi, List.take_append_drop]
  have h1 : (m.take i).find? (fun c => decide (c.pt = p)) = none := by
    rw [List.find?_eq_none]
    intro x hx
    obtain ⟨j, hj⟩ := List.getElem?_of_mem hx
    rw [List.getElem?_take] at hj
    split at hj
    · rename_i hji
      have := hn j hji
      rw [List.getD_eq_getElem?_getD, hj] at this
      simpa using this
    · cases hj
  have h2 : m.find? (fun c => decide (c.pt = p)) = some (m.getD i default) := by
    have := List.find?_append (xs := m.take i) (ys := m.getD i default :: m.drop (i + 1)) (p := fun c => decide (c.pt = p))
    rw [← hsplit, h1] at this
    rw [this, Option.none_or, List.find?_cons, show decide ((m.getD i default).pt = p) = true from decide_eq_true he]
  rw [h2]; rfl
theorem pick_no {m : List Ce} {p : Int} (hn : ∀ j, j < m.length → (m.getD j default).pt ≠ p) : pick m p = none := by
  unfold pick
  rw [Option.map_eq_none_iff, List.find?_eq_none]
  intro x hx
  obtain ⟨j, hj⟩ := List.getElem?_of_mem hx
  have := hn j (List.getElem?_eq_some_iff.1 hj).1
  rw [List.getD_eq_getElem?_getD, hj] at this
  simpa using this
def stW (life num : Int) (l : List Ce) (k : Nat) : St := ⟨[(0, .d (.v (.int .i64 life))), (1, .d (.v (.int .i64 num))), (2, .d (.list (l.map eC))), (8, .sl 100 5 0 (mine life num (l.take k)).length true), (15, .d (.v (.int .i64 l.length))), (16, .d (.v (.int .i64 k)))], [(100, .row 29 5 ((mine life num (l.take k)).map eC))], 108⟩
def stX (m : List Ce) (b : List Int) (p : Nat) : St := ⟨[(8, .sl 100 5 0 m.length true), (10, .sl 101 1 0 b.length true), (11, .d (.v (.int .i64 p)))], [(100, .row 29 5 (m.map eC)), (101, .row 5 1 (b.map mB))], 108⟩
def stY (m : List Ce) (b : List Int) (p : Nat) (is : Bool) (i : Nat) : St := ⟨[(8, .sl 100 5 0 m.length true), (10, .sl 101 1 0 b.length true), (11, .d (.v (.int .i64 p))), (12, .d (.v (.bool is))), (13, .d (.v (.int .i64 i)))], [(100, .row 29 5 (m.map eC)), (101, .row 5 1 (b.map mB))], 108⟩
def Sp_overdubref14_Join (ds : List D) (out : Out) : Prop := ∃ (life num : Int) (l : List Ce), ds = [.v (.int .i64 life), .v (.int .i64 num), .list (l.map eC)] ∧ l.length ≤ 64 ∧ (∀ c ∈ l, c.dt.length ≤ 1000000) ∧ out = joinOut life num l
def bb_overdubref14_Join_6 : List Nat := [0, 0, 3, 7, 15, 0, 0, 0, 192, 448, 992, 2016, 4095]
def cc_overdubref14_Join_6 : List (List (Option Bool)) := [[some false, none, some false, some false, some false, none, none, none, none, none, none, none, some false], [none, some false, some false, some false, some false, none, none, none, none, none, none, none, some false], [some true, some true, some false, some false, some false, none, none, none, none, none, none, none, some false], [some true, some true, some true, some false, some false, none, none, none, none, none, none, none, some false], [some true, some true, some true, some true, some false, none, none, none, none, none, none, none, some false], [none, none, none, none, none, some false, none, none, none, none, some false, some false, some false], [none, none, none, none, none, none, some false, none, some false, some false, some false, some false, some false], [none, none, none, none, none, none, none, some false, some false, some false, some false, some false, some false], [none, none, none, none, none, none, some true, some true, some false, some false, some false, some false, some false], [none, none, none, none, none, none, some true, some true, some true, some false, some false, some false, some false], [none, none, none, none, none, some true, some true, some true, some true, some true, some false, some false, some false], [none, none, none, none, none, some true, some true, some true, some true, some true, some true, some false, some false], [some true, some true, some true, some true, some true, some true, some true, some true, some true, some true, some true, some true, some false]]
theorem good_overdubref14_Join : Good Try.prog 19 Sp_overdubref14_Join := by
  refine good_body (E := JW) (nt := 108) (rs := #[.tmp 6, .tmp 7]) Try.func19 rfl rfl rfl ?_
  rintro ds out ⟨life, num, l, rfl, hl, hB, rfl⟩
  refine ⟨by simp, ?_⟩
  repeat' ((first
 | refine AW.seq ?_
 | refine AW.block ?_
 | refine AW.regl JW_ok [0, 1, 2, 6, 7, 8, 9, 10, 11, 12, 13, 15, 16, 17, 34, 47, 58, 72, 78, 88, 97, 106] ?_
 | (refine AW.regc (id := 6) JW_ok follows bb_overdubref14_Join_6 (by kernel_rfl) [0, 1, 2, 6, 7, 8, 9, 10, 11, 12, 13, 15, 16, 17, 34, 47, 58, 72, 78, 88, 97, 106] ?_)
 | refine then_n ?_
 | refine then_r ?_
 | refine then_x ?_
 | refine block_x ?_
 | refine block_o (by decide) ?_
 | refine block_n ?_
 | refine block_r ?_
 | refine AW.skip ?_
 | refine AW.ret ?_
 | refine AW.exit ?_
 | refine AW.cond rfl ?_ ?_
 | refine awl_none rfl ?_
 | refine awl_nil2 ?_
 | refine awl_some rfl rfl (Nat.le_of_ble_eq_true rfl) rfl rfl ?_ ?_
 | refine awc_none rfl ?_
 | exact each_nil
 | refine each_none rfl ?_ ?_
 | refine awc_leaf2 [some 35, some 36, some 37, some 38, some 39, some 40, some 41, some 42, some 43, some 44, some 45, some 46, some 47] cc_overdubref14_Join_6 rfl (by kernel_rfl) (by kernel_rfl) ?_ ?_
 | (refine fun (hc : _ = _) => ?_; first | cases hc | ((try rw [hc]); (try simp only [stH] at hc); (try (exfalso; omega))); (try ((first | show Awl _ _ _ _ _ | show Awc _ _ _ _ _ _); simp only [stU])))
 | ((first | refine fun (K : V → List _ → _) hK => ?_ | refine fun (_ : V → V) => ?_ | refine fun (bb : Nat → Bool) K hK => ?_); simp (disch := omega) only [go_sem, Int.reduceEq, ↓reduceIte, reduceCtorEq, Nat.reduceEqDiff, Nat.reduceLT, Nat.reduceLeDiff, Nat.reduceAdd, Nat.reduceSub, Nat.reduceMul, Int.reduceToNat, Int.reduceLE, Int.reduceLT, JW, Sm_overdubref14_first, Sg3, St.updIf, ifc_nil, gt_ifc, go_ifc, ite_self, Option.none_or, Option.some_or]; (try (revert hK; intro hK; (repeat' first | (refine And.intro ?_ ?_) | (intro hc; first | cases hc | ((try rw [hc]); (try simp only [stH] at hc); (try (exfalso; omega))))); all_goals first | (refine hK _ _ ?_; clear hK K; simp only [stU]) | exact hK | omega)))) <;> (fail_if_success (show False; skip)))
  refine AW.loop_wk (fun k : Nat => stW life num l k) (fun k => k ≤ l.length ∧ allPs (mine life num (l.take k))) (fun k => l.length - k) 0 ⟨Nat.zero_le _, by intro c hc; simp [mine] at hc⟩ ?_ ?_
  · intro w0 oa a w hs
    refine Wk.sr (ρ := nm []) (Wk.of ?_) (nil_sr 8 100 29 5 rfl (by simp) rfl (by decide) hs)
    simp (disch := omega) only [go_sem, Int.reduceEq, ↓reduceIte, reduceCtorEq, Nat.reduceEqDiff, Nat.reduceLT, Nat.reduceLeDiff, Nat.reduceAdd, Nat.reduceSub, Nat.reduceMul, Int.reduceToNat, Int.reduceLE, Int.reduceLT, JW, Sm_overdubref14_first, stW, mine, List.filter_nil]
  rintro k ⟨hk, ha⟩
  by_cases hk1 : k < l.length
  · have e1 := nth_C l k hk1
    have hmt := mine_take (life := life) (num := num) hk1
    obtain ⟨c, hc⟩ : ∃ c, l.getD k default = c := ⟨_, rfl⟩
    rw [hc] at e1 hmt
    obtain ⟨m, hm⟩ : ∃ m, mine life num (l.take k) = m := ⟨_, rfl⟩
    have hml : m.length ≤ 64 := by rw [← hm]; exact Nat.le_trans (List.length_filter_le _ _) (by rw [List.length_take]; omega)
    rw [hm] at hmt ha
    by_cases hmi : c.lf = life ∧ c.nu = num
    · have him : isMine life num c = true := by simp [isMine, hmi]
      rw [if_pos him] at hmt
      obtain ⟨h1, h2⟩ := hmi
      have hhd : (m.headD c).ps = pz (m ++ [c]) := by cases m <;> rfl
      obtain ⟨hx, hhx⟩ : ∃ hx, m.headD c = hx := ⟨_, rfl⟩
      rw [hhx] at hhd
      have hxv : vC hx = .agg [.d (.v (.int .i64 hx.lf)), .d (.v (.int .i64 hx.nu)), .d (.v (.int .i64 hx.pt)), .d (.v (.int .i64 hx.ps)), .d (.list (hx.dt.map mB))] := rfl
      have hce : (⟨life, num, c.pt, c.ps, c.dt⟩ : Ce) = c := by rw [← h1, ← h2]
      have hdc : D.agg [.v (.int .i64 life), .v (.int .i64 num), .v (.int .i64 c.pt), .v (.int .i64 c.ps), .list (c.dt.map mB)] = eC c := by rw [← h1, ← h2]; rfl
      have hsn : m.map eC ++ [eC c] = (m ++ [c]).map eC := by simp
      have hml1 : (m ++ [c]).length = m.length + 1 := by simp
      have haa : allPs (m ++ [c]) ↔ c.ps = hx.ps := by
        constructor
        · intro h; rw [hhd]; exact h c (by simp)
        · intro h x hx'
          rw [← hhd]
          rcases List.mem_append.1 hx' with h3 | h3
          · have h0 : m ≠ [] := List.ne_nil_of_mem h3
            rw [ha x h3, ← pz_append (r := [c]) h0, ← hhd]
          · rw [List.mem_singleton.1 h3]; exact h
      by_cases hps : c.ps = hx.ps
      · have hall := haa.2 hps
        have hdp : decide (¬ c.ps = hx.ps) = false := decide_eq_false (by simpa using hps)
        repeat' ((first
 | refine AW.seq ?_
 | refine AW.block ?_
 | refine AW.regl JW_ok [0, 1, 2, 6, 7, 8, 9, 10, 11, 12, 13, 15, 16, 17, 34, 47, 58, 72, 78, 88, 97, 106] ?_
 | (refine AW.regc (id := 6) JW_ok follows bb_overdubref14_Join_6 (by kernel_rfl) [0, 1, 2, 6, 7, 8, 9, 10, 11, 12, 13, 15, 16, 17, 34, 47, 58, 72, 78, 88, 97, 106] ?_)
 | refine then_n ?_
 | refine then_r ?_
 | refine then_x ?_
 | refine block_x ?_
 | refine block_o (by decide) ?_
 | refine block_n ?_
 | refine block_r ?_
 | refine AW.skip ?_
 | refine AW.ret ?_
 | refine AW.exit ?_
 | refine AW.cond rfl ?_ ?_
 | refine awl_none rfl ?_
 | refine awl_nil2 ?_
 | refine awl_some rfl rfl (Nat.le_of_ble_eq_true rfl) rfl rfl ?_ ?_
 | refine awc_none rfl ?_
 | exact each_nil
 | refine each_none rfl ?_ ?_
 | refine awc_leaf2 [some 35, some 36, some 37, some 38, some 39, some 40, some 41, some 42, some 43, some 44, some 45, some 46, some 47] cc_overdubref14_Join_6 rfl (by kernel_rfl) (by kernel_rfl) ?_ ?_
 | (refine fun (hc : _ = _) => ?_; first | cases hc | ((try rw [hc]); (try simp only [stH] at hc); (try (exfalso; omega))); (try ((first | show Awl _ _ _ _ _ | show Awc _ _ _ _ _ _); simp only [stU])))
 | ((first | refine fun (K : V → List _ → _) hK => ?_ | refine fun (_ : V → V) => ?_ | refine fun (bb : Nat → Bool) K hK => ?_); simp (disch := omega) only [go_sem, Int.reduceEq, ↓reduceIte, reduceCtorEq, Nat.reduceEqDiff, Nat.reduceLT, Nat.reduceLeDiff, Nat.reduceAdd, Nat.reduceSub, Nat.reduceMul, Int.reduceToNat, Int.reduceLE, Int.reduceLT, JW, Sm_overdubref14_first, stW, e1, eC, hm, h1, h2, hdp, vC_eq, hce, hhx, hxv, Ob.row.injEq, Cm_inj, all_C, Sg3, St.updIf, ifc_nil, gt_ifc, go_ifc, ite_self, Option.none_or, Option.some_or]; (try (revert hK; intro hK; (repeat' first | (refine And.intro ?_ ?_) | (intro hc; first | cases hc | ((try rw [hc]); (try simp only [stH] at hc); (try (exfalso; omega))))); all_goals first | (refine hK _ _ ?_; clear hK K; simp only [stU]) | exact hK | omega)))) <;> (fail_if_success (show False; skip)))
        refine ⟨k + 1, by omega, by rw [hmt]; exact hall, by omega, nm [(100, 54)], Wk.of ?_⟩
        simp (disch := omega) only [go_sem, Int.reduceEq, ↓reduceIte, reduceCtorEq, Nat.reduceEqDiff, Nat.reduceLT, Nat.reduceLeDiff, Nat.reduceAdd, Nat.reduceSub, Nat.reduceMul, Int.reduceToNat, Int.reduceLE, Int.reduceLT, JW, Sm_overdubref14_first, stW, hm, hmt, hdc, hsn, hml1]
        rfl
      · have hbad : joinOut life num l = ⟨.tup [.nil, .d (.v (.bool false))], []⟩ := by
          have : joinL life num l = none := joinL_bad2 (k := k + 1) (by rw [hmt]; exact fun h => hps (haa.1 h))
          unfold joinOut; rw [this]
        have hdp : decide (¬ c.ps = hx.ps) = true := decide_eq_true hps
        repeat' ((first
 | refine AW.seq ?_
 | refine AW.block ?_
 | refine AW.regl JW_ok [0, 1, 2, 6, 7, 8, 9, 10, 11, 12, 13, 15, 16, 17, 34, 47, 58, 72, 78, 88, 97, 106] ?_
 | (refine AW.regc (id := 6) JW_ok follows bb_overdubref14_Join_6 (by kernel_rfl) [0, 1, 2, 6, 7, 8, 9, 10, 11, 12, 13, 15, 16, 17, 34, 47, 58, 72, 78, 88, 97, 106] ?_)
 | refine then_n ?_
 | refine then_r ?_
 | refine then_x ?_
 | refine block_x ?_
 | refine block_o (by decide) ?_
 | refine block_n ?_
 | refine block_r ?_
 | refine AW.skip ?_
 | refine AW.ret ?_
 | refine AW.exit ?_
 | refine AW.cond rfl ?_ ?_
 | refine awl_none rfl ?_
 | refine awl_nil2 ?_
 | refine awl_some rfl rfl (Nat.le_of_ble_eq_true rfl) rfl rfl ?_ ?_
 | refine awc_none rfl ?_
 | exact each_nil
 | refine each_none rfl ?_ ?_
 | refine awc_leaf2 [some 35, some 36, some 37, some 38, some 39, some 40, some 41, some 42, some 43, some 44, some 45, some 46, some 47] cc_overdubref14_Join_6 rfl (by kernel_rfl) (by kernel_rfl) ?_ ?_
 | (refine fun (hc : _ = _) => ?_; first | cases hc | ((try rw [hc]); (try simp only [stH] at hc); (try (exfalso; omega))); (try ((first | show Awl _ _ _ _ _ | show Awc _ _ _ _ _ _); simp only [stU])))
 | ((first | refine fun (K : V → List _ → _) hK => ?_ | refine fun (_ : V → V) => ?_ | refine fun (bb : Nat → Bool) K hK => ?_); simp (disch := omega) only [go_sem, Int.reduceEq, ↓reduceIte, reduceCtorEq, Nat.reduceEqDiff, Nat.reduceLT, Nat.reduceLeDiff, Nat.reduceAdd, Nat.reduceSub, Nat.reduceMul, Int.reduceToNat, Int.reduceLE, Int.reduceLT, JW, Sm_overdubref14_first, stW, e1, eC, hm, h1, h2, hdp, vC_eq, hce, hhx, hxv, Ob.row.injEq, Cm_inj, all_C, Sg3, St.updIf, ifc_nil, gt_ifc, go_ifc, ite_self, Option.none_or, Option.some_or]; (try (revert hK; intro hK; (repeat' first | (refine And.intro ?_ ?_) | (intro hc; first | cases hc | ((try rw [hc]); (try simp only [stH] at hc); (try (exfalso; omega))))); all_goals first | (refine hK _ _ ?_; clear hK K; simp only [stU]) | exact hK | omega)))) <;> (fail_if_success (show False; skip)))
        all_goals (refine Ends.of (nm []) (by first | exact .inl rfl | exact .inr rfl) ?_; simp (disch := omega) only [go_sem, Int.reduceEq, ↓reduceIte, reduceCtorEq, Nat.reduceEqDiff, Nat.reduceLT, Nat.reduceLeDiff, Nat.reduceAdd, Nat.reduceSub, Nat.reduceMul, Int.reduceToNat, Int.reduceLE, Int.reduceLT, JW, Sm_overdubref14_first, hbad])
    · have him : ¬ isMine life num c = true := by simpa [isMine] using hmi
      rw [if_neg him, List.append_nil] at hmt
      by_cases h1 : c.lf = life
      · have h2 : ¬ c.nu = num := fun h2 => hmi ⟨h1, h2⟩
        repeat' ((first
 | refine AW.seq ?_
 | refine AW.block ?_
 | refine AW.regl JW_ok [0, 1, 2, 6, 7, 8, 9, 10, 11, 12, 13, 15, 16, 17, 34, 47, 58, 72, 78, 88, 97, 106] ?_
 | (refine AW.regc (id := 6) JW_ok follows bb_overdubref14_Join_6 (by kernel_rfl) [0, 1, 2, 6, 7, 8, 9, 10, 11, 12, 13, 15, 16, 17, 34, 47, 58, 72, 78, 88, 97, 106] ?_)
 | refine then_n ?_
 | refine then_r ?_
 | refine then_x ?_
 | refine block_x ?_
 | refine block_o (by decide) ?_
 | refine block_n ?_
 | refine block_r ?_
 | refine AW.skip ?_
 | refine AW.ret ?_
 | refine AW.exit ?_
 | refine AW.cond rfl ?_ ?_
 | refine awl_none rfl ?_
 | refine awl_nil2 ?_
 | refine awl_some rfl rfl (Nat.le_of_ble_eq_true rfl) rfl rfl ?_ ?_
 | refine awc_none rfl ?_
 | exact each_nil
 | refine each_none rfl ?_ ?_
 | refine awc_leaf2 [some 35, some 36, some 37, some 38, some 39, some 40, some 41, some 42, some 43, some 44, some 45, some 46, some 47] cc_overdubref14_Join_6 rfl (by kernel_rfl) (by kernel_rfl) ?_ ?_
 | (refine fun (hc : _ = _) => ?_; first | cases hc | ((try rw [hc]); (try simp only [stH] at hc); (try (exfalso; omega))); (try ((first | show Awl _ _ _ _ _ | show Awc _ _ _ _ _ _); simp only [stU])))
 | ((first | refine fun (K : V → List _ → _) hK => ?_ | refine fun (_ : V → V) => ?_ | refine fun (bb : Nat → Bool) K hK => ?_); simp (disch := omega) only [go_sem, Int.reduceEq, ↓reduceIte, reduceCtorEq, Nat.reduceEqDiff, Nat.reduceLT, Nat.reduceLeDiff, Nat.reduceAdd, Nat.reduceSub, Nat.reduceMul, Int.reduceToNat, Int.reduceLE, Int.reduceLT, JW, Sm_overdubref14_first, stW, e1, eC, hm, h1, h2, all_C, Sg3, St.updIf, ifc_nil, gt_ifc, go_ifc, ite_self, Option.none_or, Option.some_or]; (try (revert hK; intro hK; (repeat' first | (refine And.intro ?_ ?_) | (intro hc; first | cases hc | ((try rw [hc]); (try simp only [stH] at hc); (try (exfalso; omega))))); all_goals first | (refine hK _ _ ?_; clear hK K; simp only [stU]) | exact hK | omega)))) <;> (fail_if_success (show False; skip)))
        refine ⟨k + 1, by omega, by rw [hmt]; exact ha, by omega, nm [], Wk.of ?_⟩
        simp (disch := omega) only [go_sem, Int.reduceEq, ↓reduceIte, reduceCtorEq, Nat.reduceEqDiff, Nat.reduceLT, Nat.reduceLeDiff, Nat.reduceAdd, Nat.reduceSub, Nat.reduceMul, Int.reduceToNat, Int.reduceLE, Int.reduceLT, JW, Sm_overdubref14_first, stW, hm, hmt]
        rfl
      · repeat' ((first
 | refine AW.seq ?_
 | refine AW.block ?_
 | refine AW.regl JW_ok [0, 1, 2, 6, 7, 8, 9, 10, 11, 12, 13, 15, 16, 17, 34, 47, 58, 72, 78, 88, 97, 106] ?_
 | (refine AW.regc (id := 6) JW_ok follows bb_overdubref14_Join_6 (by kernel_rfl) [0, 1, 2, 6, 7, 8, 9, 10, 11, 12, 13, 15, 16, 17, 34, 47, 58, 72, 78, 88, 97, 106] ?_)
 | refine then_n ?_
 | refine then_r ?_
 | refine then_x ?_
 | refine block_x ?_
 | refine block_o (by decide) ?_
 | refine block_n ?_
 | refine block_r ?_
 | refine AW.skip ?_
 | refine AW.ret ?_
 | refine AW.exit ?_
 | refine AW.cond rfl ?_ ?_
 | refine awl_none rfl ?_
 | refine awl_nil2 ?_
 | refine awl_some rfl rfl (Nat.le_of_ble_eq_true rfl) rfl rfl ?_ ?_
 | refine awc_none rfl ?_
 | exact each_nil
 | refine each_none rfl ?_ ?_
 | refine awc_leaf2 [some 35, some 36, some 37, some 38, some 39, some 40, some 41, some 42, some 43, some 44, some 45, some 46, some 47] cc_overdubref14_Join_6 rfl (by kernel_rfl) (by kernel_rfl) ?_ ?_
 | (refine fun (hc : _ = _) => ?_; first | cases hc | ((try rw [hc]); (try simp only [stH] at hc); (try (exfalso; omega))); (try ((first | show Awl _ _ _ _ _ | show Awc _ _ _ _ _ _); simp only [stU])))
 | ((first | refine fun (K : V → List _ → _) hK => ?_ | refine fun (_ : V → V) => ?_ | refine fun (bb : Nat → Bool) K hK => ?_); simp (disch := omega) only [go_sem, Int.reduceEq, ↓reduceIte, reduceCtorEq, Nat.reduceEqDiff, Nat.reduceLT, Nat.reduceLeDiff, Nat.reduceAdd, Nat.reduceSub, Nat.reduceMul, Int.reduceToNat, Int.reduceLE, Int.reduceLT, JW, Sm_overdubref14_first, stW, e1, eC, hm, h1, all_C, Sg3, St.updIf, ifc_nil, gt_ifc, go_ifc, ite_self, Option.none_or, Option.some_or]; (try (revert hK; intro hK; (repeat' first | (refine And.intro ?_ ?_) | (intro hc; first | cases hc | ((try rw [hc]); (try simp only [stH] at hc); (try (exfalso; omega))))); all_goals first | (refine hK _ _ ?_; clear hK K; simp only [stU]) | exact hK | omega)))) <;> (fail_if_success (show False; skip)))
        refine ⟨k + 1, by omega, by rw [hmt]; exact ha, by omega, nm [], Wk.of ?_⟩
        simp (disch := omega) only [go_sem, Int.reduceEq, ↓reduceIte, reduceCtorEq, Nat.reduceEqDiff, Nat.reduceLT, Nat.reduceLeDiff, Nat.reduceAdd, Nat.reduceSub, Nat.reduceMul, Int.reduceToNat, Int.reduceLE, Int.reduceLT, JW, Sm_overdubref14_first, stW, hm, hmt]
        rfl
  · obtain rfl : k = l.length := by omega
    rw [List.take_length] at ha
    obtain ⟨m, hm⟩ : ∃ m, mine life num l = m := ⟨_, rfl⟩
    rw [hm] at ha
    have htl : mine life num (l.take l.length) = m := by rw [List.take_length]; exact hm
    have hml : m.length ≤ 64 := by rw [← hm]; exact Nat.le_trans (List.length_filter_le _ _) hl
    have hBm : ∀ c ∈ m, c.dt.length ≤ 1000000 := fun c hc => hB c (by rw [← hm] at hc; exact (List.mem_filter.1 hc).1)
    by_cases hm0 : m = []
    · have hout : joinOut life num l = ⟨.tup [.nil, .d (.v (.bool false))], []⟩ := by
        unfold joinOut joinL; rw [hm, if_pos hm0]
      subst hm0
      repeat' ((first
 | refine AW.seq ?_
 | refine AW.block ?_
 | refine AW.regl JW_ok [0, 1, 2, 6, 7, 8, 9, 10, 11, 12, 13, 15, 16, 17, 34, 47, 58, 72, 78, 88, 97, 106] ?_
 | (refine AW.regc (id := 6) JW_ok follows bb_overdubref14_Join_6 (by kernel_rfl) [0, 1, 2, 6, 7, 8, 9, 10, 11, 12, 13, 15, 16, 17, 34, 47, 58, 72, 78, 88, 97, 106] ?_)
 | refine then_n ?_
 | refine then_r ?_
 | refine then_x ?_
 | refine block_x ?_
 | refine block_o (by decide) ?_
 | refine block_n ?_
 | refine block_r ?_
 | refine AW.skip ?_
 | refine AW.ret ?_
 | refine AW.exit ?_
 | refine AW.cond rfl ?_ ?_
 | refine awl_none rfl ?_
 | refine awl_nil2 ?_
 | refine awl_some rfl rfl (Nat.le_of_ble_eq_true rfl) rfl rfl ?_ ?_
 | refine awc_none rfl ?_
 | exact each_nil
 | refine each_none rfl ?_ ?_
 | refine awc_leaf2 [some 35, some 36, some 37, some 38, some 39, some 40, some 41, some 42, some 43, some 44, some 45, some 46, some 47] cc_overdubref14_Join_6 rfl (by kernel_rfl) (by kernel_rfl) ?_ ?_
 | (refine fun (hc : _ = _) => ?_; first | cases hc | ((try rw [hc]); (try simp only [stH] at hc); (try (exfalso; omega))); (try ((first | show Awl _ _ _ _ _ | show Awc _ _ _ _ _ _); simp only [stU])))
 | ((first | refine fun (K : V → List _ → _) hK => ?_ | refine fun (_ : V → V) => ?_ | refine fun (bb : Nat → Bool) K hK => ?_); simp (disch := omega) only [go_sem, Int.reduceEq, ↓reduceIte, reduceCtorEq, Nat.reduceEqDiff, Nat.reduceLT, Nat.reduceLeDiff, Nat.reduceAdd, Nat.reduceSub, Nat.reduceMul, Int.reduceToNat, Int.reduceLE, Int.reduceLT, JW, Sm_overdubref14_first, stW, htl, Sg3, St.updIf, ifc_nil, gt_ifc, go_ifc, ite_self, Option.none_or, Option.some_or]; (try (revert hK; intro hK; (repeat' first | (refine And.intro ?_ ?_) | (intro hc; first | cases hc | ((try rw [hc]); (try simp only [stH] at hc); (try (exfalso; omega))))); all_goals first | (refine hK _ _ ?_; clear hK K; simp only [stU]) | exact hK | omega)))) <;> (fail_if_success (show False; skip)))
      all_goals (refine Ends.of (nm []) (by first | exact .inl rfl | exact .inr rfl) ?_; simp (disch := omega) only [go_sem, Int.reduceEq, ↓reduceIte, reduceCtorEq, Nat.reduceEqDiff, Nat.reduceLT, Nat.reduceLeDiff, Nat.reduceAdd, Nat.reduceSub, Nat.reduceMul, Int.reduceToNat, Int.reduceLE, Int.reduceLT, JW, Sm_overdubref14_first, hout])
    have hmp : 0 < m.length := List.length_pos_iff.2 hm0
    have hml0 : ¬ m.length = 0 := by omega
    have hml1 : ¬ (m.length : Int) = 0 := by omega
    have hjr := joinL_ref hm hm0 ha hml
    have e0 := nth_C m 0 hmp
    have hz : (m.getD 0 default).ps = pz m := by cases m with | nil => exact absurd rfl hm0 | cons a r => rfl
    obtain ⟨c0, hc0⟩ : ∃ c0, m.getD 0 default = c0 := ⟨_, rfl⟩
    rw [hc0] at e0 hz
    obtain ⟨P, hP⟩ : ∃ P, pz m = P := ⟨_, rfl⟩
    rw [hP] at hjr hz
    by_cases hPc : 1 ≤ P ∧ P ≤ m.length
    · rw [if_pos hPc] at hjr
      obtain ⟨N, hN⟩ : ∃ N : Nat, P = N := ⟨P.toNat, by omega⟩
      subst hN
      rw [Int.toNat_natCast] at hjr
      have hout : joinOut life num l = match gath m N with
          | none => ⟨.tup [.nil, .d (.v (.bool false))], []⟩
          | some b => ⟨.tup [.sl 0 1 0 b.length true, .d (.v (.bool true))], [(0, .row 5 1 (b.map mB))]⟩ := by
        unfold joinOut; rw [hjr]; rfl
      have q1 : decide ((N : Int) < 1) = false := decide_eq_false (by omega)
      have q2 : decide ((m.length : Int) < (N : Int)) = false := decide_eq_false (by omega)
      repeat' ((first
 | refine AW.seq ?_
 | refine AW.block ?_
 | refine AW.regl JW_ok [0, 1, 2, 6, 7, 8, 9, 10, 11, 12, 13, 15, 16, 17, 34, 47, 58, 72, 78, 88, 97, 106] ?_
 | (refine AW.regc (id := 6) JW_ok follows bb_overdubref14_Join_6 (by kernel_rfl) [0, 1, 2, 6, 7, 8, 9, 10, 11, 12, 13, 15, 16, 17, 34, 47, 58, 72, 78, 88, 97, 106] ?_)
 | refine then_n ?_
 | refine then_r ?_
 | refine then_x ?_
 | refine block_x ?_
 | refine block_o (by decide) ?_
 | refine block_n ?_
 | refine block_r ?_
 | refine AW.skip ?_
 | refine AW.ret ?_
 | refine AW.exit ?_
 | refine AW.cond rfl ?_ ?_
 | refine awl_none rfl ?_
 | refine awl_nil2 ?_
 | refine awl_some rfl rfl (Nat.le_of_ble_eq_true rfl) rfl rfl ?_ ?_
 | refine awc_none rfl ?_
 | exact each_nil
 | refine each_none rfl ?_ ?_
 | refine awc_leaf2 [some 35, some 36, some 37, some 38, some 39, some 40, some 41, some 42, some 43, some 44, some 45, some 46, some 47] cc_overdubref14_Join_6 rfl (by kernel_rfl) (by kernel_rfl) ?_ ?_
 | (refine fun (hc : _ = _) => ?_; first | cases hc | ((try rw [hc]); (try simp only [stH] at hc); (try (exfalso; omega))); (try ((first | show Awl _ _ _ _ _ | show Awc _ _ _ _ _ _); simp only [stU])))
 | ((first | refine fun (K : V → List _ → _) hK => ?_ | refine fun (_ : V → V) => ?_ | refine fun (bb : Nat → Bool) K hK => ?_); simp (disch := omega) only [go_sem, Int.reduceEq, ↓reduceIte, reduceCtorEq, Nat.reduceEqDiff, Nat.reduceLT, Nat.reduceLeDiff, Nat.reduceAdd, Nat.reduceSub, Nat.reduceMul, Int.reduceToNat, Int.reduceLE, Int.reduceLT, JW, Sm_overdubref14_first, stW, htl, hml0, hml1, e0, eC, hz, q1, q2, Sg3, St.updIf, ifc_nil, gt_ifc, go_ifc, ite_self, Option.none_or, Option.some_or]; (try (revert hK; intro hK; (repeat' first | (refine And.intro ?_ ?_) | (intro hc; first | cases hc | ((try rw [hc]); (try simp only [stH] at hc); (try (exfalso; omega))))); all_goals first | (refine hK _ _ ?_; clear hK K; simp only [stU]) | exact hK | omega)))) <;> (fail_if_success (show False; skip)))
      refine AW.loop_wk (fun p : Nat × List Int => stX m p.2 p.1) (fun p => p.1 ≤ N ∧ gath m p.1 = some p.2) (fun p => N - p.1) (0, []) ⟨Nat.zero_le _, rfl⟩ ?_ ?_
      · intro w0 oa a w hs
        refine Wk.sr (ρ := nm []) (Wk.of ?_) (nil_sr 10 101 5 1 rfl (by simp) rfl (by decide) hs)
        simp (disch := omega) only [go_sem, Int.reduceEq, ↓reduceIte, reduceCtorEq, Nat.reduceEqDiff, Nat.reduceLT, Nat.reduceLeDiff, Nat.reduceAdd, Nat.reduceSub, Nat.reduceMul, Int.reduceToNat, Int.reduceLE, Int.reduceLT, JW, Sm_overdubref14_first, stX]
      rintro ⟨n, b⟩ ⟨hn, hgn⟩
      simp only at hn hgn
      have hbl := gath_len hBm n b hgn
      have hbl2 : b.length ≤ 64000000 := Nat.le_trans hbl (by omega)
      by_cases hn1 : n < N
      · repeat' ((first
 | refine AW.seq ?_
 | refine AW.block ?_
 | refine AW.regl JW_ok [0, 1, 2, 6, 7, 8, 9, 10, 11, 12, 13, 15, 16, 17, 34, 47, 58, 72, 78, 88, 97, 106] ?_
 | (refine AW.regc (id := 6) JW_ok follows bb_overdubref14_Join_6 (by kernel_rfl) [0, 1, 2, 6, 7, 8, 9, 10, 11, 12, 13, 15, 16, 17, 34, 47, 58, 72, 78, 88, 97, 106] ?_)
 | refine then_n ?_
 | refine then_r ?_
 | refine then_x ?_
 | refine block_x ?_
 | refine block_o (by decide) ?_
 | refine block_n ?_
 | refine block_r ?_
 | refine AW.skip ?_
 | refine AW.ret ?_
 | refine AW.exit ?_
 | refine AW.cond rfl ?_ ?_
 | refine awl_none rfl ?_
 | refine awl_nil2 ?_
 | refine awl_some rfl rfl (Nat.le_of_ble_eq_true rfl) rfl rfl ?_ ?_
 | refine awc_none rfl ?_
 | exact each_nil
 | refine each_none rfl ?_ ?_
 | refine awc_leaf2 [some 35, some 36, some 37, some 38, some 39, some 40, some 41, some 42, some 43, some 44, some 45, some 46, some 47] cc_overdubref14_Join_6 rfl (by kernel_rfl) (by kernel_rfl) ?_ ?_
 | (refine fun (hc : _ = _) => ?_; first | cases hc | ((try rw [hc]); (try simp only [stH] at hc); (try (exfalso; omega))); (try ((first | show Awl _ _ _ _ _ | show Awc _ _ _ _ _ _); simp only [stU])))
 | ((first | refine fun (K : V → List _ → _) hK => ?_ | refine fun (_ : V → V) => ?_ | refine fun (bb : Nat → Bool) K hK => ?_); simp (disch := omega) only [go_sem, Int.reduceEq, ↓reduceIte, reduceCtorEq, Nat.reduceEqDiff, Nat.reduceLT, Nat.reduceLeDiff, Nat.reduceAdd, Nat.reduceSub, Nat.reduceMul, Int.reduceToNat, Int.reduceLE, Int.reduceLT, JW, Sm_overdubref14_first, stX, e0, eC, hz, Sg3, St.updIf, ifc_nil, gt_ifc, go_ifc, ite_self, Option.none_or, Option.some_or]; (try (revert hK; intro hK; (repeat' first | (refine And.intro ?_ ?_) | (intro hc; first | cases hc | ((try rw [hc]); (try simp only [stH] at hc); (try (exfalso; omega))))); all_goals first | (refine hK _ _ ?_; clear hK K; simp only [stU]) | exact hK | omega)))) <;> (fail_if_success (show False; skip)))
        refine AW.loop_wk (fun p : Nat × Bool × List Int => stY m p.2.2 n p.2.1 p.1) (fun p => p.1 ≤ m.length ∧ (p.2.1 = false → p.2.2 = b ∧ ∀ j, j < p.1 → (m.getD j default).pt ≠ (n : Int)) ∧ (p.2.1 = true → ∃ x, pick m (n : Int) = some x ∧ p.2.2 = b ++ x)) (fun p => m.length - p.1 + (if p.2.1 = true then 0 else 1)) (0, false, b) ⟨Nat.zero_le _, fun _ => ⟨rfl, fun j hj => by omega⟩, fun h => by cases h⟩ (fun w0 oa a w hs => Wk.sr (ρ := nm []) (Wk.of ?_) hs) ?_
        · simp (disch := omega) only [go_sem, Int.reduceEq, ↓reduceIte, reduceCtorEq, Nat.reduceEqDiff, Nat.reduceLT, Nat.reduceLeDiff, Nat.reduceAdd, Nat.reduceSub, Nat.reduceMul, Int.reduceToNat, Int.reduceLE, Int.reduceLT, JW, Sm_overdubref14_first, stY]
        rintro ⟨i, is, b'⟩ ⟨hi, hf, ht⟩
        simp only at hi hf ht
        cases is with
        | true =>
          obtain ⟨x, hx, rfl⟩ := ht rfl
          have hg1 : gath m (n + 1) = some (b ++ x) := by simp only [gath, hgn, hx, Option.map_some]
          repeat' ((first
 | refine AW.seq ?_
 | refine AW.block ?_
 | refine AW.regl JW_ok [0, 1, 2, 6, 7, 8, 9, 10, 11, 12, 13, 15, 16, 17, 34, 47, 58, 72, 78, 88, 97, 106] ?_
 | (refine AW.regc (id := 6) JW_ok follows bb_overdubref14_Join_6 (by kernel_rfl) [0, 1, 2, 6, 7, 8, 9, 10, 11, 12, 13, 15, 16, 17, 34, 47, 58, 72, 78, 88, 97, 106] ?_)
 | refine then_n ?_
 | refine then_r ?_
 | refine then_x ?_
 | refine block_x ?_
 | refine block_o (by decide) ?_
 | refine block_n ?_
 | refine block_r ?_
 | refine AW.skip ?_
 | refine AW.ret ?_
 | refine AW.exit ?_
 | refine AW.cond rfl ?_ ?_
 | refine awl_none rfl ?_
 | refine awl_nil2 ?_
 | refine awl_some rfl rfl (Nat.le_of_ble_eq_true rfl) rfl rfl ?_ ?_
 | refine awc_none rfl ?_
 | exact each_nil
 | refine each_none rfl ?_ ?_
 | refine awc_leaf2 [some 35, some 36, some 37, some 38, some 39, some 40, some 41, some 42, some 43, some 44, some 45, some 46, some 47] cc_overdubref14_Join_6 rfl (by kernel_rfl) (by kernel_rfl) ?_ ?_
 | (refine fun (hc : _ = _) => ?_; first | cases hc | ((try rw [hc]); (try simp only [stH] at hc); (try (exfalso; omega))); (try ((first | show Awl _ _ _ _ _ | show Awc _ _ _ _ _ _); simp only [stU])))
 | ((first | refine fun (K : V → List _ → _) hK => ?_ | refine fun (_ : V → V) => ?_ | refine fun (bb : Nat → Bool) K hK => ?_); simp (disch := omega) only [go_sem, Int.reduceEq, ↓reduceIte, reduceCtorEq, Nat.reduceEqDiff, Nat.reduceLT, Nat.reduceLeDiff, Nat.reduceAdd, Nat.reduceSub, Nat.reduceMul, Int.reduceToNat, Int.reduceLE, Int.reduceLT, JW, Sm_overdubref14_first, stY, Bool.and_false, Sg3, St.updIf, ifc_nil, gt_ifc, go_ifc, ite_self, Option.none_or, Option.some_or]; (try (revert hK; intro hK; (repeat' first | (refine And.intro ?_ ?_) | (intro hc; first | cases hc | ((try rw [hc]); (try simp only [stH] at hc); (try (exfalso; omega))))); all_goals first | (refine hK _ _ ?_; clear hK K; simp only [stU]) | exact hK | omega)))) <;> (fail_if_success (show False; skip)))
          all_goals (refine ⟨(n + 1, b ++ x), by dsimp only; omega, hg1, by dsimp only; omega, nm [], Wk.of ?_⟩; simp (disch := omega) only [go_sem, Int.reduceEq, ↓reduceIte, reduceCtorEq, Nat.reduceEqDiff, Nat.reduceLT, Nat.reduceLeDiff, Nat.reduceAdd, Nat.reduceSub, Nat.reduceMul, Int.reduceToNat, Int.reduceLE, Int.reduceLT, JW, Sm_overdubref14_first, stX]; rfl)
        | false =>
          obtain ⟨rfl, hnp⟩ := hf rfl
          by_cases hi1 : i < m.length
          · have e1 := nth_C m i hi1
            have hmemi : m.getD i default ∈ m := by rw [List.getD_eq_getElem?_getD, List.getElem?_eq_getElem hi1]; exact List.getElem_mem hi1
            by_cases hpe : (m.getD i default).pt = (n : Int)
            · have hpk := pick_at hi1 hnp hpe
              obtain ⟨c, hc⟩ : ∃ c, m.getD i default = c := ⟨_, rfl⟩
              rw [hc] at e1 hpe hpk hmemi
              have hcl := hBm c hmemi
              have hap : b'.map mB ++ c.dt.map mB = (b' ++ c.dt).map mB := by simp
              repeat' ((first
 | refine AW.seq ?_
 | refine AW.block ?_
 | refine AW.regl JW_ok [0, 1, 2, 6, 7, 8, 9, 10, 11, 12, 13, 15, 16, 17, 34, 47, 58, 72, 78, 88, 97, 106] ?_
 | (refine AW.regc (id := 6) JW_ok follows bb_overdubref14_Join_6 (by kernel_rfl) [0, 1, 2, 6, 7, 8, 9, 10, 11, 12, 13, 15, 16, 17, 34, 47, 58, 72, 78, 88, 97, 106] ?_)
 | refine then_n ?_
 | refine then_r ?_
 | refine then_x ?_
 | refine block_x ?_
 | refine block_o (by decide) ?_
 | refine block_n ?_
 | refine block_r ?_
 | refine AW.skip ?_
 | refine AW.ret ?_
 | refine AW.exit ?_
 | refine AW.cond rfl ?_ ?_
 | refine awl_none rfl ?_
 | refine awl_nil2 ?_
 | refine awl_some rfl rfl (Nat.le_of_ble_eq_true rfl) rfl rfl ?_ ?_
 | refine awc_none rfl ?_
 | exact each_nil
 | refine each_none rfl ?_ ?_
 | refine awc_leaf2 [some 35, some 36, some 37, some 38, some 39, some 40, some 41, some 42, some 43, some 44, some 45, some 46, some 47] cc_overdubref14_Join_6 rfl (by kernel_rfl) (by kernel_rfl) ?_ ?_
 | (refine fun (hc : _ = _) => ?_; first | cases hc | ((try rw [hc]); (try simp only [stH] at hc); (try (exfalso; omega))); (try ((first | show Awl _ _ _ _ _ | show Awc _ _ _ _ _ _); simp only [stU])))
 | ((first | refine fun (K : V → List _ → _) hK => ?_ | refine fun (_ : V → V) => ?_ | refine fun (bb : Nat → Bool) K hK => ?_); simp (disch := omega) only [go_sem, Int.reduceEq, ↓reduceIte, reduceCtorEq, Nat.reduceEqDiff, Nat.reduceLT, Nat.reduceLeDiff, Nat.reduceAdd, Nat.reduceSub, Nat.reduceMul, Int.reduceToNat, Int.reduceLE, Int.reduceLT, JW, Sm_overdubref14_first, stY, e1, eC, hpe, hap, Sg3, St.updIf, ifc_nil, gt_ifc, go_ifc, ite_self, Option.none_or, Option.some_or]; (try (revert hK; intro hK; (repeat' first | (refine And.intro ?_ ?_) | (intro hc; first | cases hc | ((try rw [hc]); (try simp only [stH] at hc); (try (exfalso; omega))))); all_goals first | (refine hK _ _ ?_; clear hK K; simp only [stU]) | exact hK | omega)))) <;> (fail_if_success (show False; skip)))
              refine ⟨(i + 1, true, b' ++ c.dt), by dsimp only; omega, fun h => (by cases h), fun _ => ⟨c.dt, hpk, rfl⟩, by dsimp only; simp; omega, nm [(101, 104)], Wk.of ?_⟩
              simp (disch := omega) only [go_sem, Int.reduceEq, ↓reduceIte, reduceCtorEq, Nat.reduceEqDiff, Nat.reduceLT, Nat.reduceLeDiff, Nat.reduceAdd, Nat.reduceSub, Nat.reduceMul, Int.reduceToNat, Int.reduceLE, Int.reduceLT, JW, Sm_overdubref14_first, stY]
              rfl
            · have hnp' : ∀ j, j < i + 1 → (m.getD j default).pt ≠ (n : Int) := fun j hj => by
                rcases Nat.lt_or_ge j i with h3 | h3
                · exact hnp j h3
                · obtain rfl : j = i := by omega
                  exact hpe
              obtain ⟨c, hc⟩ : ∃ c, m.getD i default = c := ⟨_, rfl⟩
              rw [hc] at e1 hpe
              repeat' ((first
 | refine AW.seq ?_
 | refine AW.block ?_
 | refine AW.regl JW_ok [0, 1, 2, 6, 7, 8, 9, 10, 11, 12, 13, 15, 16, 17, 34, 47, 58, 72, 78, 88, 97, 106] ?_
 | (refine AW.regc (id := 6) JW_ok follows bb_overdubref14_Join_6 (by kernel_rfl) [0, 1, 2, 6, 7, 8, 9, 10, 11, 12, 13, 15, 16, 17, 34, 47, 58, 72, 78, 88, 97, 106] ?_)
 | refine then_n ?_
 | refine then_r ?_
 | refine then_x ?_
 | refine block_x ?_
 | refine block_o (by decide) ?_
 | refine block_n ?_
 | refine block_r ?_
 | refine AW.skip ?_
 | refine AW.ret ?_
 | refine AW.exit ?_
 | refine AW.cond rfl ?_ ?_
 | refine awl_none rfl ?_
 | refine awl_nil2 ?_
 | refine awl_some rfl rfl (Nat.le_of_ble_eq_true rfl) rfl rfl ?_ ?_
 | refine awc_none rfl ?_
 | exact each_nil
 | refine each_none rfl ?_ ?_
 | refine awc_leaf2 [some 35, some 36, some 37, some 38, some 39, some 40, some 41, some 42, some 43, some 44, some 45, some 46, some 47] cc_overdubref14_Join_6 rfl (by kernel_rfl) (by kernel_rfl) ?_ ?_
 | (refine fun (hc : _ = _) => ?_; first | cases hc | ((try rw [hc]); (try simp only [stH] at hc); (try (exfalso; omega))); (try ((first | show Awl _ _ _ _ _ | show Awc _ _ _ _ _ _); simp only [stU])))
 | ((first | refine fun (K : V → List _ → _) hK => ?_ | refine fun (_ : V → V) => ?_ | refine fun (bb : Nat → Bool) K hK => ?_); simp (disch := omega) only [go_sem, Int.reduceEq, ↓reduceIte, reduceCtorEq, Nat.reduceEqDiff, Nat.reduceLT, Nat.reduceLeDiff, Nat.reduceAdd, Nat.reduceSub, Nat.reduceMul, Int.reduceToNat, Int.reduceLE, Int.reduceLT, JW, Sm_overdubref14_first, stY, e1, eC, hpe, Sg3, St.updIf, ifc_nil, gt_ifc, go_ifc, ite_self, Option.none_or, Option.some_or]; (try (revert hK; intro hK; (repeat' first | (refine And.intro ?_ ?_) | (intro hc; first | cases hc | ((try rw [hc]); (try simp only [stH] at hc); (try (exfalso; omega))))); all_goals first | (refine hK _ _ ?_; clear hK K; simp only [stU]) | exact hK | omega)))) <;> (fail_if_success (show False; skip)))
              refine ⟨(i + 1, false, b'), by dsimp only; omega, fun _ => ⟨rfl, hnp'⟩, fun h => (by cases h), by dsimp only; simp; omega, nm [], Wk.of ?_⟩
              simp (disch := omega) only [go_sem, Int.reduceEq, ↓reduceIte, reduceCtorEq, Nat.reduceEqDiff, Nat.reduceLT, Nat.reduceLeDiff, Nat.reduceAdd, Nat.reduceSub, Nat.reduceMul, Int.reduceToNat, Int.reduceLE, Int.reduceLT, JW, Sm_overdubref14_first, stY]
              rfl
          · obtain rfl : i = m.length := by omega
            have hpn := pick_no hnp
            have hnone : gath m N = none := gath_none (k := n + 1) hn1 (by simp only [gath, hgn, hpn, Option.map_none])
            rw [hnone] at hout
            repeat' ((first
 | refine AW.seq ?_
 | refine AW.block ?_
 | refine AW.regl JW_ok [0, 1, 2, 6, 7, 8, 9, 10, 11, 12, 13, 15, 16, 17, 34, 47, 58, 72, 78, 88, 97, 106] ?_
 | (refine AW.regc (id := 6) JW_ok follows bb_overdubref14_Join_6 (by kernel_rfl) [0, 1, 2, 6, 7, 8, 9, 10, 11, 12, 13, 15, 16, 17, 34, 47, 58, 72, 78, 88, 97, 106] ?_)
 | refine then_n ?_
 | refine then_r ?_
 | refine then_x ?_
 | refine block_x ?_
 | refine block_o (by decide) ?_
 | refine block_n ?_
 | refine block_r ?_
 | refine AW.skip ?_
 | refine AW.ret ?_
 | refine AW.exit ?_
 | refine AW.cond rfl ?_ ?_
 | refine awl_none rfl ?_
 | refine awl_nil2 ?_
 | refine awl_some rfl rfl (Nat.le_of_ble_eq_true rfl) rfl rfl ?_ ?_
 | refine awc_none rfl ?_
 | exact each_nil
 | refine each_none rfl ?_ ?_
 | refine awc_leaf2 [some 35, some 36, some 37, some 38, some 39, some 40, some 41, some 42, some 43, some 44, some 45, some 46, some 47] cc_overdubref14_Join_6 rfl (by kernel_rfl) (by kernel_rfl) ?_ ?_
 | (refine fun (hc : _ = _) => ?_; first | cases hc | ((try rw [hc]); (try simp only [stH] at hc); (try (exfalso; omega))); (try ((first | show Awl _ _ _ _ _ | show Awc _ _ _ _ _ _); simp only [stU])))
 | ((first | refine fun (K : V → List _ → _) hK => ?_ | refine fun (_ : V → V) => ?_ | refine fun (bb : Nat → Bool) K hK => ?_); simp (disch := omega) only [go_sem, Int.reduceEq, ↓reduceIte, reduceCtorEq, Nat.reduceEqDiff, Nat.reduceLT, Nat.reduceLeDiff, Nat.reduceAdd, Nat.reduceSub, Nat.reduceMul, Int.reduceToNat, Int.reduceLE, Int.reduceLT, JW, Sm_overdubref14_first, stY, Sg3, St.updIf, ifc_nil, gt_ifc, go_ifc, ite_self, Option.none_or, Option.some_or]; (try (revert hK; intro hK; (repeat' first | (refine And.intro ?_ ?_) | (intro hc; first | cases hc | ((try rw [hc]); (try simp only [stH] at hc); (try (exfalso; omega))))); all_goals first | (refine hK _ _ ?_; clear hK K; simp only [stU]) | exact hK | omega)))) <;> (fail_if_success (show False; skip)))
            all_goals (refine Ends.of (nm []) (by first | exact .inl rfl | exact .inr rfl) ?_; simp (disch := omega) only [go_sem, Int.reduceEq, ↓reduceIte, reduceCtorEq, Nat.reduceEqDiff, Nat.reduceLT, Nat.reduceLeDiff, Nat.reduceAdd, Nat.reduceSub, Nat.reduceMul, Int.reduceToNat, Int.reduceLE, Int.reduceLT, JW, Sm_overdubref14_first, hout])
      · obtain rfl : n = N := by omega
        rw [hgn] at hout
        repeat' ((first
 | refine AW.seq ?_
 | refine AW.block ?_
 | refine AW.regl JW_ok [0, 1, 2, 6, 7, 8, 9, 10, 11, 12, 13, 15, 16, 17, 34, 47, 58, 72, 78, 88, 97, 106] ?_
 | (refine AW.regc (id := 6) JW_ok follows bb_overdubref14_Join_6 (by kernel_rfl) [0, 1, 2, 6, 7, 8, 9, 10, 11, 12, 13, 15, 16, 17, 34, 47, 58, 72, 78, 88, 97, 106] ?_)
 | refine then_n ?_
 | refine then_r ?_
 | refine then_x ?_
 | refine block_x ?_
 | refine block_o (by decide) ?_
 | refine block_n ?_
 | refine block_r ?_
 | refine AW.skip ?_
 | refine AW.ret ?_
 | refine AW.exit ?_
 | refine AW.cond rfl ?_ ?_
 | refine awl_none rfl ?_
 | refine awl_nil2 ?_
 | refine awl_some rfl rfl (Nat.le_of_ble_eq_true rfl) rfl rfl ?_ ?_
 | refine awc_none rfl ?_
 | exact each_nil
 | refine each_none rfl ?_ ?_
 | refine awc_leaf2 [some 35, some 36, some 37, some 38, some 39, some 40, some 41, some 42, some 43, some 44, some 45, some 46, some 47] cc_overdubref14_Join_6 rfl (by kernel_rfl) (by kernel_rfl) ?_ ?_
 | (refine fun (hc : _ = _) => ?_; first | cases hc | ((try rw [hc]); (try simp only [stH] at hc); (try (exfalso; omega))); (try ((first | show Awl _ _ _ _ _ | show Awc _ _ _ _ _ _); simp only [stU])))
 | ((first | refine fun (K : V → List _ → _) hK => ?_ | refine fun (_ : V → V) => ?_ | refine fun (bb : Nat → Bool) K hK => ?_); simp (disch := omega) only [go_sem, Int.reduceEq, ↓reduceIte, reduceCtorEq, Nat.reduceEqDiff, Nat.reduceLT, Nat.reduceLeDiff, Nat.reduceAdd, Nat.reduceSub, Nat.reduceMul, Int.reduceToNat, Int.reduceLE, Int.reduceLT, JW, Sm_overdubref14_first, stX, e0, eC, hz, Sg3, St.updIf, ifc_nil, gt_ifc, go_ifc, ite_self, Option.none_or, Option.some_or]; (try (revert hK; intro hK; (repeat' first | (refine And.intro ?_ ?_) | (intro hc; first | cases hc | ((try rw [hc]); (try simp only [stH] at hc); (try (exfalso; omega))))); all_goals first | (refine hK _ _ ?_; clear hK K; simp only [stU]) | exact hK | omega)))) <;> (fail_if_success (show False; skip)))
        all_goals (refine Ends.of (nm [(0, 101)]) (by first | exact .inl rfl | exact .inr rfl) ?_; simp (disch := omega) only [go_sem, Int.reduceEq, ↓reduceIte, reduceCtorEq, Nat.reduceEqDiff, Nat.reduceLT, Nat.reduceLeDiff, Nat.reduceAdd, Nat.reduceSub, Nat.reduceMul, Int.reduceToNat, Int.reduceLE, Int.reduceLT, JW, Sm_overdubref14_first, hout])
    · rw [if_neg hPc] at hjr
      have hout : joinOut life num l = ⟨.tup [.nil, .d (.v (.bool false))], []⟩ := by unfold joinOut; rw [hjr]
      by_cases hP1 : P < 1
      · have q1 : decide (P < 1) = true := decide_eq_true hP1
        repeat' ((first
 | refine AW.seq ?_
 | refine AW.block ?_
 | refine AW.regl JW_ok [0, 1, 2, 6, 7, 8, 9, 10, 11, 12, 13, 15, 16, 17, 34, 47, 58, 72, 78, 88, 97, 106] ?_
 | (refine AW.regc (id := 6) JW_ok follows bb_overdubref14_Join_6 (by kernel_rfl) [0, 1, 2, 6, 7, 8, 9, 10, 11, 12, 13, 15, 16, 17, 34, 47, 58, 72, 78, 88, 97, 106] ?_)
 | refine then_n ?_
 | refine then_r ?_
 | refine then_x ?_
 | refine block_x ?_
 | refine block_o (by decide) ?_
 | refine block_n ?_
 | refine block_r ?_
 | refine AW.skip ?_
 | refine AW.ret ?_
 | refine AW.exit ?_
 | refine AW.cond rfl ?_ ?_
 | refine awl_none rfl ?_
 | refine awl_nil2 ?_
 | refine awl_some rfl rfl (Nat.le_of_ble_eq_true rfl) rfl rfl ?_ ?_
 | refine awc_none rfl ?_
 | exact each_nil
 | refine each_none rfl ?_ ?_
 | refine awc_leaf2 [some 35, some 36, some 37, some 38, some 39, some 40, some 41, some 42, some 43, some 44, some 45, some 46, some 47] cc_overdubref14_Join_6 rfl (by kernel_rfl) (by kernel_rfl) ?_ ?_
 | (refine fun (hc : _ = _) => ?_; first | cases hc | ((try rw [hc]); (try simp only [stH] at hc); (try (exfalso; omega))); (try ((first | show Awl _ _ _ _ _ | show Awc _ _ _ _ _ _); simp only [stU])))
 | ((first | refine fun (K : V → List _ → _) hK => ?_ | refine fun (_ : V → V) => ?_ | refine fun (bb : Nat → Bool) K hK => ?_); simp (disch := omega) only [go_sem, Int.reduceEq, ↓reduceIte, reduceCtorEq, Nat.reduceEqDiff, Nat.reduceLT, Nat.reduceLeDiff, Nat.reduceAdd, Nat.reduceSub, Nat.reduceMul, Int.reduceToNat, Int.reduceLE, Int.reduceLT, JW, Sm_overdubref14_first, stW, htl, hml0, hml1, e0, eC, hz, q1, Sg3, St.updIf, ifc_nil, gt_ifc, go_ifc, ite_self, Option.none_or, Option.some_or]; (try (revert hK; intro hK; (repeat' first | (refine And.intro ?_ ?_) | (intro hc; first | cases hc | ((try rw [hc]); (try simp only [stH] at hc); (try (exfalso; omega))))); all_goals first | (refine hK _ _ ?_; clear hK K; simp only [stU]) | exact hK | omega)))) <;> (fail_if_success (show False; skip)))
        all_goals (refine Ends.of (nm []) (by first | exact .inl rfl | exact .inr rfl) ?_; simp (disch := omega) only [go_sem, Int.reduceEq, ↓reduceIte, reduceCtorEq, Nat.reduceEqDiff, Nat.reduceLT, Nat.reduceLeDiff, Nat.reduceAdd, Nat.reduceSub, Nat.reduceMul, Int.reduceToNat, Int.reduceLE, Int.reduceLT, JW, Sm_overdubref14_first, hout])
      · have q1 : decide (P < 1) = false := decide_eq_false hP1
        have q2 : decide ((m.length : Int) < P) = true := decide_eq_true (by omega)
        repeat' ((first
 | refine AW.seq ?_
 | refine AW.block ?_
 | refine AW.regl JW_ok [0, 1, 2, 6, 7, 8, 9, 10, 11, 12, 13, 15, 16, 17, 34, 47, 58, 72, 78, 88, 97, 106] ?_
 | (refine AW.regc (id := 6) JW_ok follows bb_overdubref14_Join_6 (by kernel_rfl) [0, 1, 2, 6, 7, 8, 9, 10, 11, 12, 13, 15, 16, 17, 34, 47, 58, 72, 78, 88, 97, 106] ?_)
 | refine then_n ?_
 | refine then_r ?_
 | refine then_x ?_
 | refine block_x ?_
 | refine block_o (by decide) ?_
 | refine block_n ?_
 | refine block_r ?_
 | refine AW.skip ?_
 | refine AW.ret ?_
 | refine AW.exit ?_
 | refine AW.cond rfl ?_ ?_
 | refine awl_none rfl ?_
 | refine awl_nil2 ?_
 | refine awl_some rfl rfl (Nat.le_of_ble_eq_true rfl) rfl rfl ?_ ?_
 | refine awc_none rfl ?_
 | exact each_nil
 | refine each_none rfl ?_ ?_
 | refine awc_leaf2 [some 35, some 36, some 37, some 38, some 39, some 40, some 41, some 42, some 43, some 44, some 45, some 46, some 47] cc_overdubref14_Join_6 rfl (by kernel_rfl) (by kernel_rfl) ?_ ?_
 | (refine fun (hc : _ = _) => ?_; first | cases hc | ((try rw [hc]); (try simp only [stH] at hc); (try (exfalso; omega))); (try ((first | show Awl _ _ _ _ _ | show Awc _ _ _ _ _ _); simp only [stU])))
 | ((first | refine fun (K : V → List _ → _) hK => ?_ | refine fun (_ : V → V) => ?_ | refine fun (bb : Nat → Bool) K hK => ?_); simp (disch := omega) only [go_sem, Int.reduceEq, ↓reduceIte, reduceCtorEq, Nat.reduceEqDiff, Nat.reduceLT, Nat.reduceLeDiff, Nat.reduceAdd, Nat.reduceSub, Nat.reduceMul, Int.reduceToNat, Int.reduceLE, Int.reduceLT, JW, Sm_overdubref14_first, stW, htl, hml0, hml1, e0, eC, hz, q1, q2, Sg3, St.updIf, ifc_nil, gt_ifc, go_ifc, ite_self, Option.none_or, Option.some_or]; (try (revert hK; intro hK; (repeat' first | (refine And.intro ?_ ?_) | (intro hc; first | cases hc | ((try rw [hc]); (try simp only [stH] at hc); (try (exfalso; omega))))); all_goals first | (refine hK _ _ ?_; clear hK K; simp only [stU]) | exact hK | omega)))) <;> (fail_if_success (show False; skip)))
        all_goals (refine Ends.of (nm []) (by first | exact .inl rfl | exact .inr rfl) ?_; simp (disch := omega) only [go_sem, Int.reduceEq, ↓reduceIte, reduceCtorEq, Nat.reduceEqDiff, Nat.reduceLT, Nat.reduceLeDiff, Nat.reduceAdd, Nat.reduceSub, Nat.reduceMul, Int.reduceToNat, Int.reduceLE, Int.reduceLT, JW, Sm_overdubref14_first, hout])
theorem ent_overdubref14_Join : Ent Try.prog 19 := ⟨_, Try.func19, rfl, by decide⟩
end Go.Proofs.Ytaiaackeljlbfaa.Am
