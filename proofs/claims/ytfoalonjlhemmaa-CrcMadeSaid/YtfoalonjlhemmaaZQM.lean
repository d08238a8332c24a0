import Derived.Test.YtfoalonjlhemmaaZKC
set_option linter.unusedVariables false
set_option linter.unusedSimpArgs false
set_option maxRecDepth 10000
set_option maxHeartbeats 0
namespace Go.Proofs.Ytfoalonjlhemmaa.Am
open Go Go.RowKit Go.Proofs
def YBs (l : List (List Int)) : List D := l.map fun x => D.list (x.map mB)
def mkL (l : List (List Int)) (i : Nat) : Bool := (l.take i).any fun x => decide (0 < (x.take 50).length)
theorem mkL_succ {l : List (List Int)} {i : Nat} (h : i < l.length) : mkL l (i + 1) = (mkL l i || decide (0 < ((l.getD i []).take 50).length)) := by
  unfold mkL
  rw [List.take_add_one, List.any_append, List.getD_eq_getElem?_getD, List.getElem?_eq_getElem h]
  simp
theorem nth_YB (l : List (List Int)) (i : Nat) (h : i < l.length) : nth (YBs l) i = D.list ((l.getD i []).map mB) := by
  unfold nth YBs
  rw [List.getD_eq_getElem?_getD, List.getD_eq_getElem?_getD, List.getElem?_map, List.getElem?_eq_getElem h]
  rfl
theorem YBs_len (l : List (List Int)) : (YBs l).length = l.length := by simp [YBs]
def stM (l : List (List Int)) (tw : Bool) (i : Nat) : St := ⟨[(0, .d (.list (YBs l))), (1, .d (.v (.bool tw))), (4, .d (.v (.bool false))), (5, .ptr 10 0), (6, .ptr 11 0), (7, .d (.v (.bool (mkL l i)))), (8, .d (.v (.int .i64 i)))],
  [(10, .opq (RT (mkL l i))), (11, .opq (RT false))], 65⟩
noncomputable def QM : Env := ⟨Try.prog, fun f ds out => (f = 14 ∧ Sp_overdubkeep_Cut_byte ds out) ∨ (f = 10 ∧ Sp_crc_New ds out) ∨ (f = 13 ∧ Sp_overdublaw03_wakes ds out), Es, fun _ => false, fun f vs lent out => (f = 11 ∧ Sm_crc_Table_Sum vs lent out) ∨ (f = 16 ∧ Sm_crc_Table_Add vs lent out) ∨ (f = 18 ∧ Sm_crc_Table_Made vs lent out), fun f => if f = 11 then some [1000000] else if f = 16 then some [1000000] else if f = 18 then some [1000000] else none⟩
theorem QM_sp : ∀ f ds out, QM.Sp f ds out → Ent QM.P f ∧ Good QM.P f (fun a b => a = ds ∧ b = out) := by
  rintro f ds out (⟨rfl, h⟩ | ⟨rfl, h⟩ | ⟨rfl, h⟩)
  · exact ⟨ent_overdubkeep_Cut_byte, good_overdubkeep_Cut_byte.one h⟩
  · exact ⟨ent_crc_New, good_crc_New.one h⟩
  · exact ⟨ent_overdublaw03_wakes, good_overdublaw03_wakes.one h⟩
theorem QM_sm : ∀ f vs lent out, QM.Sm f vs lent out → Ent QM.P f ∧ GoodM QM.P f (fun a l b => a = vs ∧ l = lent ∧ b = out) := by
  rintro f vs lent out (⟨rfl, h⟩ | ⟨rfl, h⟩ | ⟨rfl, h⟩)
  · exact ⟨ent_crc_Table_Sum, goodM_crc_Table_Sum.one h⟩
  · exact ⟨ent_crc_Table_Add, goodM_crc_Table_Add.one h⟩
  · exact ⟨ent_crc_Table_Made, goodM_crc_Table_Made.one h⟩
theorem QM_ok : QM.Ok := ⟨QM_sp, Es_ok, QM_sm⟩
def Sp_overdublaw03_CrcMade (ds : List D) (out : Out) : Prop := ∃ (l : List (List Int)) (tw : Bool), ds = [.list (YBs l), .v (.bool tw)] ∧ (∀ x ∈ l, Byt x ∧ x.length ≤ 9223372036854775807) ∧ l.length ≤ 9223372036854775807 ∧ out = ⟨.d (.v (.bool true)), []⟩
theorem good_overdublaw03_CrcMade : Good Try.prog 7 Sp_overdublaw03_CrcMade := by
  refine good_body (E := QM) (nt := 65) (rs := #[.tmp 4]) Try.func7 rfl rfl rfl ?_
  rintro ds out ⟨l, tw, rfl, hb, hl, rfl⟩
  refine ⟨by simp, ?_⟩
  repeat' first
 | refine AW.seq ?_
 | refine AW.block ?_
 | refine AW.regl QM_ok [0, 1, 4, 5, 6, 7, 8, 9, 21, 29, 42, 58] ?_
 | refine then_n ?_
 | refine then_r ?_
 | refine then_x ?_
 | refine block_x ?_
 | refine block_o (by decide) ?_
 | refine block_n ?_
 | refine block_r ?_
 | refine AW.skip ?_
 | refine AW.ret ?_
 | refine AW.exit ?_
 | refine AW.cond rfl ?_ ?_
 | refine awl_none rfl ?_
 | refine awl_nil2 ?_
 | refine awl_some rfl rfl (Nat.le_of_ble_eq_true rfl) rfl rfl ?_ ?_
 | (refine fun (hc : _ = _) => ?_; first | cases hc | ((try rw [hc]); (try simp only [stH] at hc); (try (exfalso; omega))); (try (show Awl _ _ _ _ _; simp only [stU])))
 | ((first | refine fun (K : V → List _ → _) hK => ?_ | refine fun (_ : V → V) => ?_); simp (disch := omega) only [go_sem, Int.reduceEq, ↓reduceIte, reduceCtorEq, Nat.reduceEqDiff, Nat.reduceLT, Nat.reduceLeDiff, Nat.reduceAdd, Nat.reduceSub, Nat.reduceMul, Int.reduceToNat, Int.reduceLE, Int.reduceLT, QM, Sp_crc_New, Sm_crc_Table_Made, Sp_overdubkeep_Cut_byte, Sm_crc_Table_Add, Sm_crc_Table_Sum, Sp_overdublaw03_wakes, YBs_len, hl, all_B, mB_inj, RT_inj, V.d.injEq, V.ptr.injEq, Prod.mk.injEq, Ob.opq.injEq]; (try (revert hK; intro hK; (repeat' first | (refine And.intro ?_ ?_) | (intro hc; first | cases hc | ((try rw [hc]); (try simp only [stH] at hc); (try (exfalso; omega))))); all_goals first | (refine hK _ _ ?_; clear hK K; simp only [stU]) | exact hK | omega)))
  refine AW.loop_wk (fun i : Nat => stM l tw i) (fun i => i ≤ l.length ∧ i ≤ 6) (fun i => 6 - i) 0 ⟨by omega, by omega⟩ (fun w0 oa q w hs => Wk.sr (ρ := nm []) (Wk.of ?_) hs) ?_
  · simp (disch := omega) only [go_sem, Int.reduceEq, ↓reduceIte, reduceCtorEq, Nat.reduceEqDiff, Nat.reduceLT, Nat.reduceLeDiff, Nat.reduceAdd, Nat.reduceSub, Nat.reduceMul, Int.reduceToNat, Int.reduceLE, Int.reduceLT, QM, Sp_crc_New, Sm_crc_Table_Made, Sp_overdubkeep_Cut_byte, Sm_crc_Table_Add, Sm_crc_Table_Sum, Sp_overdublaw03_wakes, stM, mkL, List.take_zero, List.any_nil]
  rintro i ⟨hi, hi6⟩
  by_cases hin : i < l.length ∧ i < 6
  · obtain ⟨hin, h6⟩ := hin
    obtain ⟨x, hx⟩ : ∃ x, l.getD i [] = x := ⟨_, rfl⟩
    have e1 : nth (YBs l) i = D.list (x.map mB) := by rw [nth_YB l i hin, hx]
    have hxb : Byt x ∧ x.length ≤ 9223372036854775807 := by
      rw [← hx, List.getD_eq_getElem?_getD, List.getElem?_eq_getElem hin]; exact hb _ (List.getElem_mem _)
    obtain ⟨hxb, hxl⟩ := hxb
    have hm := mkL_succ hin
    obtain ⟨y, hy0⟩ : ∃ y, x.take 50 = y := ⟨_, rfl⟩
    rw [hx, hy0] at hm
    have hyl : y.length ≤ 9223372036854775807 := by rw [← hy0, List.length_take]; omega
    have hil : (i : Int) < l.length := by omega
    have hi6' : (i : Int) < 6 := by omega
    by_cases hy : 0 < y.length
    · have hy' : (0 < (y.length : Int)) = True := eq_true (by omega)
      have hyd : decide (0 < y.length) = true := decide_eq_true hy
      rw [hyd, Bool.or_true] at hm
      cases hm0 : mkL l i
      all_goals
        repeat' first
 | refine AW.seq ?_
 | refine AW.block ?_
 | refine AW.regl QM_ok [0, 1, 4, 5, 6, 7, 8, 9, 21, 29, 42, 58] ?_
 | refine then_n ?_
 | refine then_r ?_
 | refine then_x ?_
 | refine block_x ?_
 | refine block_o (by decide) ?_
 | refine block_n ?_
 | refine block_r ?_
 | refine AW.skip ?_
 | refine AW.ret ?_
 | refine AW.exit ?_
 | refine AW.cond rfl ?_ ?_
 | refine awl_none rfl ?_
 | refine awl_nil2 ?_
 | refine awl_some rfl rfl (Nat.le_of_ble_eq_true rfl) rfl rfl ?_ ?_
 | (refine fun (hc : _ = _) => ?_; first | cases hc | ((try rw [hc]); (try simp only [stH] at hc); (try (exfalso; omega))); (try (show Awl _ _ _ _ _; simp only [stU])))
 | ((first | refine fun (K : V → List _ → _) hK => ?_ | refine fun (_ : V → V) => ?_); simp (disch := omega) only [go_sem, Int.reduceEq, ↓reduceIte, reduceCtorEq, Nat.reduceEqDiff, Nat.reduceLT, Nat.reduceLeDiff, Nat.reduceAdd, Nat.reduceSub, Nat.reduceMul, Int.reduceToNat, Int.reduceLE, Int.reduceLT, QM, Sp_crc_New, Sm_crc_Table_Made, Sp_overdubkeep_Cut_byte, Sm_crc_Table_Add, Sm_crc_Table_Sum, Sp_overdublaw03_wakes, stM, hm0, hy0, e1, hxl, hyl, hil, hi6', hy', hyd, Bool.or_true, Bool.or_false, YBs_len, hl, all_B, mB_inj, RT_inj, V.d.injEq, V.ptr.injEq, Prod.mk.injEq, Ob.opq.injEq]; (try (revert hK; intro hK; (repeat' first | (refine And.intro ?_ ?_) | (intro hc; first | cases hc | ((try rw [hc]); (try simp only [stH] at hc); (try (exfalso; omega))))); all_goals first | (refine hK _ _ ?_; clear hK K; simp only [stU]) | exact hK | omega)))
      all_goals
        refine ⟨i + 1, by omega, by omega, by omega, nm [], Wk.of ?_⟩
        simp (disch := omega) only [go_sem, Int.reduceEq, ↓reduceIte, reduceCtorEq, Nat.reduceEqDiff, Nat.reduceLT, Nat.reduceLeDiff, Nat.reduceAdd, Nat.reduceSub, Nat.reduceMul, Int.reduceToNat, Int.reduceLE, Int.reduceLT, QM, Sp_crc_New, Sm_crc_Table_Made, Sp_overdubkeep_Cut_byte, Sm_crc_Table_Add, Sm_crc_Table_Sum, Sp_overdublaw03_wakes, stM, hm, hyd, Bool.or_true]
        rfl
    · have hy' : (0 < (y.length : Int)) = False := eq_false (by omega)
      have hyd : decide (0 < y.length) = false := decide_eq_false hy
      rw [hyd, Bool.or_false] at hm
      cases hm0 : mkL l i
      all_goals
        rw [hm0] at hm
        repeat' first
 | refine AW.seq ?_
 | refine AW.block ?_
 | refine AW.regl QM_ok [0, 1, 4, 5, 6, 7, 8, 9, 21, 29, 42, 58] ?_
 | refine then_n ?_
 | refine then_r ?_
 | refine then_x ?_
 | refine block_x ?_
 | refine block_o (by decide) ?_
 | refine block_n ?_
 | refine block_r ?_
 | refine AW.skip ?_
 | refine AW.ret ?_
 | refine AW.exit ?_
 | refine AW.cond rfl ?_ ?_
 | refine awl_none rfl ?_
 | refine awl_nil2 ?_
 | refine awl_some rfl rfl (Nat.le_of_ble_eq_true rfl) rfl rfl ?_ ?_
 | (refine fun (hc : _ = _) => ?_; first | cases hc | ((try rw [hc]); (try simp only [stH] at hc); (try (exfalso; omega))); (try (show Awl _ _ _ _ _; simp only [stU])))
 | ((first | refine fun (K : V → List _ → _) hK => ?_ | refine fun (_ : V → V) => ?_); simp (disch := omega) only [go_sem, Int.reduceEq, ↓reduceIte, reduceCtorEq, Nat.reduceEqDiff, Nat.reduceLT, Nat.reduceLeDiff, Nat.reduceAdd, Nat.reduceSub, Nat.reduceMul, Int.reduceToNat, Int.reduceLE, Int.reduceLT, QM, Sp_crc_New, Sm_crc_Table_Made, Sp_overdubkeep_Cut_byte, Sm_crc_Table_Add, Sm_crc_Table_Sum, Sp_overdublaw03_wakes, stM, hm0, hy0, e1, hxl, hyl, hil, hi6', hy', hyd, Bool.or_true, Bool.or_false, YBs_len, hl, all_B, mB_inj, RT_inj, V.d.injEq, V.ptr.injEq, Prod.mk.injEq, Ob.opq.injEq]; (try (revert hK; intro hK; (repeat' first | (refine And.intro ?_ ?_) | (intro hc; first | cases hc | ((try rw [hc]); (try simp only [stH] at hc); (try (exfalso; omega))))); all_goals first | (refine hK _ _ ?_; clear hK K; simp only [stU]) | exact hK | omega)))
      all_goals
        refine ⟨i + 1, by omega, by omega, by omega, nm [], Wk.of ?_⟩
        simp (disch := omega) only [go_sem, Int.reduceEq, ↓reduceIte, reduceCtorEq, Nat.reduceEqDiff, Nat.reduceLT, Nat.reduceLeDiff, Nat.reduceAdd, Nat.reduceSub, Nat.reduceMul, Int.reduceToNat, Int.reduceLE, Int.reduceLT, QM, Sp_crc_New, Sm_crc_Table_Made, Sp_overdubkeep_Cut_byte, Sm_crc_Table_Add, Sm_crc_Table_Sum, Sp_overdublaw03_wakes, stM, hm, hyd, Bool.or_true, Bool.or_false]
        rfl
  · have hx : (i : Int) < l.length → ¬ (i : Int) < 6 := fun h h2 => hin ⟨by omega, by omega⟩
    cases hm0 : mkL l i
    all_goals
      by_cases hq : (i : Int) < l.length
      · have hq6 := hx hq
        repeat' first
 | refine AW.seq ?_
 | refine AW.block ?_
 | refine AW.regl QM_ok [0, 1, 4, 5, 6, 7, 8, 9, 21, 29, 42, 58] ?_
 | refine then_n ?_
 | refine then_r ?_
 | refine then_x ?_
 | refine block_x ?_
 | refine block_o (by decide) ?_
 | refine block_n ?_
 | refine block_r ?_
 | refine AW.skip ?_
 | refine AW.ret ?_
 | refine AW.exit ?_
 | refine AW.cond rfl ?_ ?_
 | refine awl_none rfl ?_
 | refine awl_nil2 ?_
 | refine awl_some rfl rfl (Nat.le_of_ble_eq_true rfl) rfl rfl ?_ ?_
 | (refine fun (hc : _ = _) => ?_; first | cases hc | ((try rw [hc]); (try simp only [stH] at hc); (try (exfalso; omega))); (try (show Awl _ _ _ _ _; simp only [stU])))
 | ((first | refine fun (K : V → List _ → _) hK => ?_ | refine fun (_ : V → V) => ?_); simp (disch := omega) only [go_sem, Int.reduceEq, ↓reduceIte, reduceCtorEq, Nat.reduceEqDiff, Nat.reduceLT, Nat.reduceLeDiff, Nat.reduceAdd, Nat.reduceSub, Nat.reduceMul, Int.reduceToNat, Int.reduceLE, Int.reduceLT, QM, Sp_crc_New, Sm_crc_Table_Made, Sp_overdubkeep_Cut_byte, Sm_crc_Table_Add, Sm_crc_Table_Sum, Sp_overdublaw03_wakes, stM, hm0, hq, hq6, YBs_len, hl, all_B, mB_inj, RT_inj, V.d.injEq, V.ptr.injEq, Prod.mk.injEq, Ob.opq.injEq]; (try (revert hK; intro hK; (repeat' first | (refine And.intro ?_ ?_) | (intro hc; first | cases hc | ((try rw [hc]); (try simp only [stH] at hc); (try (exfalso; omega))))); all_goals first | (refine hK _ _ ?_; clear hK K; simp only [stU]) | exact hK | omega)))
        all_goals (refine Ends.of (nm []) (by first | exact .inl rfl | exact .inr rfl) ?_; simp (disch := omega) only [go_sem, Int.reduceEq, ↓reduceIte, reduceCtorEq, Nat.reduceEqDiff, Nat.reduceLT, Nat.reduceLeDiff, Nat.reduceAdd, Nat.reduceSub, Nat.reduceMul, Int.reduceToNat, Int.reduceLE, Int.reduceLT, QM, Sp_crc_New, Sm_crc_Table_Made, Sp_overdubkeep_Cut_byte, Sm_crc_Table_Add, Sm_crc_Table_Sum, Sp_overdublaw03_wakes])
      · repeat' first
 | refine AW.seq ?_
 | refine AW.block ?_
 | refine AW.regl QM_ok [0, 1, 4, 5, 6, 7, 8, 9, 21, 29, 42, 58] ?_
 | refine then_n ?_
 | refine then_r ?_
 | refine then_x ?_
 | refine block_x ?_
 | refine block_o (by decide) ?_
 | refine block_n ?_
 | refine block_r ?_
 | refine AW.skip ?_
 | refine AW.ret ?_
 | refine AW.exit ?_
 | refine AW.cond rfl ?_ ?_
 | refine awl_none rfl ?_
 | refine awl_nil2 ?_
 | refine awl_some rfl rfl (Nat.le_of_ble_eq_true rfl) rfl rfl ?_ ?_
 | (refine fun (hc : _ = _) => ?_; first | cases hc | ((try rw [hc]); (try simp only [stH] at hc); (try (exfalso; omega))); (try (show Awl _ _ _ _ _; simp only [stU])))
 | ((first | refine fun (K : V → List _ → _) hK => ?_ | refine fun (_ : V → V) => ?_); simp (disch := omega) only [go_sem, Int.reduceEq, ↓reduceIte, reduceCtorEq, Nat.reduceEqDiff, Nat.reduceLT, Nat.reduceLeDiff, Nat.reduceAdd, Nat.reduceSub, Nat.reduceMul, Int.reduceToNat, Int.reduceLE, Int.reduceLT, QM, Sp_crc_New, Sm_crc_Table_Made, Sp_overdubkeep_Cut_byte, Sm_crc_Table_Add, Sm_crc_Table_Sum, Sp_overdublaw03_wakes, stM, hm0, hq, YBs_len, hl, all_B, mB_inj, RT_inj, V.d.injEq, V.ptr.injEq, Prod.mk.injEq, Ob.opq.injEq]; (try (revert hK; intro hK; (repeat' first | (refine And.intro ?_ ?_) | (intro hc; first | cases hc | ((try rw [hc]); (try simp only [stH] at hc); (try (exfalso; omega))))); all_goals first | (refine hK _ _ ?_; clear hK K; simp only [stU]) | exact hK | omega)))
        all_goals (refine Ends.of (nm []) (by first | exact .inl rfl | exact .inr rfl) ?_; simp (disch := omega) only [go_sem, Int.reduceEq, ↓reduceIte, reduceCtorEq, Nat.reduceEqDiff, Nat.reduceLT, Nat.reduceLeDiff, Nat.reduceAdd, Nat.reduceSub, Nat.reduceMul, Int.reduceToNat, Int.reduceLE, Int.reduceLT, QM, Sp_crc_New, Sm_crc_Table_Made, Sp_overdubkeep_Cut_byte, Sm_crc_Table_Add, Sm_crc_Table_Sum, Sp_overdublaw03_wakes])
end Go.Proofs.Ytfoalonjlhemmaa.Am
