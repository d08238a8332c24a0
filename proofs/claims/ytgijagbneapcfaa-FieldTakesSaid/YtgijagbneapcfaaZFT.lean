import Derived.Test.YtgijagbneapcfaaZKL
import Derived.Test.YtgijagbneapcfaaZKI
import Derived.Test.YtgijagbneapcfaaZGA
import Derived.Test.YtgijagbneapcfaaZRA
set_option linter.unusedVariables false
set_option linter.unusedSimpArgs false
set_option maxRecDepth 10000
set_option maxHeartbeats 0
namespace Go.Proofs.Ytgijagbneapcfaa.Am
open Go Go.RowKit Go.Proofs
noncomputable def FW : Env := ⟨Try.prog, fun f ds out => (f = 10 ∧ Sp_field_Put ds out) ∨ (f = 13 ∧ Sp_overdubkeep_Same_byte ds out), Es, fun _ => false, fun f vs lent out => False, fun f => none, fun f => false, false⟩
theorem FW_sp : ∀ f ds out, FW.Sp f ds out → Ent FW.P f ∧ Good FW.P f (fun a b => a = ds ∧ b = out) := by
  rintro f ds out (⟨rfl, h⟩ | ⟨rfl, h⟩)
  · exact ⟨ent_field_Put, good_field_Put.one h⟩
  · exact ⟨ent_overdubkeep_Same_byte, good_overdubkeep_Same_byte.one h⟩
theorem FW_sm : ∀ f vs lent out, FW.Sm f vs lent out → Ent FW.P f ∧ GoodM FW.P f (fun a l b => a = vs ∧ l = lent ∧ b = out) := fun _ _ _ _ h => h.elim
theorem FW_ok : FW.Ok := ⟨FW_sp, Es_ok, FW_sm⟩
theorem YD21 (l : List Int) : ([D.v (.int .u8 2), D.v (.int .u8 1)] = l.map mB) = (l = [2, 1]) := by
  rw [show [D.v (.int .u8 2), D.v (.int .u8 1)] = [2, 1].map mB from rfl, mB_inj]
  exact propext eq_comm
def Sp_overdublaw04_wakes (ds : List D) (out : Out) : Prop := ds = [] ∧ out = ⟨.d (.v (.bool true)), []⟩
theorem good_overdublaw04_wakes : Good Try.prog 12 Sp_overdublaw04_wakes := by
  refine good_body (E := FW) (nt := 4) (rs := #[.tmp 0]) Try.func12 rfl rfl rfl ?_
  rintro ds out ⟨rfl, rfl⟩
  refine ⟨by simp, ?_⟩
  have hz : putB (max 0 258) 2 = [2, 1] := by decide
  have hw : wd 2 = 2 := by decide
  have hq : decide (([2, 1] : List Int) = [2, 1]) = true := by decide
  repeat' first
 | refine AW.seq ?_
 | refine AW.block ?_
 | refine AW.regl FW_ok [0] ?_
 | refine then_n ?_
 | refine then_r ?_
 | refine then_x ?_
 | refine block_x ?_
 | refine block_o (by decide) ?_
 | refine block_n ?_
 | refine block_r ?_
 | refine AW.skip ?_
 | refine AW.ret ?_
 | refine AW.exit ?_
 | refine AW.cond rfl ?_ ?_
 | refine awl_none rfl ?_
 | refine awl_nil2 ?_
 | (refine fun (hc : _ = _) => ?_; first | cases hc | ((try rw [hc]); (try simp only [stH] at hc); (try (exfalso; omega))); (try (show Awl _ _ _ _ _; simp only [stU])))
 | ((first | refine fun (K : V → List _ → _) hK => ?_ | refine fun (_ : V → V) => ?_); simp (disch := omega) only [go_sem, Int.reduceEq, ↓reduceIte, reduceCtorEq, Nat.reduceEqDiff, Nat.reduceLT, Nat.reduceLeDiff, Nat.reduceAdd, Nat.reduceSub, Nat.reduceMul, Int.reduceToNat, Int.reduceLE, Int.reduceLT, FW, Sp_field_Put, Sp_overdubkeep_Same_byte, YD21, hz, hw, hq, mB]; (try (revert hK; intro hK; (repeat' first | (refine And.intro ?_ ?_) | (intro hc; first | cases hc | ((try rw [hc]); (try simp only [stH] at hc); (try (exfalso; omega))))); all_goals first | (refine hK _ _ ?_; clear hK K; simp only [stU]) | exact hK | omega)))
  all_goals (refine Ends.of (nm []) (by first | exact .inl rfl | exact .inr rfl) ?_; simp (disch := omega) only [go_sem, Int.reduceEq, ↓reduceIte, reduceCtorEq, Nat.reduceEqDiff, Nat.reduceLT, Nat.reduceLeDiff, Nat.reduceAdd, Nat.reduceSub, Nat.reduceMul, Int.reduceToNat, Int.reduceLE, Int.reduceLT, FW, Sp_field_Put, Sp_overdubkeep_Same_byte])
theorem ent_overdublaw04_wakes : Ent Try.prog 12 := ⟨_, Try.func12, rfl, by decide⟩
def cutR (l : List (List Int)) (j : Nat) : List (List Int) := (l.take j).map (·.take 40)
theorem cutR_len (l : List (List Int)) {j : Nat} (h : j ≤ l.length) : (cutR l j).length = j := by simp [cutR]; omega
theorem cutR_0 (l : List (List Int)) : cutR l 0 = [] := rfl
theorem bysm_inj (l m : List (List Int)) : (l.map bys = m.map bys) = (l = m) := list_map_inj bys (fun a b h => by rwa [bys_inj] at h) l m
theorem cutR_take (l : List (List Int)) (j : Nat) : ((cutR l j).map bys).take j = (cutR l j).map bys := List.take_of_length_le (by simp [cutR]; omega)
theorem flat_take (l : List (List Int)) : (l.flatten.map mB).take l.flatten.length = l.flatten.map mB := List.take_of_length_le (by rw [List.length_map]; exact Nat.le_refl _)
theorem cutR_succ (l : List (List Int)) {j : Nat} (h : j < l.length) : cutR l (j + 1) = cutR l j ++ [(l.getD j []).take 40] := by
  unfold cutR
  rw [List.take_succ_eq_append_getElem h, List.map_append, List.getD_eq_getElem?_getD, List.getElem?_eq_getElem h]
  rfl
theorem cutR_flat (l : List (List Int)) (j : Nat) : (cutR l j).flatten.length ≤ 40 * j := by
  induction j with
  | zero => simp [cutR]
  | succ j ih =>
    by_cases h : j < l.length
    · rw [cutR_succ l h]; simp only [List.flatten_append, List.length_append, List.flatten_cons, List.flatten_nil, List.append_nil, List.length_take]; omega
    · have e : cutR l (j + 1) = cutR l j := by simp only [cutR]; rw [List.take_of_length_le (by omega), List.take_of_length_le (by omega)]
      rw [e]; omega
theorem nth_bys (l : List (List Int)) (k : Nat) (h : k < l.length) : nth (l.map bys) k = bys (l.getD k []) := by
  simp [nth, List.getD_eq_getElem?_getD, h]
theorem bys_list (l : List Int) : bys l = .list (l.map mB) := rfl
theorem all_bys (l : List (List Int)) : (∀ d ∈ l.map bys, d.cells.length = 1) = True := by
  simp only [eq_iff_iff, iff_true]
  intro d hd
  obtain ⟨z, _, rfl⟩ := List.mem_map.1 hd
  rfl
theorem snoc_R (l : List (List Int)) (j : Nat) (h : j < l.length) : (cutR l j).map bys ++ [D.list (((l.getD j []).take 40).map mB)] = (cutR l (j + 1)).map bys := by rw [cutR_succ l h]; simp [bys]
theorem snoc_B (l : List (List Int)) (j : Nat) (h : j < l.length) : (cutR l j).flatten.map mB ++ ((l.getD j []).take 40).map mB = (cutR l (j + 1)).flatten.map mB := by rw [cutR_succ l h]; simp
theorem nth_cutR (l : List (List Int)) (j : Nat) (h : j < l.length) : nth ((cutR l (j + 1)).map bys) j = .list (((l.getD j []).take 40).map mB) := by
  rw [← snoc_R l j h]
  simp [nth, List.getD_eq_getElem?_getD, List.getElem?_append_right, cutR_len l (Nat.le_of_lt h)]
theorem nilI (l : List Int) : ([] = l.map mI) = (l = []) := by cases l <;> simp
noncomputable def FT : Env := ⟨Try.prog, fun f ds out => (f = 15 ∧ Sp_overdubkeep_Cut_byte ds out) ∨ (f = 19 ∧ Sp_overdubkeep_Cut_int ds out) ∨ (f = 20 ∧ Sp_overdubkeep_Lend ds out) ∨ (f = 18 ∧ Sp_field_Take ds out) ∨ (f = 21 ∧ Sp_overdubref01_Take ds out) ∨ (f = 22 ∧ Sp_overdubkeep_Same_int ds out) ∨ (f = 11 ∧ Sp_field_Join ds out) ∨ (f = 13 ∧ Sp_overdubkeep_Same_byte ds out) ∨ (f = 12 ∧ Sp_overdublaw04_wakes ds out), Es, fun _ => false, fun f vs lent out => (f = 23 ∧ Sm_overdubkeep_Intact vs lent out), fun f => if f = 23 then some [1000000] else none, fun f => decide (f = 23), false⟩
theorem FT_sp : ∀ f ds out, FT.Sp f ds out → Ent FT.P f ∧ Good FT.P f (fun a b => a = ds ∧ b = out) := by
  rintro f ds out (⟨rfl, h⟩ | ⟨rfl, h⟩ | ⟨rfl, h⟩ | ⟨rfl, h⟩ | ⟨rfl, h⟩ | ⟨rfl, h⟩ | ⟨rfl, h⟩ | ⟨rfl, h⟩ | ⟨rfl, h⟩)
  · exact ⟨ent_overdubkeep_Cut_byte, good_overdubkeep_Cut_byte.one h⟩
  · exact ⟨ent_overdubkeep_Cut_int, good_overdubkeep_Cut_int.one h⟩
  · exact ⟨ent_overdubkeep_Lend, good_overdubkeep_Lend.one h⟩
  · exact ⟨ent_field_Take, good_field_Take.one h⟩
  · exact ⟨ent_overdubref01_Take, good_overdubref01_Take.one h⟩
  · exact ⟨ent_overdubkeep_Same_int, good_overdubkeep_Same_int.one h⟩
  · exact ⟨ent_field_Join, good_field_Join.one h⟩
  · exact ⟨ent_overdubkeep_Same_byte, good_overdubkeep_Same_byte.one h⟩
  · exact ⟨ent_overdublaw04_wakes, good_overdublaw04_wakes.one h⟩
theorem FT_sm : ∀ f vs lent out, FT.Sm f vs lent out → Ent FT.P f ∧ GoodM FT.P f (fun a l b => a = vs ∧ l = lent ∧ b = out) := by
  rintro f vs lent out ⟨rfl, h⟩
  exact ⟨ent_overdubkeep_Intact, goodM_overdubkeep_Intact.one h⟩
theorem FT_ok : FT.Ok := ⟨FT_sp, Es_ok, FT_sm⟩
def stF (b : List Int) (l : List (List Int)) (x8 x10 : V) (ok : Bool) (hp : List (Nat × Ob)) (j : Nat) : St := ⟨[(0, .d (.list (b.map mB))), (2, .d (.list (l.map bys))), (7, .slc 20 1 0 b.length (b.length + 3)), (8, x8), (9, .d (.v (.bool ok))), (10, x10), (11, .d (.v (.bool ok))),
  (12, .sl 100 1 0 j true), (13, .sl 101 1 0 (cutR l j).flatten.length true), (14, .d (.v (.int .i64 j)))], (100, .row 24 1 ((cutR l j).map bys)) :: (101, .row 5 1 ((cutR l j).flatten.map mB)) :: (20, .row 5 1 ((b ++ [85, 85, 85]).map mB)) :: hp, 79⟩
def Sp_overdublaw04_FieldTakes (ds : List D) (out : Out) : Prop := ∃ (b ws : List Int) (l : List (List Int)), ds = [.list (b.map mB), .list (ws.map mI), .list (l.map bys)] ∧ Byt b ∧ b.length ≤ 9223372036854775807 ∧ ws.length ≤ 9223372036854775807 ∧ l.length ≤ 9223372036854775807 ∧ (∀ r ∈ l, r.length ≤ 9223372036854775807) ∧ out = ⟨.d (.v (.bool true)), []⟩
theorem good_overdublaw04_FieldTakes : Good Try.prog 7 Sp_overdublaw04_FieldTakes := by
  refine good_body (E := FT) (nt := 79) (rs := #[.tmp 6]) Try.func7 rfl rfl rfl ?_
  rintro ds out ⟨b0, ws0, l, rfl, hb0, hbl, hwl, hll, hrl, rfl⟩
  refine ⟨by simp, ?_⟩
  obtain ⟨b, hB⟩ : ∃ b, b0.take 60 = b := ⟨_, rfl⟩
  obtain ⟨ws, hW⟩ : ∃ ws, ws0.take 12 = ws := ⟨_, rfl⟩
  have hb : Byt b := hB ▸ byt_take hb0 60
  have hbt : Byt b = True := eq_true hb
  have hl2 : b.length ≤ 60 := by rw [← hB, List.length_take]; omega
  have hw2 : ws.length ≤ 12 := by rw [← hW, List.length_take]; omega
  have hLt : ((b ++ [85, 85, 85]).map mB).take b.length = b.map mB := by simp
  cases hT : takeL b ws with
  | none =>
    have hto : takeOut b ws = ⟨.tup [.nil, .d (.v (.bool false))], []⟩ := by rw [takeOut, hT]
    clear hT
    repeat' first
 | refine AW.seq ?_
 | refine AW.block ?_
 | refine AW.regl FT_ok [0, 1, 2, 6, 7, 8, 9, 10, 11, 12, 13, 14, 40] ?_
 | refine then_n ?_
 | refine then_r ?_
 | refine then_x ?_
 | refine block_x ?_
 | refine block_o (by decide) ?_
 | refine block_n ?_
 | refine block_r ?_
 | refine AW.skip ?_
 | refine AW.ret ?_
 | refine AW.exit ?_
 | refine AW.cond rfl ?_ ?_
 | refine awl_none rfl ?_
 | refine awl_nil2 ?_
 | refine awl_some rfl rfl (Nat.le_of_ble_eq_true rfl) rfl rfl ?_ ?_
 | (refine fun (hc : _ = _) => ?_; first | cases hc | ((try rw [hc]); (try simp only [stH] at hc); (try (exfalso; omega))); (try (show Awl _ _ _ _ _; simp only [stU])))
 | ((first | refine fun (K : V → List _ → _) hK => ?_ | refine fun (_ : V → V) => ?_); simp (disch := omega) only [go_sem, Int.reduceEq, ↓reduceIte, reduceCtorEq, Nat.reduceEqDiff, Nat.reduceLT, Nat.reduceLeDiff, Nat.reduceAdd, Nat.reduceSub, Nat.reduceMul, Int.reduceToNat, Int.reduceLE, Int.reduceLT, FT, Sp_overdubkeep_Cut_byte, Sp_overdubkeep_Cut_int, Sp_overdubkeep_Lend, Sp_field_Take, Sp_overdubref01_Take, Sp_overdubkeep_Same_int, Sp_field_Join, Sp_overdubkeep_Same_byte, Sm_overdubkeep_Intact, Sp_overdublaw04_wakes, hB, hW, hbt, hto, hLt, mB_inj, mI_inj]; (try (revert hK; intro hK; (repeat' first | (refine And.intro ?_ ?_) | (intro hc; first | cases hc | ((try rw [hc]); (try simp only [stH] at hc); (try (exfalso; omega))))); all_goals first | (refine hK _ _ ?_; clear hK K; simp only [stU]) | exact hK | omega)))
    refine AW.loop_wk (fun j : Nat => stF b l .nil .nil false [] j) (fun j => j ≤ min l.length 6) (fun j => 6 - j) 0 (by omega) ?_ ?_
    · intro w0 oa a w hs
      have h1 := nil_sr 12 100 24 1 rfl (by simp) rfl (by decide) hs
      have h2 := nil_sr 13 101 5 1 rfl (by simp [St.upd, St.put]) rfl (by decide) h1
      refine Wk.sr (ρ := nm []) (Wk.of ?_) h2
      simp (disch := omega) only [go_sem, Int.reduceEq, ↓reduceIte, reduceCtorEq, Nat.reduceEqDiff, Nat.reduceLT, Nat.reduceLeDiff, Nat.reduceAdd, Nat.reduceSub, Nat.reduceMul, Int.reduceToNat, Int.reduceLE, Int.reduceLT, FT, Sp_overdubkeep_Cut_byte, Sp_overdubkeep_Cut_int, Sp_overdubkeep_Lend, Sp_field_Take, Sp_overdubref01_Take, Sp_overdubkeep_Same_int, Sp_field_Join, Sp_overdubkeep_Same_byte, Sm_overdubkeep_Intact, Sp_overdublaw04_wakes, stF, cutR_0, List.flatten_nil]
    intro j hj
    have hR := cutR_len l (j := j) (by omega)
    have hF := cutR_flat l j
    by_cases hj6 : j < min l.length 6
    · have h1 : j < l.length := by omega
      have e1 := nth_bys l j h1
      have e2 := snoc_R l j h1
      have e3 := snoc_B l j h1
      have e4 := nth_cutR l j h1
      have hR1 := cutR_len l (j := j + 1) (by omega)
      have hF1 := cutR_flat l (j + 1)
      have hr1 : (l.getD j []).length ≤ 9223372036854775807 := by
        rw [List.getD_eq_getElem?_getD, List.getElem?_eq_getElem h1]; exact hrl _ (List.getElem_mem h1)
      have hfl : (cutR l (j + 1)).flatten.length = (cutR l j).flatten.length + ((l.getD j []).take 40).length := by rw [cutR_succ l h1]; simp
      generalize l.getD j [] = r0 at *
      have hr2 : (r0.take 40).length ≤ 40 := by rw [List.length_take]; omega
      repeat' ((first
 | refine AW.seq ?_
 | refine AW.block ?_
 | refine AW.regl FT_ok [0, 1, 2, 6, 7, 8, 9, 10, 11, 12, 13, 14, 40] ?_
 | refine then_n ?_
 | refine then_r ?_
 | refine then_x ?_
 | refine block_x ?_
 | refine block_o (by decide) ?_
 | refine block_n ?_
 | refine block_r ?_
 | refine AW.skip ?_
 | refine AW.ret ?_
 | refine AW.exit ?_
 | refine AW.cond rfl ?_ ?_
 | refine awl_none rfl ?_
 | refine awl_nil2 ?_
 | refine awl_some rfl rfl (Nat.le_of_ble_eq_true rfl) rfl rfl ?_ ?_
 | (refine fun (hc : _ = _) => ?_; first | cases hc | ((try rw [hc]); (try simp only [stH] at hc); (try (exfalso; omega))); (try (show Awl _ _ _ _ _; simp only [stU])))
 | ((first | refine fun (K : V → List _ → _) hK => ?_ | refine fun (_ : V → V) => ?_); simp (disch := omega) only [go_sem, Int.reduceEq, ↓reduceIte, reduceCtorEq, Nat.reduceEqDiff, Nat.reduceLT, Nat.reduceLeDiff, Nat.reduceAdd, Nat.reduceSub, Nat.reduceMul, Int.reduceToNat, Int.reduceLE, Int.reduceLT, FT, Sp_overdubkeep_Cut_byte, Sp_overdubkeep_Cut_int, Sp_overdubkeep_Lend, Sp_field_Take, Sp_overdubref01_Take, Sp_overdubkeep_Same_int, Sp_field_Join, Sp_overdubkeep_Same_byte, Sm_overdubkeep_Intact, Sp_overdublaw04_wakes, stF, e1, e2, e3, e4, hR, hfl, bys_list, all_bys, mB_inj]; (try (revert hK; intro hK; (repeat' first | (refine And.intro ?_ ?_) | (intro hc; first | cases hc | ((try rw [hc]); (try simp only [stH] at hc); (try (exfalso; omega))))); all_goals first | (refine hK _ _ ?_; clear hK K; simp only [stU]) | exact hK | omega)))) <;> (fail_if_success (show False; skip)))
      refine ⟨j + 1, by omega, by omega, nm [(100, 50), (101, 56)], Wk.of ?_⟩
      simp (disch := omega) only [go_sem, Int.reduceEq, ↓reduceIte, reduceCtorEq, Nat.reduceEqDiff, Nat.reduceLT, Nat.reduceLeDiff, Nat.reduceAdd, Nat.reduceSub, Nat.reduceMul, Int.reduceToNat, Int.reduceLE, Int.reduceLT, FT, Sp_overdubkeep_Cut_byte, Sp_overdubkeep_Cut_int, Sp_overdubkeep_Lend, Sp_field_Take, Sp_overdubref01_Take, Sp_overdubkeep_Same_int, Sp_field_Join, Sp_overdubkeep_Same_byte, Sm_overdubkeep_Intact, Sp_overdublaw04_wakes, stF, hfl]
      rfl
    · have hje : j = min l.length 6 := by omega
      repeat' first
 | refine AW.seq ?_
 | refine AW.block ?_
 | refine AW.regl FT_ok [0, 1, 2, 6, 7, 8, 9, 10, 11, 12, 13, 14, 40] ?_
 | refine then_n ?_
 | refine then_r ?_
 | refine then_x ?_
 | refine block_x ?_
 | refine block_o (by decide) ?_
 | refine block_n ?_
 | refine block_r ?_
 | refine AW.skip ?_
 | refine AW.ret ?_
 | refine AW.exit ?_
 | refine AW.cond rfl ?_ ?_
 | refine awl_none rfl ?_
 | refine awl_nil2 ?_
 | refine awl_some rfl rfl (Nat.le_of_ble_eq_true rfl) rfl rfl ?_ ?_
 | (refine fun (hc : _ = _) => ?_; first | cases hc | ((try rw [hc]); (try simp only [stH] at hc); (try (exfalso; omega))); (try (show Awl _ _ _ _ _; simp only [stU])))
 | ((first | refine fun (K : V → List _ → _) hK => ?_ | refine fun (_ : V → V) => ?_); simp (disch := omega) only [go_sem, Int.reduceEq, ↓reduceIte, reduceCtorEq, Nat.reduceEqDiff, Nat.reduceLT, Nat.reduceLeDiff, Nat.reduceAdd, Nat.reduceSub, Nat.reduceMul, Int.reduceToNat, Int.reduceLE, Int.reduceLT, FT, Sp_overdubkeep_Cut_byte, Sp_overdubkeep_Cut_int, Sp_overdubkeep_Lend, Sp_field_Take, Sp_overdubref01_Take, Sp_overdubkeep_Same_int, Sp_field_Join, Sp_overdubkeep_Same_byte, Sm_overdubkeep_Intact, Sp_overdublaw04_wakes, stF, hR, hbt, hto, hLt, nilI, cutR_take, flat_take, bysm_inj, mB_inj, mI_inj, V.d.injEq]; (try (revert hK; intro hK; (repeat' first | (refine And.intro ?_ ?_) | (intro hc; first | cases hc | ((try rw [hc]); (try simp only [stH] at hc); (try (exfalso; omega))))); all_goals first | (refine hK _ _ ?_; clear hK K; simp only [stU]) | exact hK | omega)))
      all_goals (refine Ends.of (nm []) (by first | exact .inl rfl | exact .inr rfl) ?_; simp (disch := omega) only [go_sem, Int.reduceEq, ↓reduceIte, reduceCtorEq, Nat.reduceEqDiff, Nat.reduceLT, Nat.reduceLeDiff, Nat.reduceAdd, Nat.reduceSub, Nat.reduceMul, Int.reduceToNat, Int.reduceLE, Int.reduceLT, FT, Sp_overdubkeep_Cut_byte, Sp_overdubkeep_Cut_int, Sp_overdubkeep_Lend, Sp_field_Take, Sp_overdubref01_Take, Sp_overdubkeep_Same_int, Sp_field_Join, Sp_overdubkeep_Same_byte, Sm_overdubkeep_Intact, Sp_overdublaw04_wakes])
  | some r =>
    have hto : takeOut b ws = ⟨.tup [.sl 0 1 0 r.length true, .d (.v (.bool true))], [(0, .row 3 1 (r.map mI))]⟩ := by rw [takeOut, hT]
    have hrl2 : r.length ≤ 12 := by rw [takeL_some _ _ _ hT]; exact hw2
    have hri : (r.map mI).take r.length = r.map mI := List.take_of_length_le (by simp)
    clear hT
    repeat' first
 | refine AW.seq ?_
 | refine AW.block ?_
 | refine AW.regl FT_ok [0, 1, 2, 6, 7, 8, 9, 10, 11, 12, 13, 14, 40] ?_
 | refine then_n ?_
 | refine then_r ?_
 | refine then_x ?_
 | refine block_x ?_
 | refine block_o (by decide) ?_
 | refine block_n ?_
 | refine block_r ?_
 | refine AW.skip ?_
 | refine AW.ret ?_
 | refine AW.exit ?_
 | refine AW.cond rfl ?_ ?_
 | refine awl_none rfl ?_
 | refine awl_nil2 ?_
 | refine awl_some rfl rfl (Nat.le_of_ble_eq_true rfl) rfl rfl ?_ ?_
 | (refine fun (hc : _ = _) => ?_; first | cases hc | ((try rw [hc]); (try simp only [stH] at hc); (try (exfalso; omega))); (try (show Awl _ _ _ _ _; simp only [stU])))
 | ((first | refine fun (K : V → List _ → _) hK => ?_ | refine fun (_ : V → V) => ?_); simp (disch := omega) only [go_sem, Int.reduceEq, ↓reduceIte, reduceCtorEq, Nat.reduceEqDiff, Nat.reduceLT, Nat.reduceLeDiff, Nat.reduceAdd, Nat.reduceSub, Nat.reduceMul, Int.reduceToNat, Int.reduceLE, Int.reduceLT, FT, Sp_overdubkeep_Cut_byte, Sp_overdubkeep_Cut_int, Sp_overdubkeep_Lend, Sp_field_Take, Sp_overdubref01_Take, Sp_overdubkeep_Same_int, Sp_field_Join, Sp_overdubkeep_Same_byte, Sm_overdubkeep_Intact, Sp_overdublaw04_wakes, hB, hW, hbt, hto, hLt, mB_inj, mI_inj]; (try (revert hK; intro hK; (repeat' first | (refine And.intro ?_ ?_) | (intro hc; first | cases hc | ((try rw [hc]); (try simp only [stH] at hc); (try (exfalso; omega))))); all_goals first | (refine hK _ _ ?_; clear hK K; simp only [stU]) | exact hK | omega)))
    refine AW.loop_wk (fun j : Nat => stF b l (.sl 24 1 0 r.length true) (.sl 30 1 0 r.length true) true [(30, .row 3 1 (r.map mI)), (24, .row 3 1 (r.map mI))] j) (fun j => j ≤ min l.length 6) (fun j => 6 - j) 0 (by omega) ?_ ?_
    · intro w0 oa a w hs
      have h1 := nil_sr 12 100 24 1 rfl (by simp) rfl (by decide) hs
      have h2 := nil_sr 13 101 5 1 rfl (by simp [St.upd, St.put]) rfl (by decide) h1
      refine Wk.sr (ρ := nm []) (Wk.of ?_) h2
      simp (disch := omega) only [go_sem, Int.reduceEq, ↓reduceIte, reduceCtorEq, Nat.reduceEqDiff, Nat.reduceLT, Nat.reduceLeDiff, Nat.reduceAdd, Nat.reduceSub, Nat.reduceMul, Int.reduceToNat, Int.reduceLE, Int.reduceLT, FT, Sp_overdubkeep_Cut_byte, Sp_overdubkeep_Cut_int, Sp_overdubkeep_Lend, Sp_field_Take, Sp_overdubref01_Take, Sp_overdubkeep_Same_int, Sp_field_Join, Sp_overdubkeep_Same_byte, Sm_overdubkeep_Intact, Sp_overdublaw04_wakes, stF, cutR_0, List.flatten_nil]
    intro j hj
    have hR := cutR_len l (j := j) (by omega)
    have hF := cutR_flat l j
    by_cases hj6 : j < min l.length 6
    · have h1 : j < l.length := by omega
      have e1 := nth_bys l j h1
      have e2 := snoc_R l j h1
      have e3 := snoc_B l j h1
      have e4 := nth_cutR l j h1
      have hR1 := cutR_len l (j := j + 1) (by omega)
      have hF1 := cutR_flat l (j + 1)
      have hr1 : (l.getD j []).length ≤ 9223372036854775807 := by
        rw [List.getD_eq_getElem?_getD, List.getElem?_eq_getElem h1]; exact hrl _ (List.getElem_mem h1)
      have hfl : (cutR l (j + 1)).flatten.length = (cutR l j).flatten.length + ((l.getD j []).take 40).length := by rw [cutR_succ l h1]; simp
      generalize l.getD j [] = r0 at *
      have hr2 : (r0.take 40).length ≤ 40 := by rw [List.length_take]; omega
      repeat' ((first
 | refine AW.seq ?_
 | refine AW.block ?_
 | refine AW.regl FT_ok [0, 1, 2, 6, 7, 8, 9, 10, 11, 12, 13, 14, 40] ?_
 | refine then_n ?_
 | refine then_r ?_
 | refine then_x ?_
 | refine block_x ?_
 | refine block_o (by decide) ?_
 | refine block_n ?_
 | refine block_r ?_
 | refine AW.skip ?_
 | refine AW.ret ?_
 | refine AW.exit ?_
 | refine AW.cond rfl ?_ ?_
 | refine awl_none rfl ?_
 | refine awl_nil2 ?_
 | refine awl_some rfl rfl (Nat.le_of_ble_eq_true rfl) rfl rfl ?_ ?_
 | (refine fun (hc : _ = _) => ?_; first | cases hc | ((try rw [hc]); (try simp only [stH] at hc); (try (exfalso; omega))); (try (show Awl _ _ _ _ _; simp only [stU])))
 | ((first | refine fun (K : V → List _ → _) hK => ?_ | refine fun (_ : V → V) => ?_); simp (disch := omega) only [go_sem, Int.reduceEq, ↓reduceIte, reduceCtorEq, Nat.reduceEqDiff, Nat.reduceLT, Nat.reduceLeDiff, Nat.reduceAdd, Nat.reduceSub, Nat.reduceMul, Int.reduceToNat, Int.reduceLE, Int.reduceLT, FT, Sp_overdubkeep_Cut_byte, Sp_overdubkeep_Cut_int, Sp_overdubkeep_Lend, Sp_field_Take, Sp_overdubref01_Take, Sp_overdubkeep_Same_int, Sp_field_Join, Sp_overdubkeep_Same_byte, Sm_overdubkeep_Intact, Sp_overdublaw04_wakes, stF, e1, e2, e3, e4, hR, hfl, bys_list, all_bys, mB_inj]; (try (revert hK; intro hK; (repeat' first | (refine And.intro ?_ ?_) | (intro hc; first | cases hc | ((try rw [hc]); (try simp only [stH] at hc); (try (exfalso; omega))))); all_goals first | (refine hK _ _ ?_; clear hK K; simp only [stU]) | exact hK | omega)))) <;> (fail_if_success (show False; skip)))
      refine ⟨j + 1, by omega, by omega, nm [(100, 50), (101, 56)], Wk.of ?_⟩
      simp (disch := omega) only [go_sem, Int.reduceEq, ↓reduceIte, reduceCtorEq, Nat.reduceEqDiff, Nat.reduceLT, Nat.reduceLeDiff, Nat.reduceAdd, Nat.reduceSub, Nat.reduceMul, Int.reduceToNat, Int.reduceLE, Int.reduceLT, FT, Sp_overdubkeep_Cut_byte, Sp_overdubkeep_Cut_int, Sp_overdubkeep_Lend, Sp_field_Take, Sp_overdubref01_Take, Sp_overdubkeep_Same_int, Sp_field_Join, Sp_overdubkeep_Same_byte, Sm_overdubkeep_Intact, Sp_overdublaw04_wakes, stF, hfl]
      rfl
    · have hje : j = min l.length 6 := by omega
      repeat' first
 | refine AW.seq ?_
 | refine AW.block ?_
 | refine AW.regl FT_ok [0, 1, 2, 6, 7, 8, 9, 10, 11, 12, 13, 14, 40] ?_
 | refine then_n ?_
 | refine then_r ?_
 | refine then_x ?_
 | refine block_x ?_
 | refine block_o (by decide) ?_
 | refine block_n ?_
 | refine block_r ?_
 | refine AW.skip ?_
 | refine AW.ret ?_
 | refine AW.exit ?_
 | refine AW.cond rfl ?_ ?_
 | refine awl_none rfl ?_
 | refine awl_nil2 ?_
 | refine awl_some rfl rfl (Nat.le_of_ble_eq_true rfl) rfl rfl ?_ ?_
 | (refine fun (hc : _ = _) => ?_; first | cases hc | ((try rw [hc]); (try simp only [stH] at hc); (try (exfalso; omega))); (try (show Awl _ _ _ _ _; simp only [stU])))
 | ((first | refine fun (K : V → List _ → _) hK => ?_ | refine fun (_ : V → V) => ?_); simp (disch := omega) only [go_sem, Int.reduceEq, ↓reduceIte, reduceCtorEq, Nat.reduceEqDiff, Nat.reduceLT, Nat.reduceLeDiff, Nat.reduceAdd, Nat.reduceSub, Nat.reduceMul, Int.reduceToNat, Int.reduceLE, Int.reduceLT, FT, Sp_overdubkeep_Cut_byte, Sp_overdubkeep_Cut_int, Sp_overdubkeep_Lend, Sp_field_Take, Sp_overdubref01_Take, Sp_overdubkeep_Same_int, Sp_field_Join, Sp_overdubkeep_Same_byte, Sm_overdubkeep_Intact, Sp_overdublaw04_wakes, stF, hri, hR, hbt, hto, hLt, nilI, cutR_take, flat_take, bysm_inj, mB_inj, mI_inj, V.d.injEq]; (try (revert hK; intro hK; (repeat' first | (refine And.intro ?_ ?_) | (intro hc; first | cases hc | ((try rw [hc]); (try simp only [stH] at hc); (try (exfalso; omega))))); all_goals first | (refine hK _ _ ?_; clear hK K; simp only [stU]) | exact hK | omega)))
      all_goals (refine Ends.of (nm []) (by first | exact .inl rfl | exact .inr rfl) ?_; simp (disch := omega) only [go_sem, Int.reduceEq, ↓reduceIte, reduceCtorEq, Nat.reduceEqDiff, Nat.reduceLT, Nat.reduceLeDiff, Nat.reduceAdd, Nat.reduceSub, Nat.reduceMul, Int.reduceToNat, Int.reduceLE, Int.reduceLT, FT, Sp_overdubkeep_Cut_byte, Sp_overdubkeep_Cut_int, Sp_overdubkeep_Lend, Sp_field_Take, Sp_overdubref01_Take, Sp_overdubkeep_Same_int, Sp_field_Join, Sp_overdubkeep_Same_byte, Sm_overdubkeep_Intact, Sp_overdublaw04_wakes])
theorem ent_overdublaw04_FieldTakes : Ent Try.prog 7 := ⟨_, Try.func7, rfl, by decide⟩
end Go.Proofs.Ytgijagbneapcfaa.Am
