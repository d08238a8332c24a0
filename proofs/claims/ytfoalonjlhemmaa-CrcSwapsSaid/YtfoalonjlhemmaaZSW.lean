import Derived.Test.YtfoalonjlhemmaaZKC
import Derived.Test.YtfoalonjlhemmaaZCL
set_option linter.unusedVariables false
set_option linter.unusedSimpArgs false
set_option maxRecDepth 10000
set_option maxHeartbeats 0
namespace Go.Proofs.Ytfoalonjlhemmaa.Am
open Go Go.RowKit Go.Proofs
theorem getD_byt {l : List Int} (h : Byt l) (i : Nat) : 0 ≤ l.getD i 0 ∧ l.getD i 0 < 256 := by
  rw [List.getD_eq_getElem?_getD]
  cases e : l[i]? with
  | none => simp
  | some x => exact h x (List.mem_of_getElem? e)
theorem half_pow {k : Nat} (h : k < 8) : 0 < (128 : Int).fdiv (2 ^ k) ∧ (128 : Int).fdiv (2 ^ k) < 256 := by
  rcases (show k = 0 ∨ k = 1 ∨ k = 2 ∨ k = 3 ∨ k = 4 ∨ k = 5 ∨ k = 6 ∨ k = 7 by omega) with rfl | rfl | rfl | rfl | rfl | rfl | rfl | rfl <;> decide
theorem within_rng {v n : Int} (h : 0 < n) : 0 ≤ within v n ∧ within v n < n := by
  unfold within
  rw [if_neg (by omega)]
  have h1 := Int.tmod_lt_of_pos v h
  have h2 : -n < v.tmod n := by
    have := Int.tmod_lt_of_pos (-v) h
    rw [Int.neg_tmod] at this
    omega
  split <;> omega
noncomputable def SW : Env := ⟨Try.prog, fun f ds out => (f = 9 ∧ Sp_overdubkeep_CutCopy_byte ds out) ∨ (f = 10 ∧ Sp_crc_New ds out) ∨ (f = 12 ∧ Sp_overdubkeep_Within ds out) ∨ (f = 13 ∧ Sp_overdublaw03_wakes ds out), Es, fun _ => false, fun f vs lent out => (f = 11 ∧ Sm_crc_Table_Sum vs lent out), fun f => if f = 11 then some [1000000] else none⟩
theorem SW_sp : ∀ f ds out, SW.Sp f ds out → Ent SW.P f ∧ Good SW.P f (fun a b => a = ds ∧ b = out) := by
  rintro f ds out (⟨rfl, h⟩ | ⟨rfl, h⟩ | ⟨rfl, h⟩ | ⟨rfl, h⟩)
  · exact ⟨ent_overdubkeep_CutCopy_byte, good_overdubkeep_CutCopy_byte.one h⟩
  · exact ⟨ent_crc_New, good_crc_New.one h⟩
  · exact ⟨ent_overdubkeep_Within, good_overdubkeep_Within.one h⟩
  · exact ⟨ent_overdublaw03_wakes, good_overdublaw03_wakes.one h⟩
theorem SW_sm : ∀ f vs lent out, SW.Sm f vs lent out → Ent SW.P f ∧ GoodM SW.P f (fun a l b => a = vs ∧ l = lent ∧ b = out) := by
  rintro f vs lent out ⟨rfl, h⟩
  exact ⟨ent_crc_Table_Sum, goodM_crc_Table_Sum.one h⟩
theorem SW_ok : SW.Ok := ⟨SW_sp, Es_ok, SW_sm⟩
def Sp_overdublaw03_CrcSwaps (ds : List D) (out : Out) : Prop := ∃ (l : List Int) (at_ digit : Int), ds = [.list (l.map mB), .v (.int .i64 at_), .v (.int .i64 digit)] ∧ Byt l ∧ l.length ≤ 9223372036854775807 ∧ out = ⟨.d (.v (.bool true)), []⟩
def bb_overdublaw03_CrcSwaps_15 : List Nat := [0, 0, 3, 7, 0, 0, 32, 112, 240, 511, 1023]
def bb_overdublaw03_CrcSwaps_16 : List Nat := [0, 0, 0, 0, 8, 0, 0, 64, 224, 480, 0, 0, 3072, 7168, 16355, 32739, 65535, 131071]
def cc_overdublaw03_CrcSwaps_15 : List (List (Option Bool)) := [[some false, none, some false, some false, none, none, none, none, none, some false, some false], [none, some false, some false, some false, none, none, none, none, none, some false, some false], [some true, some true, some false, some false, none, none, none, none, none, some false, some false], [some true, some true, some true, some false, none, none, none, none, none, some false, some false], [none, none, none, none, some false, none, none, some false, some false, some false, some false], [none, none, none, none, none, some false, some false, some false, some false, some false, some false], [none, none, none, none, none, some true, some false, some false, some false, some false, some false], [none, none, none, none, some true, some true, some true, some false, some false, some false, some false], [none, none, none, none, some true, some true, some true, some true, some false, some false, some false], [some true, some true, some true, some true, some true, some true, some true, some true, some true, some false, some false], [some true, some true, some true, some true, some true, some true, some true, some true, some true, some true, some false]]
def cc_overdublaw03_CrcSwaps_16 : List (List (Option Bool)) := [[some false, none, none, none, none, none, none, none, none, none, none, none, none, none, some false, some false, some false, some false], [none, some false, none, none, none, none, none, none, none, none, none, none, none, none, some false, some false, some false, some false], [none, none, some false, none, none, none, none, none, none, none, none, none, none, none, none, none, some false, some false], [none, none, none, some false, some false, none, none, none, none, none, none, none, none, none, none, none, some false, some false], [none, none, none, some true, some false, none, none, none, none, none, none, none, none, none, none, none, some false, some false], [none, none, none, none, none, some false, none, none, some false, some false, none, none, none, none, some false, some false, some false, some false], [none, none, none, none, none, none, some false, some false, some false, some false, none, none, none, none, some false, some false, some false, some false], [none, none, none, none, none, none, some true, some false, some false, some false, none, none, none, none, some false, some false, some false, some false], [none, none, none, none, none, some true, some true, some true, some false, some false, none, none, none, none, some false, some false, some false, some false], [none, none, none, none, none, some true, some true, some true, some true, some false, none, none, none, none, some false, some false, some false, some false], [none, none, none, none, none, none, none, none, none, none, some false, none, some false, some false, some false, some false, some false, some false], [none, none, none, none, none, none, none, none, none, none, none, some false, some false, some false, some false, some false, some false, some false], [none, none, none, none, none, none, none, none, none, none, some true, some true, some false, some false, some false, some false, some false, some false], [none, none, none, none, none, none, none, none, none, none, some true, some true, some true, some false, some false, some false, some false, some false], [some true, some true, none, none, none, some true, some true, some true, some true, some true, some true, some true, some true, some true, some false, some false, some false, some false], [some true, some true, none, none, none, some true, some true, some true, some true, some true, some true, some true, some true, some true, some true, some false, some false, some false], [some true, some true, some true, some true, some true, some true, some true, some true, some true, some true, some true, some true, some true, some true, some true, some true, some false, some false], [some true, some true, some true, some true, some true, some true, some true, some true, some true, some true, some true, some true, some true, some true, some true, some true, some true, some false]]
theorem good_overdublaw03_CrcSwaps : Good Try.prog 3 Sp_overdublaw03_CrcSwaps := by
  refine good_body (E := SW) (nt := 100) (rs := #[.tmp 6]) Try.func3 rfl rfl rfl ?_
  rintro ds out ⟨l0, at_, digit, rfl, hb0, hl, rfl⟩
  refine ⟨by simp, ?_⟩
  obtain ⟨l, hL⟩ : ∃ l, l0.take 120 = l := ⟨_, rfl⟩
  have hb : Byt l := hL ▸ byt_take hb0 120
  have hl2 : l.length ≤ 120 := by rw [← hL, List.length_take]; omega
  have hlt : (l.map mB).take l.length = l.map mB := List.take_of_length_le (by simp)
  by_cases h0 : l.length = 0
  · obtain rfl : l = [] := List.eq_nil_of_length_eq_zero h0
    repeat' first
 | refine AW.seq ?_
 | refine AW.block ?_
 | refine AW.regl SW_ok [0, 1, 2, 6, 7, 8, 9, 10, 11, 16, 22, 43, 57] ?_
 | (refine AW.regc (id := 15) SW_ok follows bb_overdublaw03_CrcSwaps_15 (by kernel_rfl) [0, 1, 2, 6, 7, 8, 9, 10, 11, 16, 22, 43, 57] ?_)
 | (refine AW.regc (id := 16) SW_ok follows bb_overdublaw03_CrcSwaps_16 (by kernel_rfl) [0, 1, 2, 6, 7, 8, 9, 10, 11, 16, 22, 43, 57] ?_)
 | refine then_n ?_
 | refine then_r ?_
 | refine then_x ?_
 | refine block_x ?_
 | refine block_o (by decide) ?_
 | refine block_n ?_
 | refine block_r ?_
 | refine AW.skip ?_
 | refine AW.ret ?_
 | refine AW.exit ?_
 | refine AW.cond rfl ?_ ?_
 | refine awl_none rfl ?_
 | refine awl_nil2 ?_
 | refine awl_some rfl rfl (Nat.le_of_ble_eq_true rfl) rfl rfl ?_ ?_
 | refine awc_none rfl ?_
 | exact each_nil
 | refine each_none rfl ?_ ?_
 | refine awc_leaf2 [some 64, some 65, some 66, some 67, some 68, some 69, some 70, some 71, some 72, some 73, some 11] cc_overdublaw03_CrcSwaps_15 rfl (by kernel_rfl) (by kernel_rfl) ?_ ?_
 | refine awc_leaf2 [some 74, some 75, some 76, some 77, some 78, some 79, some 80, some 81, some 82, some 83, some 84, some 85, some 86, some 87, some 88, none, some 89, none] cc_overdublaw03_CrcSwaps_16 rfl (by kernel_rfl) (by kernel_rfl) ?_ ?_
 | (refine fun (hc : _ = _) => ?_; first | cases hc | ((try rw [hc]); (try simp only [stH] at hc); (try (exfalso; omega))); (try ((first | show Awl _ _ _ _ _ | show Awc _ _ _ _ _ _); simp only [stU])))
 | ((first | refine fun (K : V → List _ → _) hK => ?_ | refine fun (_ : V → V) => ?_ | refine fun (bb : Nat → Bool) K hK => ?_); simp (disch := omega) only [go_sem, Int.reduceEq, ↓reduceIte, reduceCtorEq, Nat.reduceEqDiff, Nat.reduceLT, Nat.reduceLeDiff, Nat.reduceAdd, Nat.reduceSub, Nat.reduceMul, Int.reduceToNat, Int.reduceLE, Int.reduceLT, SW, Sp_overdubkeep_CutCopy_byte, Sp_crc_New, Sm_crc_Table_Sum, Sp_overdubkeep_Within, Sp_overdublaw03_wakes, hL, hlt, all_B, mB_inj, hl, RT_inj, V.d.injEq, V.ptr.injEq, Prod.mk.injEq, Ob.opq.injEq, nilD, List.map_nil, List.length_nil, Sg3, St.updIf, ifc_nil, gt_ifc, go_ifc, ite_self, Option.none_or, Option.some_or]; (try (revert hK; intro hK; (repeat' first | (refine And.intro ?_ ?_) | (intro hc; first | cases hc | ((try rw [hc]); (try simp only [stH] at hc); (try (exfalso; omega))))); all_goals first | (refine hK _ _ ?_; clear hK K; simp only [stU]) | exact hK | omega)))
    all_goals (refine Ends.of (nm []) (by first | exact .inl rfl | exact .inr rfl) ?_; simp (disch := omega) only [go_sem, Int.reduceEq, ↓reduceIte, reduceCtorEq, Nat.reduceEqDiff, Nat.reduceLT, Nat.reduceLeDiff, Nat.reduceAdd, Nat.reduceSub, Nat.reduceMul, Int.reduceToNat, Int.reduceLE, Int.reduceLT, SW, Sp_overdubkeep_CutCopy_byte, Sp_crc_New, Sm_crc_Table_Sum, Sp_overdubkeep_Within, Sp_overdublaw03_wakes])
  have wk := within_rng (v := digit) (n := 8 * l.length) (by omega)
  obtain ⟨k, hk⟩ : ∃ k : Nat, within digit (8 * l.length) = k := ⟨(within digit (8 * l.length)).toNat, by omega⟩
  have hk1 : k < 8 * l.length := by omega
  have hd8 : ((k : Nat) : Int).tdiv 8 = (k / 8 : Nat) := by rw [Int.tdiv_eq_ediv_of_nonneg (by omega)]; omega
  have hm8 : ((k : Nat) : Int).tmod 8 = (k % 8 : Nat) := by rw [Int.tmod_eq_emod_of_nonneg (by omega)]; omega
  have hi : k / 8 < l.length := by omega
  have hj : k % 8 < 8 := by omega
  clear wk hk1
  generalize k / 8 = i at *
  generalize k % 8 = j at *
  have e2 := getD_byt hb i
  have e6 : nth (l.map mB) i = .v (.int .u8 (l.getD i 0)) := nth_B l i (by omega)
  have hpw := half_pow hj
  obtain ⟨y, hy⟩ : ∃ y, Go.bits .xor .u8 (l.getD i 0) ((128 : Int).fdiv (2 ^ j)) = y := ⟨_, rfl⟩
  have hyr : 0 ≤ y ∧ y < 256 := hy ▸ QC.xor8_rng _ _
  have hne : y ≠ l.getD i 0 := hy ▸ x8_ne e2 hpw
  have hz : Go.bits .xor .u8 y ((128 : Int).fdiv (2 ^ j)) = l.getD i 0 := hy ▸ x8_self e2
  have hst : (l.map mB).set i (.v (.int .u8 y)) = (l.set i y).map mB := by rw [List.map_set]; rfl
  have hsl : (l.set i y).length = l.length := by simp
  have hst2 : ((l.set i y).map mB).set i (.v (.int .u8 (l.getD i 0))) = l.map mB := by
    rw [show D.v (.int .u8 (l.getD i 0)) = mB (l.getD i 0) from rfl, ← List.map_set, List.set_set, List.getD_eq_getElem?_getD, List.getElem?_eq_getElem hi, Option.getD_some, List.set_getElem_self]
  have e7 : nth ((l.set i y).map mB) i = .v (.int .u8 y) := by rw [nth_B _ i (by omega)]; simp [hi]
  have hst3 : ((l.set i y).map mB).take l.length = (l.set i y).map mB := List.take_of_length_le (by simp)
  have hsum : QC.crcSum (l.set i y) ≠ QC.crcSum l := crcSum_set hb hi hyr (by rw [List.getD_eq_getElem?_getD, List.getElem?_eq_getElem hi, Option.getD_some] at hne; exact hne)
  have hmn : min (IntKind.u64.wrap (j : Int)).toNat 8 = j := by
    rw [wrap_u64]; omega
  have hpos : (0 < l.length) = True := eq_true (by omega)
  have hlc : ((l.length : Nat) : Int) ≠ 0 := by omega
  by_cases h1 : l.length = 1
  · have hc1 : ((l.length : Nat) : Int) < 2 := by omega
    repeat' first
 | refine AW.seq ?_
 | refine AW.block ?_
 | refine AW.regl SW_ok [0, 1, 2, 6, 7, 8, 9, 10, 11, 16, 22, 43, 57] ?_
 | (refine AW.regc (id := 15) SW_ok follows bb_overdublaw03_CrcSwaps_15 (by kernel_rfl) [0, 1, 2, 6, 7, 8, 9, 10, 11, 16, 22, 43, 57] ?_)
 | (refine AW.regc (id := 16) SW_ok follows bb_overdublaw03_CrcSwaps_16 (by kernel_rfl) [0, 1, 2, 6, 7, 8, 9, 10, 11, 16, 22, 43, 57] ?_)
 | refine then_n ?_
 | refine then_r ?_
 | refine then_x ?_
 | refine block_x ?_
 | refine block_o (by decide) ?_
 | refine block_n ?_
 | refine block_r ?_
 | refine AW.skip ?_
 | refine AW.ret ?_
 | refine AW.exit ?_
 | refine AW.cond rfl ?_ ?_
 | refine awl_none rfl ?_
 | refine awl_nil2 ?_
 | refine awl_some rfl rfl (Nat.le_of_ble_eq_true rfl) rfl rfl ?_ ?_
 | refine awc_none rfl ?_
 | exact each_nil
 | refine each_none rfl ?_ ?_
 | refine awc_leaf2 [some 64, some 65, some 66, some 67, some 68, some 69, some 70, some 71, some 72, some 73, some 11] cc_overdublaw03_CrcSwaps_15 rfl (by kernel_rfl) (by kernel_rfl) ?_ ?_
 | refine awc_leaf2 [some 74, some 75, some 76, some 77, some 78, some 79, some 80, some 81, some 82, some 83, some 84, some 85, some 86, some 87, some 88, none, some 89, none] cc_overdublaw03_CrcSwaps_16 rfl (by kernel_rfl) (by kernel_rfl) ?_ ?_
 | (refine fun (hc : _ = _) => ?_; first | cases hc | ((try rw [hc]); (try simp only [stH] at hc); (try (exfalso; omega))); (try ((first | show Awl _ _ _ _ _ | show Awc _ _ _ _ _ _); simp only [stU])))
 | ((first | refine fun (K : V → List _ → _) hK => ?_ | refine fun (_ : V → V) => ?_ | refine fun (bb : Nat → Bool) K hK => ?_); simp (disch := omega) only [go_sem, Int.reduceEq, ↓reduceIte, reduceCtorEq, Nat.reduceEqDiff, Nat.reduceLT, Nat.reduceLeDiff, Nat.reduceAdd, Nat.reduceSub, Nat.reduceMul, Int.reduceToNat, Int.reduceLE, Int.reduceLT, SW, Sp_overdubkeep_CutCopy_byte, Sp_crc_New, Sm_crc_Table_Sum, Sp_overdubkeep_Within, Sp_overdublaw03_wakes, hc1, hL, hlt, hlc, hpos, decide_true, Bool.false_or, Bool.true_or, Bool.or_true, all_B, mB_inj, hl, RT_inj, V.d.injEq, V.ptr.injEq, Prod.mk.injEq, Ob.opq.injEq, hk, hd8, hm8, hmn, e6, e7, hy, hz, hst, hst2, hst3, hsl, hsum, Sg3, St.updIf, ifc_nil, gt_ifc, go_ifc, ite_self, Option.none_or, Option.some_or]; (try (revert hK; intro hK; (repeat' first | (refine And.intro ?_ ?_) | (intro hc; first | cases hc | ((try rw [hc]); (try simp only [stH] at hc); (try (exfalso; omega))))); all_goals first | (refine hK _ _ ?_; clear hK K; simp only [stU]) | exact hK | omega)))
    all_goals (refine Ends.of (nm []) (by first | exact .inl rfl | exact .inr rfl) ?_; simp (disch := omega) only [go_sem, Int.reduceEq, ↓reduceIte, reduceCtorEq, Nat.reduceEqDiff, Nat.reduceLT, Nat.reduceLeDiff, Nat.reduceAdd, Nat.reduceSub, Nat.reduceMul, Int.reduceToNat, Int.reduceLE, Int.reduceLT, SW, Sp_overdubkeep_CutCopy_byte, Sp_crc_New, Sm_crc_Table_Sum, Sp_overdubkeep_Within, Sp_overdublaw03_wakes])
  have hc2 : ¬ ((l.length : Nat) : Int) < 2 := by omega
  have wq := within_rng (v := at_) (n := l.length - 1) (by omega)
  obtain ⟨q, hq⟩ : ∃ q : Nat, within at_ (l.length - 1) = q := ⟨(within at_ (l.length - 1)).toNat, by omega⟩
  have hq1 : q + 1 < l.length := by omega
  clear wq
  have g1 : nth (l.map mB) q = .v (.int .u8 (l.getD q 0)) := nth_B l q (by omega)
  have g2 : nth (l.map mB) (q + 1) = .v (.int .u8 (l.getD (q + 1) 0)) := nth_B l (q + 1) (by omega)
  have gx : l.getD q 0 = l[q] := by rw [List.getD_eq_getElem?_getD, List.getElem?_eq_getElem (by omega), Option.getD_some]
  have gy : l.getD (q + 1) 0 = l[q + 1] := by rw [List.getD_eq_getElem?_getD, List.getElem?_eq_getElem (by omega), Option.getD_some]
  have hsw := crcSum_swap hb hq1
  rw [← gx, ← gy] at hsw
  have g3 : (l.map mB).set q (.v (.int .u8 (l.getD (q + 1) 0))) = (l.set q (l.getD (q + 1) 0)).map mB := by rw [List.map_set]; rfl
  have g4 : ((l.set q (l.getD (q + 1) 0)).map mB).set (q + 1) (.v (.int .u8 (l.getD q 0))) = ((l.set q (l.getD (q + 1) 0)).set (q + 1) (l.getD q 0)).map mB := by rw [List.map_set (l := l.set q _)]; rfl
  have g5 : ((l.set q (l.getD (q + 1) 0)).set (q + 1) (l.getD q 0)).length = l.length := by simp
  have g6 : (((l.set q (l.getD (q + 1) 0)).set (q + 1) (l.getD q 0)).map mB).take l.length = ((l.set q (l.getD (q + 1) 0)).set (q + 1) (l.getD q 0)).map mB := List.take_of_length_le (by simp)
  have g7 : (l.set q (l.getD (q + 1) 0)).length = l.length := by simp
  have hqn : ((q : Int) + 1).toNat = q + 1 := by omega
  have hqw : IntKind.i64.wrap ((q : Int) + 1) = (q : Int) + 1 := wrap_id _ (by omega) (by omega)
  repeat' first
 | refine AW.seq ?_
 | refine AW.block ?_
 | refine AW.regl SW_ok [0, 1, 2, 6, 7, 8, 9, 10, 11, 16, 22, 43, 57] ?_
 | (refine AW.regc (id := 15) SW_ok follows bb_overdublaw03_CrcSwaps_15 (by kernel_rfl) [0, 1, 2, 6, 7, 8, 9, 10, 11, 16, 22, 43, 57] ?_)
 | (refine AW.regc (id := 16) SW_ok follows bb_overdublaw03_CrcSwaps_16 (by kernel_rfl) [0, 1, 2, 6, 7, 8, 9, 10, 11, 16, 22, 43, 57] ?_)
 | refine then_n ?_
 | refine then_r ?_
 | refine then_x ?_
 | refine block_x ?_
 | refine block_o (by decide) ?_
 | refine block_n ?_
 | refine block_r ?_
 | refine AW.skip ?_
 | refine AW.ret ?_
 | refine AW.exit ?_
 | refine AW.cond rfl ?_ ?_
 | refine awl_none rfl ?_
 | refine awl_nil2 ?_
 | refine awl_some rfl rfl (Nat.le_of_ble_eq_true rfl) rfl rfl ?_ ?_
 | refine awc_none rfl ?_
 | exact each_nil
 | refine each_none rfl ?_ ?_
 | refine awc_leaf2 [some 64, some 65, some 66, some 67, some 68, some 69, some 70, some 71, some 72, some 73, some 11] cc_overdublaw03_CrcSwaps_15 rfl (by kernel_rfl) (by kernel_rfl) ?_ ?_
 | refine awc_leaf2 [some 74, some 75, some 76, some 77, some 78, some 79, some 80, some 81, some 82, some 83, some 84, some 85, some 86, some 87, some 88, none, some 89, none] cc_overdublaw03_CrcSwaps_16 rfl (by kernel_rfl) (by kernel_rfl) ?_ ?_
 | (refine fun (hc : _ = _) => ?_; first | cases hc | ((try rw [hc]); (try simp only [stH] at hc); (try (exfalso; omega))); (try ((first | show Awl _ _ _ _ _ | show Awc _ _ _ _ _ _); simp only [stU])))
 | ((first | refine fun (K : V → List _ → _) hK => ?_ | refine fun (_ : V → V) => ?_ | refine fun (bb : Nat → Bool) K hK => ?_); simp (disch := omega) only [go_sem, Int.reduceEq, ↓reduceIte, reduceCtorEq, Nat.reduceEqDiff, Nat.reduceLT, Nat.reduceLeDiff, Nat.reduceAdd, Nat.reduceSub, Nat.reduceMul, Int.reduceToNat, Int.reduceLE, Int.reduceLT, SW, Sp_overdubkeep_CutCopy_byte, Sp_crc_New, Sm_crc_Table_Sum, Sp_overdubkeep_Within, Sp_overdublaw03_wakes, beq_self_eq_true, hc2, hq, hqn, hqw, g1, g2, g3, g4, g5, g6, g7, hsw, hL, hlt, hlc, hpos, decide_true, Bool.false_or, Bool.true_or, Bool.or_true, all_B, mB_inj, hl, RT_inj, V.d.injEq, V.ptr.injEq, Prod.mk.injEq, Ob.opq.injEq, hk, hd8, hm8, hmn, e6, e7, hy, hz, hst, hst2, hst3, hsl, hsum, Sg3, St.updIf, ifc_nil, gt_ifc, go_ifc, ite_self, Option.none_or, Option.some_or]; (try (revert hK; intro hK; (repeat' first | (refine And.intro ?_ ?_) | (intro hc; first | cases hc | ((try rw [hc]); (try simp only [stH] at hc); (try (exfalso; omega))))); all_goals first | (refine hK _ _ ?_; clear hK K; simp only [stU]) | exact hK | omega)))
  all_goals (refine Ends.of (nm []) (by first | exact .inl rfl | exact .inr rfl) ?_; simp (disch := omega) only [go_sem, Int.reduceEq, ↓reduceIte, reduceCtorEq, Nat.reduceEqDiff, Nat.reduceLT, Nat.reduceLeDiff, Nat.reduceAdd, Nat.reduceSub, Nat.reduceMul, Int.reduceToNat, Int.reduceLE, Int.reduceLT, SW, Sp_overdubkeep_CutCopy_byte, Sp_crc_New, Sm_crc_Table_Sum, Sp_overdubkeep_Within, Sp_overdublaw03_wakes])
end Go.Proofs.Ytfoalonjlhemmaa.Am
