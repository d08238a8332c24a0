import Derived.Test.YtfoalonjlhemmaaZKC
import Derived.Test.YtfoalonjlhemmaaZCB
set_option linter.unusedVariables false
set_option linter.unusedSimpArgs false
set_option maxRecDepth 10000
set_option maxHeartbeats 0
namespace Go.Proofs.Ytfoalonjlhemmaa.Am
open Go Go.RowKit Go.Proofs
theorem within_rngB {v n : Int} (h : 0 < n) : 0 ≤ within v n ∧ within v n < n := by
  unfold within
  rw [if_neg (by omega)]
  have h1 := Int.tmod_lt_of_pos v h
  have h2 := Int.lt_tmod_of_pos v h
  split <;> omega
theorem q24 : (2 : Int) ^ 24 = 16777216 := by decide
theorem q16 : (2 : Int) ^ 16 = 65536 := by decide
theorem q8 : (2 : Int) ^ 8 = 256 := by decide
theorem and_one {a : Int} (h : 0 ≤ a) : Go.bits .and .u32 a 1 = a % 2 := by
  have e : Go.bits .and .u32 a 1 = iv (bv a &&& bv 1) := wrap32 _
  rw [e]
  unfold iv bv
  rw [BitVec.toNat_and, show (BitVec.ofInt 32 1).toNat = 1 from rfl, Nat.and_one_is_mod, BitVec.toNat_ofInt]
  omega
def stB (l : List Int) (k : Nat) (u : Int) (i : Nat) : St := ⟨[(0, .d (.list (l.map mB))), (1, .d (.v (.int .i64 k))), (2, .d (.v (.int .u32 u))), (6, .d (.v (.bool false))), (7, .ptr 16 0), (9, .sl 36 1 0 (l.length + 4) true), (10, .d (.v (.int .i64 i)))],
  [(36, .row 5 1 ((bst (l ++ by4 (QC.crcSum l)) k u i).map mB)), (16, .opq (RT (false || decide (0 < l.length))))], 98⟩
noncomputable def QB : Env := ⟨Try.prog, fun f ds out => (f = 14 ∧ Sp_overdubkeep_Cut_byte ds out) ∨ (f = 15 ∧ Sp_overdubkeep_Copy_byte ds out) ∨ (f = 17 ∧ Sp_overdubkeep_Same_byte ds out) ∨ (f = 10 ∧ Sp_crc_New ds out) ∨ (f = 12 ∧ Sp_overdubkeep_Within ds out) ∨ (f = 13 ∧ Sp_overdublaw03_wakes ds out), Es, fun _ => false, fun f vs lent out => (f = 11 ∧ Sm_crc_Table_Sum vs lent out), fun f => if f = 11 then some [1000000] else none⟩
theorem QB_sp : ∀ f ds out, QB.Sp f ds out → Ent QB.P f ∧ Good QB.P f (fun a b => a = ds ∧ b = out) := by
  rintro f ds out (⟨rfl, h⟩ | ⟨rfl, h⟩ | ⟨rfl, h⟩ | ⟨rfl, h⟩ | ⟨rfl, h⟩ | ⟨rfl, h⟩)
  · exact ⟨ent_overdubkeep_Cut_byte, good_overdubkeep_Cut_byte.one h⟩
  · exact ⟨ent_overdubkeep_Copy_byte, good_overdubkeep_Copy_byte.one h⟩
  · exact ⟨ent_overdubkeep_Same_byte, good_overdubkeep_Same_byte.one h⟩
  · exact ⟨ent_crc_New, good_crc_New.one h⟩
  · exact ⟨ent_overdubkeep_Within, good_overdubkeep_Within.one h⟩
  · exact ⟨ent_overdublaw03_wakes, good_overdublaw03_wakes.one h⟩
theorem QB_sm : ∀ f vs lent out, QB.Sm f vs lent out → Ent QB.P f ∧ GoodM QB.P f (fun a l b => a = vs ∧ l = lent ∧ b = out) := by
  rintro f vs lent out ⟨rfl, h⟩
  exact ⟨ent_crc_Table_Sum, goodM_crc_Table_Sum.one h⟩
theorem QB_ok : QB.Ok := ⟨QB_sp, Es_ok, QB_sm⟩
def Sp_overdublaw03_CrcBursts (ds : List D) (out : Out) : Prop := ∃ (l : List Int) (at_ u : Int), ds = [.list (l.map mB), .v (.int .i64 at_), .v (.int .u32 u)] ∧ Byt l ∧ l.length ≤ 9223372036854775807 ∧ 0 ≤ u ∧ u < 4294967296 ∧ out = ⟨.d (.v (.bool true)), []⟩
theorem good_overdublaw03_CrcBursts : Good Try.prog 6 Sp_overdublaw03_CrcBursts := by
  refine good_body (E := QB) (nt := 98) (rs := #[.tmp 6]) Try.func6 rfl rfl rfl ?_
  rintro ds out ⟨l0, at_, u, rfl, hb0, hl, hu0, hu1, rfl⟩
  refine ⟨by simp, ?_⟩
  obtain ⟨l, hL⟩ : ∃ l, l0.take 150 = l := ⟨_, rfl⟩
  have hb : Byt l := hL ▸ byt_take hb0 150
  have hl2 : l.length ≤ 150 := by rw [← hL, List.length_take]; omega
  have hlt : (l.map mB).take l.length = l.map mB := List.take_of_length_le (by simp)
  have sa : (l.map mB ++ [.v (.int .u8 (QC.crcSum l / 2 ^ 24 % 256)), .v (.int .u8 (QC.crcSum l / 2 ^ 16 % 256)), .v (.int .u8 (QC.crcSum l / 2 ^ 8 % 256)), .v (.int .u8 (QC.crcSum l % 256))] : List D) = (l ++ by4 (QC.crcSum l)).map mB := by rw [q24, q16, q8, List.map_append]; rfl
  have ra := QC.crcSum_rng l
  have hx4 : (l ++ by4 (QC.crcSum l)).length = l.length + 4 := by simp [by4]
  have hk0 := within_rngB (v := at_) (n := 8 * ((l.length + 4 : Nat) : Int) - 31) (by omega)
  obtain ⟨k, hk⟩ : ∃ k : Nat, within at_ (8 * ((l.length + 4 : Nat) : Int) - 31) = k := ⟨(within at_ (8 * ((l.length + 4 : Nat) : Int) - 31)).toNat, by omega⟩
  have hk1 : k + 32 ≤ 8 * (l.length + 4) := by omega
  clear hk0
  by_cases hz : u = 0
  · subst hz
    repeat' first
 | refine AW.seq ?_
 | refine AW.block ?_
 | refine AW.regl QB_ok [0, 1, 2, 6, 7, 8, 9, 10, 11, 12, 13, 18, 38, 47, 55] ?_
 | refine then_n ?_
 | refine then_r ?_
 | refine then_x ?_
 | refine block_x ?_
 | refine block_o (by decide) ?_
 | refine block_n ?_
 | refine block_r ?_
 | refine AW.skip ?_
 | refine AW.ret ?_
 | refine AW.exit ?_
 | refine AW.cond rfl ?_ ?_
 | refine awl_none rfl ?_
 | refine awl_nil2 ?_
 | refine awl_some rfl rfl (Nat.le_of_ble_eq_true rfl) rfl rfl ?_ ?_
 | (refine fun (hc : _ = _) => ?_; first | cases hc | ((try rw [hc]); (try simp only [stH] at hc); (try (exfalso; omega))); (try (show Awl _ _ _ _ _; simp only [stU])))
 | ((first | refine fun (K : V → List _ → _) hK => ?_ | refine fun (_ : V → V) => ?_); simp (disch := omega) only [go_sem, Int.reduceEq, ↓reduceIte, reduceCtorEq, Nat.reduceEqDiff, Nat.reduceLT, Nat.reduceLeDiff, Nat.reduceAdd, Nat.reduceSub, Nat.reduceMul, Int.reduceToNat, Int.reduceLE, Int.reduceLT, QB, Sp_overdubkeep_Cut_byte, Sp_crc_New, Sm_crc_Table_Sum, Sp_overdubkeep_Copy_byte, Sp_overdublaw03_wakes, Sp_overdubkeep_Within, Sp_overdubkeep_Same_byte, hL, hlt, hl, sa, hx4, wrap_u8, all_B, mB_inj, RT_inj, V.d.injEq, V.ptr.injEq, Prod.mk.injEq, Ob.opq.injEq]; (try (revert hK; intro hK; (repeat' first | (refine And.intro ?_ ?_) | (intro hc; first | cases hc | ((try rw [hc]); (try simp only [stH] at hc); (try (exfalso; omega))))); all_goals first | (refine hK _ _ ?_; clear hK K; simp only [stU]) | exact hK | omega)))
    all_goals (refine Ends.of (nm []) (by first | exact .inl rfl | exact .inr rfl) ?_; simp (disch := omega) only [go_sem, Int.reduceEq, ↓reduceIte, reduceCtorEq, Nat.reduceEqDiff, Nat.reduceLT, Nat.reduceLeDiff, Nat.reduceAdd, Nat.reduceSub, Nat.reduceMul, Int.reduceToNat, Int.reduceLE, Int.reduceLT, QB, Sp_overdubkeep_Cut_byte, Sp_crc_New, Sm_crc_Table_Sum, Sp_overdubkeep_Copy_byte, Sp_overdublaw03_wakes, Sp_overdubkeep_Within, Sp_overdubkeep_Same_byte])
  repeat' first
 | refine AW.seq ?_
 | refine AW.block ?_
 | refine AW.regl QB_ok [0, 1, 2, 6, 7, 8, 9, 10, 11, 12, 13, 18, 38, 47, 55] ?_
 | refine then_n ?_
 | refine then_r ?_
 | refine then_x ?_
 | refine block_x ?_
 | refine block_o (by decide) ?_
 | refine block_n ?_
 | refine block_r ?_
 | refine AW.skip ?_
 | refine AW.ret ?_
 | refine AW.exit ?_
 | refine AW.cond rfl ?_ ?_
 | refine awl_none rfl ?_
 | refine awl_nil2 ?_
 | refine awl_some rfl rfl (Nat.le_of_ble_eq_true rfl) rfl rfl ?_ ?_
 | (refine fun (hc : _ = _) => ?_; first | cases hc | ((try rw [hc]); (try simp only [stH] at hc); (try (exfalso; omega))); (try (show Awl _ _ _ _ _; simp only [stU])))
 | ((first | refine fun (K : V → List _ → _) hK => ?_ | refine fun (_ : V → V) => ?_); simp (disch := omega) only [go_sem, Int.reduceEq, ↓reduceIte, reduceCtorEq, Nat.reduceEqDiff, Nat.reduceLT, Nat.reduceLeDiff, Nat.reduceAdd, Nat.reduceSub, Nat.reduceMul, Int.reduceToNat, Int.reduceLE, Int.reduceLT, QB, Sp_overdubkeep_Cut_byte, Sp_crc_New, Sm_crc_Table_Sum, Sp_overdubkeep_Copy_byte, Sp_overdublaw03_wakes, Sp_overdubkeep_Within, Sp_overdubkeep_Same_byte, hz, hL, hlt, hl, sa, hx4, hk, wrap_u8, all_B, mB_inj, RT_inj, V.d.injEq, V.ptr.injEq, Prod.mk.injEq, Ob.opq.injEq]; (try (revert hK; intro hK; (repeat' first | (refine And.intro ?_ ?_) | (intro hc; first | cases hc | ((try rw [hc]); (try simp only [stH] at hc); (try (exfalso; omega))))); all_goals first | (refine hK _ _ ?_; clear hK K; simp only [stU]) | exact hK | omega)))
  refine AW.loop_wk (fun i : Nat => stB l k u i) (fun i => i ≤ 32) (fun i => 32 - i) 0 (by omega) (fun w0 oa q w hs => Wk.sr (ρ := nm []) (Wk.of ?_) hs) ?_
  · simp (disch := omega) only [go_sem, Int.reduceEq, ↓reduceIte, reduceCtorEq, Nat.reduceEqDiff, Nat.reduceLT, Nat.reduceLeDiff, Nat.reduceAdd, Nat.reduceSub, Nat.reduceMul, Int.reduceToNat, Int.reduceLE, Int.reduceLT, QB, Sp_overdubkeep_Cut_byte, Sp_crc_New, Sm_crc_Table_Sum, Sp_overdubkeep_Copy_byte, Sp_overdublaw03_wakes, Sp_overdubkeep_Within, Sp_overdubkeep_Same_byte, stB, bst, hk]
  intro i hi
  have hYl : (bst (l ++ by4 (QC.crcSum l)) k u i).length = l.length + 4 := by rw [bst_len, hx4]
  have hYb : Byt (bst (l ++ by4 (QC.crcSum l)) k u i) := bst_byt (fun y hy => by
    rcases List.mem_append.1 hy with hy | hy
    · exact hb y hy
    · exact by4_byt _ y hy) k u i
  by_cases hi32 : i < 32
  · have hmn : min (IntKind.u64.wrap (i : Int)).toNat 32 = i := by rw [wrap_u64]; omega
    have hge : 0 ≤ u / 2 ^ i := Int.ediv_nonneg hu0 (Int.le_of_lt (Int.pow_pos (by decide)))
    have hand := and_one hge
    have hfd : Int.fdiv u (2 ^ i) = u / 2 ^ i := Int.fdiv_eq_ediv_of_nonneg _ (Int.le_of_lt (Int.pow_pos (by decide)))
    obtain ⟨Y, hY⟩ : ∃ Y, bst (l ++ by4 (QC.crcSum l)) k u i = Y := ⟨_, rfl⟩
    by_cases hbit : u / 2 ^ i % 2 = 1
    · have hd8 : ((k : Int) + (i : Int)).tdiv 8 = ((k + i) / 8 : Nat) := by rw [Int.tdiv_eq_ediv_of_nonneg (by omega)]; omega
      have hm8 : ((k : Int) + (i : Int)).tmod 8 = ((k + i) % 8 : Nat) := by rw [Int.tmod_eq_emod_of_nonneg (by omega)]; omega
      have hq : (k + i) / 8 < l.length + 4 := by omega
      have hj : (k + i) % 8 < 8 := by omega
      have hnx : bst (l ++ by4 (QC.crcSum l)) k u (i + 1) = Y.set ((k + i) / 8) (x8 (Y.getD ((k + i) / 8) 0) ((128 : Int).fdiv (2 ^ ((k + i) % 8)))) := by rw [bst, if_pos hbit, hY]
      rw [hY] at hYl
      generalize (k + i) / 8 = q at *
      generalize (k + i) % 8 = j at *
      have hmj : min (IntKind.u64.wrap (j : Int)).toNat 8 = j := by rw [wrap_u64]; omega
      have e6 : nth (Y.map mB) q = .v (.int .u8 (Y.getD q 0)) := nth_B Y q (by omega)
      have e7 : Go.bits .xor .u8 (Y.getD q 0) ((128 : Int).fdiv (2 ^ j)) = x8 (Y.getD q 0) ((128 : Int).fdiv (2 ^ j)) := rfl
      have e8 : (Y.map mB).set q (.v (.int .u8 (x8 (Y.getD q 0) ((128 : Int).fdiv (2 ^ j))))) = (bst (l ++ by4 (QC.crcSum l)) k u (i + 1)).map mB := by rw [hnx, List.map_set]; rfl
      repeat' ((first
 | refine AW.seq ?_
 | refine AW.block ?_
 | refine AW.regl QB_ok [0, 1, 2, 6, 7, 8, 9, 10, 11, 12, 13, 18, 38, 47, 55] ?_
 | refine then_n ?_
 | refine then_r ?_
 | refine then_x ?_
 | refine block_x ?_
 | refine block_o (by decide) ?_
 | refine block_n ?_
 | refine block_r ?_
 | refine AW.skip ?_
 | refine AW.ret ?_
 | refine AW.exit ?_
 | refine AW.cond rfl ?_ ?_
 | refine awl_none rfl ?_
 | refine awl_nil2 ?_
 | refine awl_some rfl rfl (Nat.le_of_ble_eq_true rfl) rfl rfl ?_ ?_
 | (refine fun (hc : _ = _) => ?_; first | cases hc | ((try rw [hc]); (try simp only [stH] at hc); (try (exfalso; omega))); (try (show Awl _ _ _ _ _; simp only [stU])))
 | ((first | refine fun (K : V → List _ → _) hK => ?_ | refine fun (_ : V → V) => ?_); simp (disch := omega) only [go_sem, Int.reduceEq, ↓reduceIte, reduceCtorEq, Nat.reduceEqDiff, Nat.reduceLT, Nat.reduceLeDiff, Nat.reduceAdd, Nat.reduceSub, Nat.reduceMul, Int.reduceToNat, Int.reduceLE, Int.reduceLT, QB, Sp_overdubkeep_Cut_byte, Sp_crc_New, Sm_crc_Table_Sum, Sp_overdubkeep_Copy_byte, Sp_overdublaw03_wakes, Sp_overdubkeep_Within, Sp_overdubkeep_Same_byte, stB, hY, hYl, hmn, hfd, hand, hbit, hd8, hm8, hmj, e6, e7, e8, wrap_u8, all_B, mB_inj, RT_inj, V.d.injEq, V.ptr.injEq, Prod.mk.injEq, Ob.opq.injEq]; (try (revert hK; intro hK; (repeat' first | (refine And.intro ?_ ?_) | (intro hc; first | cases hc | ((try rw [hc]); (try simp only [stH] at hc); (try (exfalso; omega))))); all_goals first | (refine hK _ _ ?_; clear hK K; simp only [stU]) | exact hK | omega)))) <;> (fail_if_success (show False; skip)))
      refine ⟨i + 1, by omega, by omega, nm [], Wk.of ?_⟩
      simp (disch := omega) only [go_sem, Int.reduceEq, ↓reduceIte, reduceCtorEq, Nat.reduceEqDiff, Nat.reduceLT, Nat.reduceLeDiff, Nat.reduceAdd, Nat.reduceSub, Nat.reduceMul, Int.reduceToNat, Int.reduceLE, Int.reduceLT, QB, Sp_overdubkeep_Cut_byte, Sp_crc_New, Sm_crc_Table_Sum, Sp_overdubkeep_Copy_byte, Sp_overdublaw03_wakes, Sp_overdubkeep_Within, Sp_overdubkeep_Same_byte, stB]
      rfl
    · have hb0' : u / 2 ^ i % 2 = 0 := by omega
      have hnx : bst (l ++ by4 (QC.crcSum l)) k u (i + 1) = bst (l ++ by4 (QC.crcSum l)) k u i := by rw [bst, if_neg hbit]
      repeat' ((first
 | refine AW.seq ?_
 | refine AW.block ?_
 | refine AW.regl QB_ok [0, 1, 2, 6, 7, 8, 9, 10, 11, 12, 13, 18, 38, 47, 55] ?_
 | refine then_n ?_
 | refine then_r ?_
 | refine then_x ?_
 | refine block_x ?_
 | refine block_o (by decide) ?_
 | refine block_n ?_
 | refine block_r ?_
 | refine AW.skip ?_
 | refine AW.ret ?_
 | refine AW.exit ?_
 | refine AW.cond rfl ?_ ?_
 | refine awl_none rfl ?_
 | refine awl_nil2 ?_
 | refine awl_some rfl rfl (Nat.le_of_ble_eq_true rfl) rfl rfl ?_ ?_
 | (refine fun (hc : _ = _) => ?_; first | cases hc | ((try rw [hc]); (try simp only [stH] at hc); (try (exfalso; omega))); (try (show Awl _ _ _ _ _; simp only [stU])))
 | ((first | refine fun (K : V → List _ → _) hK => ?_ | refine fun (_ : V → V) => ?_); simp (disch := omega) only [go_sem, Int.reduceEq, ↓reduceIte, reduceCtorEq, Nat.reduceEqDiff, Nat.reduceLT, Nat.reduceLeDiff, Nat.reduceAdd, Nat.reduceSub, Nat.reduceMul, Int.reduceToNat, Int.reduceLE, Int.reduceLT, QB, Sp_overdubkeep_Cut_byte, Sp_crc_New, Sm_crc_Table_Sum, Sp_overdubkeep_Copy_byte, Sp_overdublaw03_wakes, Sp_overdubkeep_Within, Sp_overdubkeep_Same_byte, stB, hmn, hfd, hand, hb0', wrap_u8, all_B, mB_inj, RT_inj, V.d.injEq, V.ptr.injEq, Prod.mk.injEq, Ob.opq.injEq]; (try (revert hK; intro hK; (repeat' first | (refine And.intro ?_ ?_) | (intro hc; first | cases hc | ((try rw [hc]); (try simp only [stH] at hc); (try (exfalso; omega))))); all_goals first | (refine hK _ _ ?_; clear hK K; simp only [stU]) | exact hK | omega)))) <;> (fail_if_success (show False; skip)))
      refine ⟨i + 1, by omega, by omega, nm [], Wk.of ?_⟩
      simp (disch := omega) only [go_sem, Int.reduceEq, ↓reduceIte, reduceCtorEq, Nat.reduceEqDiff, Nat.reduceLT, Nat.reduceLeDiff, Nat.reduceAdd, Nat.reduceSub, Nat.reduceMul, Int.reduceToNat, Int.reduceLE, Int.reduceLT, QB, Sp_overdubkeep_Cut_byte, Sp_crc_New, Sm_crc_Table_Sum, Sp_overdubkeep_Copy_byte, Sp_overdublaw03_wakes, Sp_overdubkeep_Within, Sp_overdubkeep_Same_byte, stB, hnx]
      rfl
  · obtain rfl : i = 32 := by omega
    have hne := burst_told hb hk1 (by omega : 0 < u) hu1
    obtain ⟨Y, hY⟩ : ∃ Y, bst (l ++ by4 (QC.crcSum l)) k u 32 = Y := ⟨_, rfl⟩
    rw [hY] at hYl hYb hne
    have ht : (Y.map mB).take l.length = (Y.take l.length).map mB := List.map_take.symm
    have htl : (Y.take l.length).length = l.length := by rw [List.length_take]; omega
    have hd : ((Y.map mB).drop l.length).take (l.length + 4 - l.length) = (Y.drop l.length).map mB := by rw [← List.map_drop]; exact List.take_of_length_le (by simp; omega)
    have hdl : (Y.drop l.length).length = 4 := by rw [List.length_drop]; omega
    obtain ⟨r, hr⟩ : ∃ r, QC.crcSum (Y.take l.length) = r := ⟨_, rfl⟩
    have hrr := QC.crcSum_rng (Y.take l.length)
    rw [hr] at hrr hne
    have sr : ([.v (.int .u8 (r / 2 ^ 24 % 256)), .v (.int .u8 (r / 2 ^ 16 % 256)), .v (.int .u8 (r / 2 ^ 8 % 256)), .v (.int .u8 (r % 256))] : List D) = (by4 r).map mB := by rw [q24, q16, q8]; rfl
    have h4 : (by4 r).length = 4 := rfl
    have hall : ∀ d ∈ (by4 r).map mB, d.cells.length = 1 ∧ one0 d = true := fun d hd2 => by obtain ⟨z, _, rfl⟩ := List.mem_map.1 hd2; exact ⟨rfl, rfl⟩
    have hn4 : (((l.length + 4 : Nat) : Int) - 4) = (l.length : Int) := by omega
    have ht4 : ((by4 r).map mB).take 4 = (by4 r).map mB := rfl
    repeat' ((first
 | refine AW.seq ?_
 | refine AW.block ?_
 | refine AW.regl QB_ok [0, 1, 2, 6, 7, 8, 9, 10, 11, 12, 13, 18, 38, 47, 55] ?_
 | refine then_n ?_
 | refine then_r ?_
 | refine then_x ?_
 | refine block_x ?_
 | refine block_o (by decide) ?_
 | refine block_n ?_
 | refine block_r ?_
 | refine AW.skip ?_
 | refine AW.ret ?_
 | refine AW.exit ?_
 | refine AW.cond rfl ?_ ?_
 | refine awl_none rfl ?_
 | refine awl_nil2 ?_
 | refine awl_some rfl rfl (Nat.le_of_ble_eq_true rfl) rfl rfl ?_ ?_
 | (refine fun (hc : _ = _) => ?_; first | cases hc | ((try rw [hc]); (try simp only [stH] at hc); (try (exfalso; omega))); (try (show Awl _ _ _ _ _; simp only [stU])))
 | ((first | refine fun (K : V → List _ → _) hK => ?_ | refine fun (_ : V → V) => ?_); simp (disch := omega) only [go_sem, Int.reduceEq, ↓reduceIte, reduceCtorEq, Nat.reduceEqDiff, Nat.reduceLT, Nat.reduceLeDiff, Nat.reduceAdd, Nat.reduceSub, Nat.reduceMul, Int.reduceToNat, Int.reduceLE, Int.reduceLT, QB, Sp_overdubkeep_Cut_byte, Sp_crc_New, Sm_crc_Table_Sum, Sp_overdubkeep_Copy_byte, Sp_overdublaw03_wakes, Sp_overdubkeep_Within, Sp_overdubkeep_Same_byte, stB, hY, hYl, ht, htl, hd, hdl, hr, sr, h4, hn4, ht4, hne, cutOk, wrap_u8, all_B, mB_inj, RT_inj, V.d.injEq, V.ptr.injEq, Prod.mk.injEq, Ob.opq.injEq]; (try (revert hK; intro hK; (repeat' first | (refine And.intro ?_ ?_) | (intro hc; first | cases hc | ((try rw [hc]); (try simp only [stH] at hc); (try (exfalso; omega))))); all_goals first | (refine hK _ _ ?_; clear hK K; simp only [stU]) | exact hK | omega)))) <;> (fail_if_success (show False; skip)))
    refine ⟨fun d hd2 => ?_, ?_⟩
    · obtain ⟨z, _, rfl⟩ := List.mem_map.1 hd2; exact ⟨rfl, rfl⟩
    refine hK _ _ ?_
    clear hK K
    simp only [stU]
    repeat' first
 | refine AW.seq ?_
 | refine AW.block ?_
 | refine AW.regl QB_ok [0, 1, 2, 6, 7, 8, 9, 10, 11, 12, 13, 18, 38, 47, 55] ?_
 | refine then_n ?_
 | refine then_r ?_
 | refine then_x ?_
 | refine block_x ?_
 | refine block_o (by decide) ?_
 | refine block_n ?_
 | refine block_r ?_
 | refine AW.skip ?_
 | refine AW.ret ?_
 | refine AW.exit ?_
 | refine AW.cond rfl ?_ ?_
 | refine awl_none rfl ?_
 | refine awl_nil2 ?_
 | refine awl_some rfl rfl (Nat.le_of_ble_eq_true rfl) rfl rfl ?_ ?_
 | (refine fun (hc : _ = _) => ?_; first | cases hc | ((try rw [hc]); (try simp only [stH] at hc); (try (exfalso; omega))); (try (show Awl _ _ _ _ _; simp only [stU])))
 | ((first | refine fun (K : V → List _ → _) hK => ?_ | refine fun (_ : V → V) => ?_); simp (disch := omega) only [go_sem, Int.reduceEq, ↓reduceIte, reduceCtorEq, Nat.reduceEqDiff, Nat.reduceLT, Nat.reduceLeDiff, Nat.reduceAdd, Nat.reduceSub, Nat.reduceMul, Int.reduceToNat, Int.reduceLE, Int.reduceLT, QB, Sp_overdubkeep_Cut_byte, Sp_crc_New, Sm_crc_Table_Sum, Sp_overdubkeep_Copy_byte, Sp_overdublaw03_wakes, Sp_overdubkeep_Within, Sp_overdubkeep_Same_byte, stB, hY, hYl, ht, htl, hd, hdl, hr, sr, h4, hn4, ht4, hne, cutOk, wrap_u8, all_B, mB_inj, RT_inj, V.d.injEq, V.ptr.injEq, Prod.mk.injEq, Ob.opq.injEq]; (try (revert hK; intro hK; (repeat' first | (refine And.intro ?_ ?_) | (intro hc; first | cases hc | ((try rw [hc]); (try simp only [stH] at hc); (try (exfalso; omega))))); all_goals first | (refine hK _ _ ?_; clear hK K; simp only [stU]) | exact hK | omega)))
    all_goals (refine Ends.of (nm []) (by first | exact .inl rfl | exact .inr rfl) ?_; simp (disch := omega) only [go_sem, Int.reduceEq, ↓reduceIte, reduceCtorEq, Nat.reduceEqDiff, Nat.reduceLT, Nat.reduceLeDiff, Nat.reduceAdd, Nat.reduceSub, Nat.reduceMul, Int.reduceToNat, Int.reduceLE, Int.reduceLT, QB, Sp_overdubkeep_Cut_byte, Sp_crc_New, Sm_crc_Table_Sum, Sp_overdubkeep_Copy_byte, Sp_overdublaw03_wakes, Sp_overdubkeep_Within, Sp_overdubkeep_Same_byte])
end Go.Proofs.Ytfoalonjlhemmaa.Am
