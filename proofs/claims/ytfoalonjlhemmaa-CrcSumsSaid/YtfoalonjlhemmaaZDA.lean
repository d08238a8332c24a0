import Derived.Test.YtfoalonjlhemmaaZKC
import Derived.Test.YtfoalonjlhemmaaZCA
set_option linter.unusedVariables false
set_option linter.unusedSimpArgs false
set_option maxRecDepth 10000
set_option maxHeartbeats 0
namespace Go.Proofs.Ytfoalonjlhemmaa.Am
open Go Go.RowKit Go.Proofs
theorem getD_byt {l : List Int} (h : Byt l) (i : Nat) : 0 ≤ l.getD i 0 ∧ l.getD i 0 < 256 := by
  rw [List.getD_eq_getElem?_getD]
  by_cases hi : i < l.length
  · rw [List.getElem?_eq_getElem hi]; exact h _ (List.getElem_mem hi)
  · rw [List.getElem?_eq_none (by omega)]; exact ⟨by decide, by decide⟩
theorem onesL : ∀ (n : Nat) (s : Int), QC.crcOnes (n + 1) s = QC.crcOne (QC.crcOnes n s)
  | 0, s => rfl
  | n + 1, s => by rw [QC.crcOnes, onesL n]; rfl
def cIn (s b : Int) : Int := Go.bits .xor .u32 s (b * 16777216)
theorem cIn_rng (s b : Int) : 0 ≤ cIn s b ∧ cIn s b < 4294967296 := QC.xor32_rng _ _
theorem cIn_cB {s b : Int} (hb : 0 ≤ b ∧ b < 256) : QC.crcOnes 8 (cIn s b) = iv (cB (bv s) (b8 b)) := by
  rw [crcOnes_bv 8 (cIn_rng _ _).1 (cIn_rng _ _).2]
  unfold cIn
  rw [bits32, bv_iv]
  have : bv (b * 16777216) = (b8 b).zeroExtend 32 <<< 24 := by
    apply BitVec.eq_of_toNat_eq
    simp only [bv, b8, BitVec.toNat_shiftLeft, BitVec.truncate_eq_setWidth, BitVec.toNat_setWidth, BitVec.toNat_ofInt, Nat.shiftLeft_eq]
    omega
  rw [this]; rfl
theorem crcAdd_snoc {l : List Int} {s b : Int} (hl : Byt l) (hb : 0 ≤ b ∧ b < 256) (h0 : 0 ≤ s) (h1 : s < 4294967296) : QC.crcAdd s (l ++ [b]) = QC.crcOnes 8 (cIn (QC.crcAdd s l) b) := by
  rw [crcAdd_bv _ (fun x hx => by
    rcases List.mem_append.1 hx with hx | hx
    · exact hl x hx
    · rw [List.mem_singleton.1 hx]; exact hb) h0 h1, cA_append, cIn_cB hb, crcAdd_bv _ hl h0 h1, bv_iv]; rfl
def Sp_overdubref01_Add (ds : List D) (out : Out) : Prop := ∃ (s : Int) (l : List Int), ds = [.v (.int .u32 s), .list (l.map mB)] ∧ (0 ≤ s ∧ s < 4294967296) ∧ Byt l ∧ l.length ≤ 9223372036854775807 ∧ out = ⟨.d (.v (.int .u32 (QC.crcAdd s l))), []⟩
theorem good_overdubref01_Add : Good Try.prog 22 Sp_overdubref01_Add := by
  refine good_body (E := E0) (nt := 35) (rs := #[.tmp 4]) Try.func22 rfl rfl rfl ?_
  rintro ds out ⟨s, l, rfl, hs, hb, hl, rfl⟩
  refine ⟨by simp, ?_⟩
  repeat' first
 | refine AW.seq ?_
 | refine AW.block ?_
 | refine AW.regl E0_ok [0, 1, 4, 5, 6, 7, 9, 10, 11, 22, 30] ?_
 | refine then_n ?_
 | refine then_r ?_
 | refine then_x ?_
 | refine block_x ?_
 | refine block_o (by decide) ?_
 | refine block_n ?_
 | refine block_r ?_
 | refine AW.skip ?_
 | refine AW.ret ?_
 | refine AW.exit ?_
 | refine AW.cond rfl ?_ ?_
 | refine awl_none rfl ?_
 | refine awl_nil2 ?_
 | (refine fun (hc : _ = _) => ?_; first | cases hc | ((try rw [hc]); (try simp only [stH] at hc); (try (exfalso; omega))); (try (show Awl _ _ _ _ _; simp only [stU])))
 | ((first | refine fun (K : V → List _ → _) hK => ?_ | refine fun (_ : V → V) => ?_); simp (disch := omega) only [go_sem, Int.reduceEq, ↓reduceIte, reduceCtorEq, Nat.reduceEqDiff, Nat.reduceLT, Nat.reduceLeDiff, Nat.reduceAdd, Nat.reduceSub, Nat.reduceMul, Int.reduceToNat, Int.reduceLE, Int.reduceLT, E0]; (try (revert hK; intro hK; (repeat' first | (refine And.intro ?_ ?_) | (intro hc; first | cases hc | ((try rw [hc]); (try simp only [stH] at hc); (try (exfalso; omega))))); all_goals first | (refine hK _ _ ?_; clear hK K; simp only [stU]) | exact hK | omega)))
  refine AW.loop_wk (fun k : Nat => ⟨[(0, .d (.v (.int .u32 (QC.crcAdd s (l.take k))))), (1, .d (.list (l.map mB))), (9, .d (.v (.int .i64 l.length))), (10, .d (.v (.int .i64 k)))], [], 35⟩)
    (fun k => k ≤ l.length) (fun k => l.length - k) 0 (by omega) (fun w0 oa a w hs => Wk.sr (ρ := nm []) (Wk.of ?_) hs) ?_
  · simp (disch := omega) only [go_sem, Int.reduceEq, ↓reduceIte, reduceCtorEq, Nat.reduceEqDiff, Nat.reduceLT, Nat.reduceLeDiff, Nat.reduceAdd, Nat.reduceSub, Nat.reduceMul, Int.reduceToNat, Int.reduceLE, Int.reduceLT, E0, List.take_zero, QC.crcAdd]
  · intro k hk
    have hbk : Byt (l.take k) := byt_take hb k
    by_cases hkl : k < l.length
    · have e2 := getD_byt hb k
      have e6 : nth (l.map mB) k = .v (.int .u8 (l.getD k 0)) := nth_B l k (by omega)
      have e7 : QC.crcAdd s (l.take (k + 1)) = QC.crcOnes 8 (cIn (QC.crcAdd s (l.take k)) (l.getD k 0)) := by
        rw [show l.take (k + 1) = l.take k ++ [l.getD k 0] by rw [List.take_add_one, List.getD_eq_getElem?_getD, List.getElem?_eq_getElem hkl]; rfl]
        exact crcAdd_snoc hbk e2 hs.1 hs.2
      have hr := QC.crcAdd_rng (l.take k) s hs.1 hs.2
      generalize l.getD k 0 = b at *
      obtain ⟨y, hy⟩ : ∃ y, QC.crcAdd s (l.take (k + 1)) = y := ⟨_, rfl⟩
      rw [hy] at e7
      generalize QC.crcAdd s (l.take k) = x at *
      have hw1 : IntKind.u32.wrap b = b := by rw [wrap_u32]; omega
      have hw2 : IntKind.u32.wrap (b * 2 ^ 24) = b * 16777216 := by rw [wrap_u32]; omega
      have hin : Go.bits .xor .u32 x (b * 16777216) = cIn x b := rfl
      repeat' first
 | refine AW.seq ?_
 | refine AW.block ?_
 | refine AW.regl E0_ok [0, 1, 4, 5, 6, 7, 9, 10, 11, 22, 30] ?_
 | refine then_n ?_
 | refine then_r ?_
 | refine then_x ?_
 | refine block_x ?_
 | refine block_o (by decide) ?_
 | refine block_n ?_
 | refine block_r ?_
 | refine AW.skip ?_
 | refine AW.ret ?_
 | refine AW.exit ?_
 | refine AW.cond rfl ?_ ?_
 | refine awl_none rfl ?_
 | refine awl_nil2 ?_
 | (refine fun (hc : _ = _) => ?_; first | cases hc | ((try rw [hc]); (try simp only [stH] at hc); (try (exfalso; omega))); (try (show Awl _ _ _ _ _; simp only [stU])))
 | ((first | refine fun (K : V → List _ → _) hK => ?_ | refine fun (_ : V → V) => ?_); simp (disch := omega) only [go_sem, Int.reduceEq, ↓reduceIte, reduceCtorEq, Nat.reduceEqDiff, Nat.reduceLT, Nat.reduceLeDiff, Nat.reduceAdd, Nat.reduceSub, Nat.reduceMul, Int.reduceToNat, Int.reduceLE, Int.reduceLT, E0, e6, all_B, hw1, hw2, hin]; (try (revert hK; intro hK; (repeat' first | (refine And.intro ?_ ?_) | (intro hc; first | cases hc | ((try rw [hc]); (try simp only [stH] at hc); (try (exfalso; omega))))); all_goals first | (refine hK _ _ ?_; clear hK K; simp only [stU]) | exact hK | omega)))
      refine AW.loop_wk (fun j : Nat => ⟨[(0, .d (.v (.int .u32 (QC.crcOnes j (cIn x b))))), (1, .d (.list (l.map mB))), (6, .d (.v (.int .i64 j))), (9, .d (.v (.int .i64 l.length))), (10, .d (.v (.int .i64 k)))], [], 35⟩)
        (fun j => j ≤ 8) (fun j => 8 - j) 0 (by omega) (fun w0 oa a w hs => Wk.sr (ρ := nm []) (Wk.of ?_) hs) ?_
      · simp (disch := omega) only [go_sem, Int.reduceEq, ↓reduceIte, reduceCtorEq, Nat.reduceEqDiff, Nat.reduceLT, Nat.reduceLeDiff, Nat.reduceAdd, Nat.reduceSub, Nat.reduceMul, Int.reduceToNat, Int.reduceLE, Int.reduceLT, E0, QC.crcOnes]
      · intro j hj
        by_cases h8 : j < 8
        · have hv := QC.crcOnes_rng j _ (cIn_rng x b).1 (cIn_rng x b).2
          obtain ⟨v, hvv⟩ : ∃ v, QC.crcOnes j (cIn x b) = v := ⟨_, rfl⟩
          have hw : QC.crcOnes (j + 1) (cIn x b) = QC.crcOne v := by rw [onesL, hvv]
          rw [hvv] at hv ⊢
          have hw3 : IntKind.u32.wrap (v * 2) = (v * 2) % 4294967296 := rfl
          have hw4 : IntKind.u32.wrap (v * 2 ^ 1) = (v * 2) % 4294967296 := rfl
          by_cases c : v / 2147483648 = 1
          · have hz : QC.crcOne v = Go.bits .xor .u32 ((v * 2) % 4294967296) 79764919 := by rw [QC.crcOne, if_pos c]
            repeat' first
 | refine AW.seq ?_
 | refine AW.block ?_
 | refine AW.regl E0_ok [0, 1, 4, 5, 6, 7, 9, 10, 11, 22, 30] ?_
 | refine then_n ?_
 | refine then_r ?_
 | refine then_x ?_
 | refine block_x ?_
 | refine block_o (by decide) ?_
 | refine block_n ?_
 | refine block_r ?_
 | refine AW.skip ?_
 | refine AW.ret ?_
 | refine AW.exit ?_
 | refine AW.cond rfl ?_ ?_
 | refine awl_none rfl ?_
 | refine awl_nil2 ?_
 | (refine fun (hc : _ = _) => ?_; first | cases hc | ((try rw [hc]); (try simp only [stH] at hc); (try (exfalso; omega))); (try (show Awl _ _ _ _ _; simp only [stU])))
 | ((first | refine fun (K : V → List _ → _) hK => ?_ | refine fun (_ : V → V) => ?_); simp (disch := omega) only [go_sem, Int.reduceEq, ↓reduceIte, reduceCtorEq, Nat.reduceEqDiff, Nat.reduceLT, Nat.reduceLeDiff, Nat.reduceAdd, Nat.reduceSub, Nat.reduceMul, Int.reduceToNat, Int.reduceLE, Int.reduceLT, E0, hw3, hw4, c]; (try (revert hK; intro hK; (repeat' first | (refine And.intro ?_ ?_) | (intro hc; first | cases hc | ((try rw [hc]); (try simp only [stH] at hc); (try (exfalso; omega))))); all_goals first | (refine hK _ _ ?_; clear hK K; simp only [stU]) | exact hK | omega)))
            refine ⟨j + 1, by omega, by omega, nm [], Wk.of ?_⟩
            simp (disch := omega) only [go_sem, Int.reduceEq, ↓reduceIte, reduceCtorEq, Nat.reduceEqDiff, Nat.reduceLT, Nat.reduceLeDiff, Nat.reduceAdd, Nat.reduceSub, Nat.reduceMul, Int.reduceToNat, Int.reduceLE, Int.reduceLT, E0]
            exact ⟨by rw [hw, hz], rfl⟩
          · have hz : QC.crcOne v = (v * 2) % 4294967296 := by rw [QC.crcOne, if_neg c]
            have c' : decide (v / 2147483648 = 1) = false := decide_eq_false c
            repeat' first
 | refine AW.seq ?_
 | refine AW.block ?_
 | refine AW.regl E0_ok [0, 1, 4, 5, 6, 7, 9, 10, 11, 22, 30] ?_
 | refine then_n ?_
 | refine then_r ?_
 | refine then_x ?_
 | refine block_x ?_
 | refine block_o (by decide) ?_
 | refine block_n ?_
 | refine block_r ?_
 | refine AW.skip ?_
 | refine AW.ret ?_
 | refine AW.exit ?_
 | refine AW.cond rfl ?_ ?_
 | refine awl_none rfl ?_
 | refine awl_nil2 ?_
 | (refine fun (hc : _ = _) => ?_; first | cases hc | ((try rw [hc]); (try simp only [stH] at hc); (try (exfalso; omega))); (try (show Awl _ _ _ _ _; simp only [stU])))
 | ((first | refine fun (K : V → List _ → _) hK => ?_ | refine fun (_ : V → V) => ?_); simp (disch := omega) only [go_sem, Int.reduceEq, ↓reduceIte, reduceCtorEq, Nat.reduceEqDiff, Nat.reduceLT, Nat.reduceLeDiff, Nat.reduceAdd, Nat.reduceSub, Nat.reduceMul, Int.reduceToNat, Int.reduceLE, Int.reduceLT, E0, hw3, hw4, c']; (try (revert hK; intro hK; (repeat' first | (refine And.intro ?_ ?_) | (intro hc; first | cases hc | ((try rw [hc]); (try simp only [stH] at hc); (try (exfalso; omega))))); all_goals first | (refine hK _ _ ?_; clear hK K; simp only [stU]) | exact hK | omega)))
            refine ⟨j + 1, by omega, by omega, nm [], Wk.of ?_⟩
            simp (disch := omega) only [go_sem, Int.reduceEq, ↓reduceIte, reduceCtorEq, Nat.reduceEqDiff, Nat.reduceLT, Nat.reduceLeDiff, Nat.reduceAdd, Nat.reduceSub, Nat.reduceMul, Int.reduceToNat, Int.reduceLE, Int.reduceLT, E0]
            exact ⟨by rw [hw, hz], rfl⟩
        · obtain rfl : j = 8 := by omega
          repeat' first
 | refine AW.seq ?_
 | refine AW.block ?_
 | refine AW.regl E0_ok [0, 1, 4, 5, 6, 7, 9, 10, 11, 22, 30] ?_
 | refine then_n ?_
 | refine then_r ?_
 | refine then_x ?_
 | refine block_x ?_
 | refine block_o (by decide) ?_
 | refine block_n ?_
 | refine block_r ?_
 | refine AW.skip ?_
 | refine AW.ret ?_
 | refine AW.exit ?_
 | refine AW.cond rfl ?_ ?_
 | refine awl_none rfl ?_
 | refine awl_nil2 ?_
 | (refine fun (hc : _ = _) => ?_; first | cases hc | ((try rw [hc]); (try simp only [stH] at hc); (try (exfalso; omega))); (try (show Awl _ _ _ _ _; simp only [stU])))
 | ((first | refine fun (K : V → List _ → _) hK => ?_ | refine fun (_ : V → V) => ?_); simp (disch := omega) only [go_sem, Int.reduceEq, ↓reduceIte, reduceCtorEq, Nat.reduceEqDiff, Nat.reduceLT, Nat.reduceLeDiff, Nat.reduceAdd, Nat.reduceSub, Nat.reduceMul, Int.reduceToNat, Int.reduceLE, Int.reduceLT, E0]; (try (revert hK; intro hK; (repeat' first | (refine And.intro ?_ ?_) | (intro hc; first | cases hc | ((try rw [hc]); (try simp only [stH] at hc); (try (exfalso; omega))))); all_goals first | (refine hK _ _ ?_; clear hK K; simp only [stU]) | exact hK | omega)))
          refine ⟨k + 1, by omega, by omega, nm [], Wk.of ?_⟩
          simp (disch := omega) only [go_sem, Int.reduceEq, ↓reduceIte, reduceCtorEq, Nat.reduceEqDiff, Nat.reduceLT, Nat.reduceLeDiff, Nat.reduceAdd, Nat.reduceSub, Nat.reduceMul, Int.reduceToNat, Int.reduceLE, Int.reduceLT, E0]
          exact ⟨by rw [hy, e7], rfl⟩
    · obtain rfl : k = l.length := by omega
      rw [List.take_length]
      repeat' first
 | refine AW.seq ?_
 | refine AW.block ?_
 | refine AW.regl E0_ok [0, 1, 4, 5, 6, 7, 9, 10, 11, 22, 30] ?_
 | refine then_n ?_
 | refine then_r ?_
 | refine then_x ?_
 | refine block_x ?_
 | refine block_o (by decide) ?_
 | refine block_n ?_
 | refine block_r ?_
 | refine AW.skip ?_
 | refine AW.ret ?_
 | refine AW.exit ?_
 | refine AW.cond rfl ?_ ?_
 | refine awl_none rfl ?_
 | refine awl_nil2 ?_
 | (refine fun (hc : _ = _) => ?_; first | cases hc | ((try rw [hc]); (try simp only [stH] at hc); (try (exfalso; omega))); (try (show Awl _ _ _ _ _; simp only [stU])))
 | ((first | refine fun (K : V → List _ → _) hK => ?_ | refine fun (_ : V → V) => ?_); simp (disch := omega) only [go_sem, Int.reduceEq, ↓reduceIte, reduceCtorEq, Nat.reduceEqDiff, Nat.reduceLT, Nat.reduceLeDiff, Nat.reduceAdd, Nat.reduceSub, Nat.reduceMul, Int.reduceToNat, Int.reduceLE, Int.reduceLT, E0]; (try (revert hK; intro hK; (repeat' first | (refine And.intro ?_ ?_) | (intro hc; first | cases hc | ((try rw [hc]); (try simp only [stH] at hc); (try (exfalso; omega))))); all_goals first | (refine hK _ _ ?_; clear hK K; simp only [stU]) | exact hK | omega)))
      (refine Ends.of (nm []) (by first | exact .inl rfl | exact .inr rfl) ?_; simp (disch := omega) only [go_sem, Int.reduceEq, ↓reduceIte, reduceCtorEq, Nat.reduceEqDiff, Nat.reduceLT, Nat.reduceLeDiff, Nat.reduceAdd, Nat.reduceSub, Nat.reduceMul, Int.reduceToNat, Int.reduceLE, Int.reduceLT, E0])
theorem ent_overdubref01_Add : Ent Try.prog 22 := ⟨_, Try.func22, rfl, by decide⟩
noncomputable def D1 : Env := ⟨Try.prog, fun f ds out => (f = 22 ∧ Sp_overdubref01_Add ds out), Es, fun _ => false, fun f vs lent out => False, fun f => none, fun f => false, false⟩
theorem D1_sp : ∀ f ds out, D1.Sp f ds out → Ent D1.P f ∧ Good D1.P f (fun a b => a = ds ∧ b = out) := by
  rintro f ds out ⟨rfl, h⟩
  exact ⟨ent_overdubref01_Add, good_overdubref01_Add.one h⟩
theorem D1_sm : ∀ f vs lent out, D1.Sm f vs lent out → Ent D1.P f ∧ GoodM D1.P f (fun a l b => a = vs ∧ l = lent ∧ b = out) := fun _ _ _ _ h => h.elim
theorem D1_ok : D1.Ok := ⟨D1_sp, Es_ok, D1_sm⟩
def Sp_overdubref01_Sum (ds : List D) (out : Out) : Prop := ∃ l : List Int, ds = [.list (l.map mB)] ∧ Byt l ∧ l.length ≤ 9223372036854775807 ∧ out = ⟨.d (.v (.int .u32 (QC.crcSum l))), []⟩
theorem good_overdubref01_Sum : Good Try.prog 20 Sp_overdubref01_Sum := by
  refine good_body (E := D1) (nt := 5) (rs := #[.tmp 2]) Try.func20 rfl rfl rfl ?_
  rintro ds out ⟨l, rfl, hb, hl, rfl⟩
  refine ⟨by simp, ?_⟩
  have hbt : Byt l = True := eq_true hb
  repeat' first
 | refine AW.seq ?_
 | refine AW.block ?_
 | refine AW.regl D1_ok [0, 2] ?_
 | refine then_n ?_
 | refine then_r ?_
 | refine then_x ?_
 | refine block_x ?_
 | refine block_o (by decide) ?_
 | refine block_n ?_
 | refine block_r ?_
 | refine AW.skip ?_
 | refine AW.ret ?_
 | refine AW.exit ?_
 | refine AW.cond rfl ?_ ?_
 | refine awl_none rfl ?_
 | refine awl_nil2 ?_
 | (refine fun (hc : _ = _) => ?_; first | cases hc | ((try rw [hc]); (try simp only [stH] at hc); (try (exfalso; omega))); (try (show Awl _ _ _ _ _; simp only [stU])))
 | ((first | refine fun (K : V → List _ → _) hK => ?_ | refine fun (_ : V → V) => ?_); simp (disch := omega) only [go_sem, Int.reduceEq, ↓reduceIte, reduceCtorEq, Nat.reduceEqDiff, Nat.reduceLT, Nat.reduceLeDiff, Nat.reduceAdd, Nat.reduceSub, Nat.reduceMul, Int.reduceToNat, Int.reduceLE, Int.reduceLT, D1, Sp_overdubref01_Add, hbt, mB_inj]; (try (revert hK; intro hK; (repeat' first | (refine And.intro ?_ ?_) | (intro hc; first | cases hc | ((try rw [hc]); (try simp only [stH] at hc); (try (exfalso; omega))))); all_goals first | (refine hK _ _ ?_; clear hK K; simp only [stU]) | exact hK | omega)))
  (refine Ends.of (nm []) (by first | exact .inl rfl | exact .inr rfl) ?_; simp (disch := omega) only [go_sem, Int.reduceEq, ↓reduceIte, reduceCtorEq, Nat.reduceEqDiff, Nat.reduceLT, Nat.reduceLeDiff, Nat.reduceAdd, Nat.reduceSub, Nat.reduceMul, Int.reduceToNat, Int.reduceLE, Int.reduceLT, D1, Sp_overdubref01_Add, QC.crcSum])
theorem ent_overdubref01_Sum : Ent Try.prog 20 := ⟨_, Try.func20, rfl, by decide⟩
def Sp_crc_step (ds : List D) (out : Out) : Prop := ∃ s : Int, ds = [.v (.int .u32 s)] ∧ (0 ≤ s ∧ s < 4294967296) ∧ out = ⟨.d (.v (.int .u32 (QC.crcOnes 8 s))), []⟩
theorem good_crc_step : Good Try.prog 26 Sp_crc_step := by
  refine good_body (E := E0) (nt := 16) (rs := #[.tmp 2]) Try.func26 rfl rfl rfl ?_
  rintro ds out ⟨s, rfl, hs, rfl⟩
  refine ⟨by simp, ?_⟩
  repeat' first
 | refine AW.seq ?_
 | refine AW.block ?_
 | refine AW.regl E0_ok [0, 2, 3, 4, 5, 11] ?_
 | refine then_n ?_
 | refine then_r ?_
 | refine then_x ?_
 | refine block_x ?_
 | refine block_o (by decide) ?_
 | refine block_n ?_
 | refine block_r ?_
 | refine AW.skip ?_
 | refine AW.ret ?_
 | refine AW.exit ?_
 | refine AW.cond rfl ?_ ?_
 | refine awl_none rfl ?_
 | refine awl_nil2 ?_
 | (refine fun (hc : _ = _) => ?_; first | cases hc | ((try rw [hc]); (try simp only [stH] at hc); (try (exfalso; omega))); (try (show Awl _ _ _ _ _; simp only [stU])))
 | ((first | refine fun (K : V → List _ → _) hK => ?_ | refine fun (_ : V → V) => ?_); simp (disch := omega) only [go_sem, Int.reduceEq, ↓reduceIte, reduceCtorEq, Nat.reduceEqDiff, Nat.reduceLT, Nat.reduceLeDiff, Nat.reduceAdd, Nat.reduceSub, Nat.reduceMul, Int.reduceToNat, Int.reduceLE, Int.reduceLT, E0]; (try (revert hK; intro hK; (repeat' first | (refine And.intro ?_ ?_) | (intro hc; first | cases hc | ((try rw [hc]); (try simp only [stH] at hc); (try (exfalso; omega))))); all_goals first | (refine hK _ _ ?_; clear hK K; simp only [stU]) | exact hK | omega)))
  refine AW.loop_wk (fun j : Nat => ⟨[(0, .d (.v (.int .u32 (QC.crcOnes j s)))), (4, .d (.v (.int .i64 j)))], [], 16⟩)
    (fun j => j ≤ 8) (fun j => 8 - j) 0 (by omega) (fun w0 oa a w hs => Wk.sr (ρ := nm []) (Wk.of ?_) hs) ?_
  · simp (disch := omega) only [go_sem, Int.reduceEq, ↓reduceIte, reduceCtorEq, Nat.reduceEqDiff, Nat.reduceLT, Nat.reduceLeDiff, Nat.reduceAdd, Nat.reduceSub, Nat.reduceMul, Int.reduceToNat, Int.reduceLE, Int.reduceLT, E0, QC.crcOnes]
  intro j hj
  by_cases h8 : j < 8
  · have hv := QC.crcOnes_rng j _ hs.1 hs.2
    obtain ⟨v, hvv⟩ : ∃ v, QC.crcOnes j s = v := ⟨_, rfl⟩
    have hw : QC.crcOnes (j + 1) s = QC.crcOne v := by rw [onesL, hvv]
    rw [hvv] at hv ⊢
    have hw3 : IntKind.u32.wrap (v * 2) = (v * 2) % 4294967296 := rfl
    have hw4 : IntKind.u32.wrap (v * 2 ^ 1) = (v * 2) % 4294967296 := rfl
    by_cases c : v / 2147483648 = 1
    · have hz : QC.crcOne v = Go.bits .xor .u32 ((v * 2) % 4294967296) 79764919 := by rw [QC.crcOne, if_pos c]
      repeat' first
 | refine AW.seq ?_
 | refine AW.block ?_
 | refine AW.regl E0_ok [0, 2, 3, 4, 5, 11] ?_
 | refine then_n ?_
 | refine then_r ?_
 | refine then_x ?_
 | refine block_x ?_
 | refine block_o (by decide) ?_
 | refine block_n ?_
 | refine block_r ?_
 | refine AW.skip ?_
 | refine AW.ret ?_
 | refine AW.exit ?_
 | refine AW.cond rfl ?_ ?_
 | refine awl_none rfl ?_
 | refine awl_nil2 ?_
 | (refine fun (hc : _ = _) => ?_; first | cases hc | ((try rw [hc]); (try simp only [stH] at hc); (try (exfalso; omega))); (try (show Awl _ _ _ _ _; simp only [stU])))
 | ((first | refine fun (K : V → List _ → _) hK => ?_ | refine fun (_ : V → V) => ?_); simp (disch := omega) only [go_sem, Int.reduceEq, ↓reduceIte, reduceCtorEq, Nat.reduceEqDiff, Nat.reduceLT, Nat.reduceLeDiff, Nat.reduceAdd, Nat.reduceSub, Nat.reduceMul, Int.reduceToNat, Int.reduceLE, Int.reduceLT, E0, hw3, hw4, c]; (try (revert hK; intro hK; (repeat' first | (refine And.intro ?_ ?_) | (intro hc; first | cases hc | ((try rw [hc]); (try simp only [stH] at hc); (try (exfalso; omega))))); all_goals first | (refine hK _ _ ?_; clear hK K; simp only [stU]) | exact hK | omega)))
      refine ⟨j + 1, by omega, by omega, nm [], Wk.of ?_⟩
      simp (disch := omega) only [go_sem, Int.reduceEq, ↓reduceIte, reduceCtorEq, Nat.reduceEqDiff, Nat.reduceLT, Nat.reduceLeDiff, Nat.reduceAdd, Nat.reduceSub, Nat.reduceMul, Int.reduceToNat, Int.reduceLE, Int.reduceLT, E0]
      exact ⟨by rw [hw, hz], rfl⟩
    · have hz : QC.crcOne v = (v * 2) % 4294967296 := by rw [QC.crcOne, if_neg c]
      have c' : decide (v / 2147483648 = 1) = false := decide_eq_false c
      repeat' first
 | refine AW.seq ?_
 | refine AW.block ?_
 | refine AW.regl E0_ok [0, 2, 3, 4, 5, 11] ?_
 | refine then_n ?_
 | refine then_r ?_
 | refine then_x ?_
 | refine block_x ?_
 | refine block_o (by decide) ?_
 | refine block_n ?_
 | refine block_r ?_
 | refine AW.skip ?_
 | refine AW.ret ?_
 | refine AW.exit ?_
 | refine AW.cond rfl ?_ ?_
 | refine awl_none rfl ?_
 | refine awl_nil2 ?_
 | (refine fun (hc : _ = _) => ?_; first | cases hc | ((try rw [hc]); (try simp only [stH] at hc); (try (exfalso; omega))); (try (show Awl _ _ _ _ _; simp only [stU])))
 | ((first | refine fun (K : V → List _ → _) hK => ?_ | refine fun (_ : V → V) => ?_); simp (disch := omega) only [go_sem, Int.reduceEq, ↓reduceIte, reduceCtorEq, Nat.reduceEqDiff, Nat.reduceLT, Nat.reduceLeDiff, Nat.reduceAdd, Nat.reduceSub, Nat.reduceMul, Int.reduceToNat, Int.reduceLE, Int.reduceLT, E0, hw3, hw4, c']; (try (revert hK; intro hK; (repeat' first | (refine And.intro ?_ ?_) | (intro hc; first | cases hc | ((try rw [hc]); (try simp only [stH] at hc); (try (exfalso; omega))))); all_goals first | (refine hK _ _ ?_; clear hK K; simp only [stU]) | exact hK | omega)))
      refine ⟨j + 1, by omega, by omega, nm [], Wk.of ?_⟩
      simp (disch := omega) only [go_sem, Int.reduceEq, ↓reduceIte, reduceCtorEq, Nat.reduceEqDiff, Nat.reduceLT, Nat.reduceLeDiff, Nat.reduceAdd, Nat.reduceSub, Nat.reduceMul, Int.reduceToNat, Int.reduceLE, Int.reduceLT, E0]
      exact ⟨by rw [hw, hz], rfl⟩
  · obtain rfl : j = 8 := by omega
    repeat' first
 | refine AW.seq ?_
 | refine AW.block ?_
 | refine AW.regl E0_ok [0, 2, 3, 4, 5, 11] ?_
 | refine then_n ?_
 | refine then_r ?_
 | refine then_x ?_
 | refine block_x ?_
 | refine block_o (by decide) ?_
 | refine block_n ?_
 | refine block_r ?_
 | refine AW.skip ?_
 | refine AW.ret ?_
 | refine AW.exit ?_
 | refine AW.cond rfl ?_ ?_
 | refine awl_none rfl ?_
 | refine awl_nil2 ?_
 | (refine fun (hc : _ = _) => ?_; first | cases hc | ((try rw [hc]); (try simp only [stH] at hc); (try (exfalso; omega))); (try (show Awl _ _ _ _ _; simp only [stU])))
 | ((first | refine fun (K : V → List _ → _) hK => ?_ | refine fun (_ : V → V) => ?_); simp (disch := omega) only [go_sem, Int.reduceEq, ↓reduceIte, reduceCtorEq, Nat.reduceEqDiff, Nat.reduceLT, Nat.reduceLeDiff, Nat.reduceAdd, Nat.reduceSub, Nat.reduceMul, Int.reduceToNat, Int.reduceLE, Int.reduceLT, E0]; (try (revert hK; intro hK; (repeat' first | (refine And.intro ?_ ?_) | (intro hc; first | cases hc | ((try rw [hc]); (try simp only [stH] at hc); (try (exfalso; omega))))); all_goals first | (refine hK _ _ ?_; clear hK K; simp only [stU]) | exact hK | omega)))
    all_goals (refine Ends.of (nm []) (by first | exact .inl rfl | exact .inr rfl) ?_; simp (disch := omega) only [go_sem, Int.reduceEq, ↓reduceIte, reduceCtorEq, Nat.reduceEqDiff, Nat.reduceLT, Nat.reduceLeDiff, Nat.reduceAdd, Nat.reduceSub, Nat.reduceMul, Int.reduceToNat, Int.reduceLE, Int.reduceLT, E0])
theorem ent_crc_step : Ent Try.prog 26 := ⟨_, Try.func26, rfl, by decide⟩
noncomputable def DT : Env := ⟨Try.prog, fun f ds out => (f = 26 ∧ Sp_crc_step ds out), Es, fun _ => false, fun f vs lent out => False, fun f => none, fun f => false, false⟩
theorem DT_sp : ∀ f ds out, DT.Sp f ds out → Ent DT.P f ∧ Good DT.P f (fun a b => a = ds ∧ b = out) := by
  rintro f ds out ⟨rfl, h⟩
  exact ⟨ent_crc_step, good_crc_step.one h⟩
theorem DT_sm : ∀ f vs lent out, DT.Sm f vs lent out → Ent DT.P f ∧ GoodM DT.P f (fun a l b => a = vs ∧ l = lent ∧ b = out) := fun _ _ _ _ h => h.elim
theorem DT_ok : DT.Ok := ⟨DT_sp, Es_ok, DT_sm⟩
def Sp_crc_Slow (ds : List D) (out : Out) : Prop := ∃ l : List Int, ds = [.list (l.map mB)] ∧ Byt l ∧ l.length ≤ 9223372036854775807 ∧ out = ⟨.d (.v (.int .u32 (QC.crcSum l))), []⟩
theorem good_crc_Slow : Good Try.prog 21 Sp_crc_Slow := by
  refine good_body (E := DT) (nt := 20) (rs := #[.tmp 2]) Try.func21 rfl rfl rfl ?_
  rintro ds out ⟨l, rfl, hb, hl, rfl⟩
  refine ⟨by simp, ?_⟩
  repeat' first
 | refine AW.seq ?_
 | refine AW.block ?_
 | refine AW.regl DT_ok [0, 2, 3, 5, 6, 7, 8, 9] ?_
 | refine then_n ?_
 | refine then_r ?_
 | refine then_x ?_
 | refine block_x ?_
 | refine block_o (by decide) ?_
 | refine block_n ?_
 | refine block_r ?_
 | refine AW.skip ?_
 | refine AW.ret ?_
 | refine AW.exit ?_
 | refine AW.cond rfl ?_ ?_
 | refine awl_none rfl ?_
 | refine awl_nil2 ?_
 | (refine fun (hc : _ = _) => ?_; first | cases hc | ((try rw [hc]); (try simp only [stH] at hc); (try (exfalso; omega))); (try (show Awl _ _ _ _ _; simp only [stU])))
 | ((first | refine fun (K : V → List _ → _) hK => ?_ | refine fun (_ : V → V) => ?_); simp (disch := omega) only [go_sem, Int.reduceEq, ↓reduceIte, reduceCtorEq, Nat.reduceEqDiff, Nat.reduceLT, Nat.reduceLeDiff, Nat.reduceAdd, Nat.reduceSub, Nat.reduceMul, Int.reduceToNat, Int.reduceLE, Int.reduceLT, DT, Sp_crc_step]; (try (revert hK; intro hK; (repeat' first | (refine And.intro ?_ ?_) | (intro hc; first | cases hc | ((try rw [hc]); (try simp only [stH] at hc); (try (exfalso; omega))))); all_goals first | (refine hK _ _ ?_; clear hK K; simp only [stU]) | exact hK | omega)))
  refine AW.loop_wk (fun k : Nat => ⟨[(3, .d (.v (.int .u32 (QC.crcAdd 4294967295 (l.take k))))), (6, .d (.list (l.map mB))), (7, .d (.v (.int .i64 l.length))), (8, .d (.v (.int .i64 k)))], [], 20⟩)
    (fun k => k ≤ l.length) (fun k => l.length - k) 0 (by omega) (fun w0 oa a w hs => Wk.sr (ρ := nm []) (Wk.of ?_) hs) ?_
  · simp (disch := omega) only [go_sem, Int.reduceEq, ↓reduceIte, reduceCtorEq, Nat.reduceEqDiff, Nat.reduceLT, Nat.reduceLeDiff, Nat.reduceAdd, Nat.reduceSub, Nat.reduceMul, Int.reduceToNat, Int.reduceLE, Int.reduceLT, DT, Sp_crc_step, List.take_zero, QC.crcAdd]
  intro k hk
  have hbk : Byt (l.take k) := byt_take hb k
  by_cases hkl : k < l.length
  · have e2 := getD_byt hb k
    have e6 : nth (l.map mB) k = .v (.int .u8 (l.getD k 0)) := nth_B l k (by omega)
    have e7 : QC.crcAdd 4294967295 (l.take (k + 1)) = QC.crcOnes 8 (cIn (QC.crcAdd 4294967295 (l.take k)) (l.getD k 0)) := by
      rw [show l.take (k + 1) = l.take k ++ [l.getD k 0] by rw [List.take_add_one, List.getD_eq_getElem?_getD, List.getElem?_eq_getElem hkl]; rfl]
      exact crcAdd_snoc hbk e2 (by decide) (by decide)
    have hr := QC.crcAdd_rng (l.take k) 4294967295 (by decide) (by decide)
    generalize l.getD k 0 = b at *
    obtain ⟨y, hy⟩ : ∃ y, QC.crcAdd 4294967295 (l.take (k + 1)) = y := ⟨_, rfl⟩
    rw [hy] at e7
    generalize QC.crcAdd 4294967295 (l.take k) = x at *
    have hw1 : IntKind.u32.wrap b = b := by rw [wrap_u32]; omega
    have hw2 : IntKind.u32.wrap (b * 2 ^ 24) = b * 16777216 := by rw [wrap_u32]; omega
    have hin : Go.bits .xor .u32 x (b * 16777216) = cIn x b := rfl
    have hcr := cIn_rng x b
    have hcr1 : (0 ≤ cIn x b) = True := eq_true hcr.1
    have hcr2 : (cIn x b < 4294967296) = True := eq_true hcr.2
    repeat' first
 | refine AW.seq ?_
 | refine AW.block ?_
 | refine AW.regl DT_ok [0, 2, 3, 5, 6, 7, 8, 9] ?_
 | refine then_n ?_
 | refine then_r ?_
 | refine then_x ?_
 | refine block_x ?_
 | refine block_o (by decide) ?_
 | refine block_n ?_
 | refine block_r ?_
 | refine AW.skip ?_
 | refine AW.ret ?_
 | refine AW.exit ?_
 | refine AW.cond rfl ?_ ?_
 | refine awl_none rfl ?_
 | refine awl_nil2 ?_
 | (refine fun (hc : _ = _) => ?_; first | cases hc | ((try rw [hc]); (try simp only [stH] at hc); (try (exfalso; omega))); (try (show Awl _ _ _ _ _; simp only [stU])))
 | ((first | refine fun (K : V → List _ → _) hK => ?_ | refine fun (_ : V → V) => ?_); simp (disch := omega) only [go_sem, Int.reduceEq, ↓reduceIte, reduceCtorEq, Nat.reduceEqDiff, Nat.reduceLT, Nat.reduceLeDiff, Nat.reduceAdd, Nat.reduceSub, Nat.reduceMul, Int.reduceToNat, Int.reduceLE, Int.reduceLT, DT, Sp_crc_step, e6, all_B, hw1, hw2, hin, hcr1, hcr2]; (try (revert hK; intro hK; (repeat' first | (refine And.intro ?_ ?_) | (intro hc; first | cases hc | ((try rw [hc]); (try simp only [stH] at hc); (try (exfalso; omega))))); all_goals first | (refine hK _ _ ?_; clear hK K; simp only [stU]) | exact hK | omega)))
    refine ⟨k + 1, by omega, by omega, nm [], Wk.of ?_⟩
    simp (disch := omega) only [go_sem, Int.reduceEq, ↓reduceIte, reduceCtorEq, Nat.reduceEqDiff, Nat.reduceLT, Nat.reduceLeDiff, Nat.reduceAdd, Nat.reduceSub, Nat.reduceMul, Int.reduceToNat, Int.reduceLE, Int.reduceLT, DT, Sp_crc_step]
    exact ⟨by rw [hy, e7], rfl⟩
  · obtain rfl : k = l.length := by omega
    rw [List.take_length]
    repeat' first
 | refine AW.seq ?_
 | refine AW.block ?_
 | refine AW.regl DT_ok [0, 2, 3, 5, 6, 7, 8, 9] ?_
 | refine then_n ?_
 | refine then_r ?_
 | refine then_x ?_
 | refine block_x ?_
 | refine block_o (by decide) ?_
 | refine block_n ?_
 | refine block_r ?_
 | refine AW.skip ?_
 | refine AW.ret ?_
 | refine AW.exit ?_
 | refine AW.cond rfl ?_ ?_
 | refine awl_none rfl ?_
 | refine awl_nil2 ?_
 | (refine fun (hc : _ = _) => ?_; first | cases hc | ((try rw [hc]); (try simp only [stH] at hc); (try (exfalso; omega))); (try (show Awl _ _ _ _ _; simp only [stU])))
 | ((first | refine fun (K : V → List _ → _) hK => ?_ | refine fun (_ : V → V) => ?_); simp (disch := omega) only [go_sem, Int.reduceEq, ↓reduceIte, reduceCtorEq, Nat.reduceEqDiff, Nat.reduceLT, Nat.reduceLeDiff, Nat.reduceAdd, Nat.reduceSub, Nat.reduceMul, Int.reduceToNat, Int.reduceLE, Int.reduceLT, DT, Sp_crc_step]; (try (revert hK; intro hK; (repeat' first | (refine And.intro ?_ ?_) | (intro hc; first | cases hc | ((try rw [hc]); (try simp only [stH] at hc); (try (exfalso; omega))))); all_goals first | (refine hK _ _ ?_; clear hK K; simp only [stU]) | exact hK | omega)))
    all_goals (refine Ends.of (nm []) (by first | exact .inl rfl | exact .inr rfl) ?_; simp (disch := omega) only [go_sem, Int.reduceEq, ↓reduceIte, reduceCtorEq, Nat.reduceEqDiff, Nat.reduceLT, Nat.reduceLeDiff, Nat.reduceAdd, Nat.reduceSub, Nat.reduceMul, Int.reduceToNat, Int.reduceLE, Int.reduceLT, DT, Sp_crc_step, QC.crcSum])
theorem ent_crc_Slow : Ent Try.prog 21 := ⟨_, Try.func21, rfl, by decide⟩
end Go.Proofs.Ytfoalonjlhemmaa.Am
