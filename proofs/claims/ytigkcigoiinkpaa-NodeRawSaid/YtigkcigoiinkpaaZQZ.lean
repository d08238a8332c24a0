import Derived.Test.YtigkcigoiinkpaaZNG
set_option linter.unusedVariables false
set_option linter.unusedSimpArgs false
set_option maxRecDepth 10000
set_option maxHeartbeats 0
namespace Go.Proofs.Ytigkcigoiinkpaa.Am
open Go Go.RowKit Go.Proofs
noncomputable def QZ : Env := ⟨Try.prog, fun f ds out => (f = 34 ∧ Sp_overdubkeep_Cut_byte ds out) ∨ (f = 35 ∧ Sp_overdubref01_Summed ds out) ∨ (f = 27 ∧ Sp_overdublaw20_read ds out) ∨ (f = 17 ∧ Sp_overdublaw20_wakes ds out), Es, fun _ => false⟩
theorem QZ_sp : ∀ f ds out, QZ.Sp f ds out → Ent QZ.P f ∧ Good QZ.P f (fun a b => a = ds ∧ b = out) := by
  rintro f ds out (⟨rfl, h⟩ | ⟨rfl, h⟩ | ⟨rfl, h⟩ | ⟨rfl, h⟩)
  · exact ⟨ent_overdubkeep_Cut_byte, good_overdubkeep_Cut_byte.one h⟩
  · exact ⟨ent_overdubref01_Summed, good_overdubref01_Summed.one h⟩
  · exact ⟨ent_overdublaw20_read, good_overdublaw20_read.one h⟩
  · exact ⟨ent_overdublaw20_wakes, good_overdublaw20_wakes.one h⟩
theorem QZ_ok : QZ.Ok := ⟨QZ_sp, Es_ok⟩
def Sp_overdublaw20_NodeRaw (ds : List D) (out : Out) : Prop := ∃ (b : List Int) (sm : Bool), ds = [.list (b.map mB), .v (.bool sm)] ∧ Byt b ∧ b.length ≤ 9223372036854775807 ∧ out = ⟨.d (.v (.bool true)), []⟩
theorem good_overdublaw20_NodeRaw : Good Try.prog 7 Sp_overdublaw20_NodeRaw := by
  refine good_body (E := QZ) (nt := 16) (rs := #[.tmp 4]) Try.func7 rfl rfl rfl ?_
  rintro ds out ⟨b, sm, rfl, hb, hl, rfl⟩
  refine ⟨by simp, ?_⟩
  have n140 : (140 : Int).toNat = 140 := rfl
  have n124 : (124 : Int).toNat = 124 := rfl
  have h1 : Byt (b.take 140) = True := eq_true (byt_take hb _)
  have h2 : Byt ((b.take 140).take 124) = True := eq_true (byt_take (byt_take hb _) _)
  have hl1 : (b.take 140).length ≤ 140 := List.length_take_le ..
  have hl2 : ((b.take 140).take 124).length ≤ 124 := List.length_take_le ..
  cases sm
  · obtain ⟨B, hB⟩ : ∃ B, b.take 140 = B := ⟨_, rfl⟩
    rw [hB] at *
    repeat' first
 | refine AW.seq ?_
 | refine AW.block ?_
 | refine AW.regl QZ_ok [0, 1, 4, 7] ?_
 | refine then_n ?_
 | refine then_r ?_
 | refine then_x ?_
 | refine block_x ?_
 | refine block_o (by decide) ?_
 | refine block_n ?_
 | refine block_r ?_
 | refine AW.skip ?_
 | refine AW.ret ?_
 | refine AW.exit ?_
 | refine AW.cond rfl ?_ ?_
 | refine awl_none rfl ?_
 | refine awl_nil2 ?_
 | refine awl_some rfl rfl (Nat.le_of_ble_eq_true rfl) rfl rfl ?_ ?_
 | (refine fun (hc : _ = _) => ?_; first | cases hc | ((try rw [hc]); (try simp only [stH] at hc); (try (exfalso; omega))); (try (show Awl _ _ _ _ _; simp only [stU])))
 | ((first | refine fun (K : V → List _ → _) hK => ?_ | refine fun (_ : V → V) => ?_); simp (disch := omega) only [go_sem, Int.reduceEq, ↓reduceIte, reduceCtorEq, Nat.reduceEqDiff, Nat.reduceLT, Nat.reduceLeDiff, Nat.reduceAdd, Nat.reduceSub, Nat.reduceMul, Int.reduceToNat, Int.reduceLE, Int.reduceLT, QZ, Sp_overdubkeep_Cut_byte, Sp_overdubref01_Summed, Sp_overdublaw20_read, Sp_overdublaw20_wakes, n140, hB, h1, mB_inj]; (try (revert hK; intro hK; (repeat' first | (refine And.intro ?_ ?_) | (intro hc; first | cases hc | ((try rw [hc]); (try simp only [stH] at hc); (try (exfalso; omega))))); all_goals first | (refine hK _ _ ?_; clear hK K; simp only [stU]) | exact hK | omega)))
    (refine Ends.of (nm []) (by first | exact .inl rfl | exact .inr rfl) ?_; simp (disch := omega) only [go_sem, Int.reduceEq, ↓reduceIte, reduceCtorEq, Nat.reduceEqDiff, Nat.reduceLT, Nat.reduceLeDiff, Nat.reduceAdd, Nat.reduceSub, Nat.reduceMul, Int.reduceToNat, Int.reduceLE, Int.reduceLT, QZ, Sp_overdubkeep_Cut_byte, Sp_overdubref01_Summed, Sp_overdublaw20_read, Sp_overdublaw20_wakes])
  · have hY : Byt (sumdL ((b.take 140).take 124) 124) := byt_append (toL_byt (byt_take (byt_take hb _) _) _) (sumL_byt _)
    have hYl : (sumdL ((b.take 140).take 124) 124).length = 128 := by
      unfold sumdL; rw [List.length_append, toL_len, sumL_len, show (124 : Int).toNat = 124 from rfl]; omega
    have hYy : Byt (sumdL ((b.take 140).take 124) 124) = True := eq_true hY
    have hYt : ((sumdL ((b.take 140).take 124) 124).map mB).take 128 = (sumdL ((b.take 140).take 124) 124).map mB := List.take_of_length_le (by rw [List.length_map, hYl]; omega)
    obtain ⟨B, hB⟩ : ∃ B, b.take 140 = B := ⟨_, rfl⟩
    rw [hB] at *
    obtain ⟨C, hC⟩ : ∃ C, B.take 124 = C := ⟨_, rfl⟩
    rw [hC] at *
    obtain ⟨Y, hYe⟩ : ∃ Y, sumdL C 124 = Y := ⟨_, rfl⟩
    rw [hYe] at *
    repeat' first
 | refine AW.seq ?_
 | refine AW.block ?_
 | refine AW.regl QZ_ok [0, 1, 4, 7] ?_
 | refine then_n ?_
 | refine then_r ?_
 | refine then_x ?_
 | refine block_x ?_
 | refine block_o (by decide) ?_
 | refine block_n ?_
 | refine block_r ?_
 | refine AW.skip ?_
 | refine AW.ret ?_
 | refine AW.exit ?_
 | refine AW.cond rfl ?_ ?_
 | refine awl_none rfl ?_
 | refine awl_nil2 ?_
 | refine awl_some rfl rfl (Nat.le_of_ble_eq_true rfl) rfl rfl ?_ ?_
 | (refine fun (hc : _ = _) => ?_; first | cases hc | ((try rw [hc]); (try simp only [stH] at hc); (try (exfalso; omega))); (try (show Awl _ _ _ _ _; simp only [stU])))
 | ((first | refine fun (K : V → List _ → _) hK => ?_ | refine fun (_ : V → V) => ?_); simp (disch := omega) only [go_sem, Int.reduceEq, ↓reduceIte, reduceCtorEq, Nat.reduceEqDiff, Nat.reduceLT, Nat.reduceLeDiff, Nat.reduceAdd, Nat.reduceSub, Nat.reduceMul, Int.reduceToNat, Int.reduceLE, Int.reduceLT, QZ, Sp_overdubkeep_Cut_byte, Sp_overdubref01_Summed, Sp_overdublaw20_read, Sp_overdublaw20_wakes, n140, n124, h1, h2, hB, hC, hYe, hYl, hYy, hYt, mB_inj]; (try (revert hK; intro hK; (repeat' first | (refine And.intro ?_ ?_) | (intro hc; first | cases hc | ((try rw [hc]); (try simp only [stH] at hc); (try (exfalso; omega))))); all_goals first | (refine hK _ _ ?_; clear hK K; simp only [stU]) | exact hK | omega)))
    (refine Ends.of (nm []) (by first | exact .inl rfl | exact .inr rfl) ?_; simp (disch := omega) only [go_sem, Int.reduceEq, ↓reduceIte, reduceCtorEq, Nat.reduceEqDiff, Nat.reduceLT, Nat.reduceLeDiff, Nat.reduceAdd, Nat.reduceSub, Nat.reduceMul, Int.reduceToNat, Int.reduceLE, Int.reduceLT, QZ, Sp_overdubkeep_Cut_byte, Sp_overdubref01_Summed, Sp_overdublaw20_read, Sp_overdublaw20_wakes])
end Go.Proofs.Ytigkcigoiinkpaa.Am
