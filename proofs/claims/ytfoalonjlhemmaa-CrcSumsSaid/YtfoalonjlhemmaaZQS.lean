import Derived.Test.YtfoalonjlhemmaaZDA
import Derived.Test.YtfoalonjlhemmaaZKL
set_option linter.unusedVariables false
set_option linter.unusedSimpArgs false
set_option maxRecDepth 10000
set_option maxHeartbeats 0
namespace Go.Proofs.Ytfoalonjlhemmaa.Am
open Go Go.RowKit Go.Proofs
noncomputable def QS : Env := ⟨Try.prog, fun f ds out => (f = 14 ∧ Sp_overdubkeep_Cut_byte ds out) ∨ (f = 10 ∧ Sp_crc_New ds out) ∨ (f = 19 ∧ Sp_overdubkeep_Lend ds out) ∨ (f = 20 ∧ Sp_overdubref01_Sum ds out) ∨ (f = 21 ∧ Sp_crc_Slow ds out) ∨ (f = 22 ∧ Sp_overdubref01_Add ds out) ∨ (f = 13 ∧ Sp_overdublaw03_wakes ds out), Es, fun _ => false, fun f vs lent out => (f = 11 ∧ Sm_crc_Table_Sum vs lent out) ∨ (f = 16 ∧ Sm_crc_Table_Add vs lent out) ∨ (f = 23 ∧ Sm_overdubkeep_Intact vs lent out), fun f => if f = 11 then some [1000000] else if f = 16 then some [1000000] else if f = 23 then some [1000000] else none, fun f => decide (f = 23), false⟩
theorem QS_sp : ∀ f ds out, QS.Sp f ds out → Ent QS.P f ∧ Good QS.P f (fun a b => a = ds ∧ b = out) := by
  rintro f ds out (⟨rfl, h⟩ | ⟨rfl, h⟩ | ⟨rfl, h⟩ | ⟨rfl, h⟩ | ⟨rfl, h⟩ | ⟨rfl, h⟩ | ⟨rfl, h⟩)
  · exact ⟨ent_overdubkeep_Cut_byte, good_overdubkeep_Cut_byte.one h⟩
  · exact ⟨ent_crc_New, good_crc_New.one h⟩
  · exact ⟨ent_overdubkeep_Lend, good_overdubkeep_Lend.one h⟩
  · exact ⟨ent_overdubref01_Sum, good_overdubref01_Sum.one h⟩
  · exact ⟨ent_crc_Slow, good_crc_Slow.one h⟩
  · exact ⟨ent_overdubref01_Add, good_overdubref01_Add.one h⟩
  · exact ⟨ent_overdublaw03_wakes, good_overdublaw03_wakes.one h⟩
theorem QS_sm : ∀ f vs lent out, QS.Sm f vs lent out → Ent QS.P f ∧ GoodM QS.P f (fun a l b => a = vs ∧ l = lent ∧ b = out) := by
  rintro f vs lent out (⟨rfl, h⟩ | ⟨rfl, h⟩ | ⟨rfl, h⟩)
  · exact ⟨ent_crc_Table_Sum, goodM_crc_Table_Sum.one h⟩
  · exact ⟨ent_crc_Table_Add, goodM_crc_Table_Add.one h⟩
  · exact ⟨ent_overdubkeep_Intact, goodM_overdubkeep_Intact.one h⟩
theorem QS_ok : QS.Ok := ⟨QS_sp, Es_ok, QS_sm⟩
def Sp_overdublaw03_CrcSums (ds : List D) (out : Out) : Prop := ∃ (l : List Int) (u : Int), ds = [.list (l.map mB), .v (.int .u32 u)] ∧ Byt l ∧ l.length ≤ 9223372036854775807 ∧ 0 ≤ u ∧ u < 4294967296 ∧ out = ⟨.d (.v (.bool true)), []⟩
theorem good_overdublaw03_CrcSums : Good Try.prog 8 Sp_overdublaw03_CrcSums := by
  refine good_body (E := QS) (nt := 45) (rs := #[.tmp 4]) Try.func8 rfl rfl rfl ?_
  rintro ds out ⟨l0, u, rfl, hb0, hl, hu0, hu1, rfl⟩
  refine ⟨by simp, ?_⟩
  obtain ⟨l, hL⟩ : ∃ l, l0.take 300 = l := ⟨_, rfl⟩
  have hb : Byt l := hL ▸ byt_take hb0 300
  have hbt : Byt l = True := eq_true hb
  have hl2 : l.length ≤ 300 := by rw [← hL, List.length_take]; omega
  have hLt : ((l ++ [85, 85, 85]).map mB).take l.length = l.map mB := by simp
  repeat' first
 | refine AW.seq ?_
 | refine AW.block ?_
 | refine AW.regl QS_ok [0, 1, 4, 5, 6, 11] ?_
 | refine then_n ?_
 | refine then_r ?_
 | refine then_x ?_
 | refine block_x ?_
 | refine block_o (by decide) ?_
 | refine block_n ?_
 | refine block_r ?_
 | refine AW.skip ?_
 | refine AW.ret ?_
 | refine AW.exit ?_
 | refine AW.cond rfl ?_ ?_
 | refine awl_none rfl ?_
 | refine awl_nil2 ?_
 | refine awl_some rfl rfl (Nat.le_of_ble_eq_true rfl) rfl rfl ?_ ?_
 | (refine fun (hc : _ = _) => ?_; first | cases hc | ((try rw [hc]); (try simp only [stH] at hc); (try (exfalso; omega))); (try (show Awl _ _ _ _ _; simp only [stU])))
 | ((first | refine fun (K : V → List _ → _) hK => ?_ | refine fun (_ : V → V) => ?_); simp (disch := omega) only [go_sem, Int.reduceEq, ↓reduceIte, reduceCtorEq, Nat.reduceEqDiff, Nat.reduceLT, Nat.reduceLeDiff, Nat.reduceAdd, Nat.reduceSub, Nat.reduceMul, Int.reduceToNat, Int.reduceLE, Int.reduceLT, QS, Sp_overdubkeep_Cut_byte, Sp_crc_New, Sp_overdubkeep_Lend, Sm_crc_Table_Sum, Sp_overdubref01_Sum, Sp_crc_Slow, Sm_crc_Table_Add, Sp_overdubref01_Add, Sm_overdubkeep_Intact, Sp_overdublaw03_wakes, hL, hbt, hLt, RT_inj, V.d.injEq, V.ptr.injEq, Prod.mk.injEq, Ob.opq.injEq]; (try (revert hK; intro hK; (repeat' first | (refine And.intro ?_ ?_) | (intro hc; first | cases hc | ((try rw [hc]); (try simp only [stH] at hc); (try (exfalso; omega))))); all_goals first | (refine hK _ _ ?_; clear hK K; simp only [stU]) | exact hK | omega)))
  all_goals (refine Ends.of (nm []) (by first | exact .inl rfl | exact .inr rfl) ?_; simp (disch := omega) only [go_sem, Int.reduceEq, ↓reduceIte, reduceCtorEq, Nat.reduceEqDiff, Nat.reduceLT, Nat.reduceLeDiff, Nat.reduceAdd, Nat.reduceSub, Nat.reduceMul, Int.reduceToNat, Int.reduceLE, Int.reduceLT, QS, Sp_overdubkeep_Cut_byte, Sp_crc_New, Sp_overdubkeep_Lend, Sm_crc_Table_Sum, Sp_overdubref01_Sum, Sp_crc_Slow, Sm_crc_Table_Add, Sp_overdubref01_Add, Sm_overdubkeep_Intact, Sp_overdublaw03_wakes])
end Go.Proofs.Ytfoalonjlhemmaa.Am
