import Derived.Test.YtfoalonjlhemmaaZHA
import Derived.Test.YtfoalonjlhemmaaZCK
set_option linter.unusedVariables false
set_option linter.unusedSimpArgs false
set_option maxRecDepth 10000
set_option maxHeartbeats 0
namespace Go.Proofs.Ytfoalonjlhemmaa.Am
open Go Go.RowKit Go.Proofs
theorem RT_inj {a b : Bool} : (RT a = RT b) = (a = b) := by
  have h : RT true ≠ RT false := by
    intro e
    have h1 : RT false (.cells Crc.zc 53 (0, 0)) := ⟨_, rfl, .inr ⟨rfl, Crc.zc_fresh⟩⟩
    rw [← e] at h1
    obtain ⟨cs, he, ⟨_, hd⟩ | ⟨h2, _⟩⟩ := h1
    · cases he
      have := hd.zero
      rw [Crc.zc_fresh.zero] at this
      cases this
    · cases h2
  cases a <;> cases b <;> simp [h, Ne.symm h]
noncomputable def K2 : Env := ⟨Try.prog, fun f ds out => (f = 10 ∧ Sp_crc_New ds out), Es, fun _ => false, fun f vs lent out => (f = 11 ∧ Sm_crc_Table_Sum vs lent out), fun f => if f = 11 then some [1000000] else none, fun f => false, false⟩
theorem K2_sp : ∀ f ds out, K2.Sp f ds out → Ent K2.P f ∧ Good K2.P f (fun a b => a = ds ∧ b = out) := by
  rintro f ds out ⟨rfl, h⟩
  exact ⟨ent_crc_New, good_crc_New.one h⟩
theorem K2_sm : ∀ f vs lent out, K2.Sm f vs lent out → Ent K2.P f ∧ GoodM K2.P f (fun a l b => a = vs ∧ l = lent ∧ b = out) := by
  rintro f vs lent out ⟨rfl, h⟩
  exact ⟨ent_crc_Table_Sum, goodM_crc_Table_Sum.one h⟩
theorem K2_ok : K2.Ok := ⟨K2_sp, Es_ok, K2_sm⟩
theorem nil_sum : QC.crcSum [] = 4294967295 := rfl
theorem known_sum : QC.crcSum [49, 50, 51, 52, 53, 54, 55, 56, 57] = 58124007 := by kernel_rfl
theorem YD (l : List Int) : ([D.v (.int .u8 49), D.v (.int .u8 50), D.v (.int .u8 51), D.v (.int .u8 52), D.v (.int .u8 53), D.v (.int .u8 54), D.v (.int .u8 55), D.v (.int .u8 56), D.v (.int .u8 57)] = l.map mB) = (l = [49, 50, 51, 52, 53, 54, 55, 56, 57]) := by
  rw [show [D.v (.int .u8 49), D.v (.int .u8 50), D.v (.int .u8 51), D.v (.int .u8 52), D.v (.int .u8 53), D.v (.int .u8 54), D.v (.int .u8 55), D.v (.int .u8 56), D.v (.int .u8 57)] = [49, 50, 51, 52, 53, 54, 55, 56, 57].map mB from rfl, mB_inj]
  exact propext eq_comm
theorem nilD (l : List Int) : ([] = l.map mB) = (l = []) := by cases l <;> simp
def Sp_overdublaw03_wakes (ds : List D) (out : Out) : Prop := ds = [] ∧ out = ⟨.d (.v (.bool true)), []⟩
theorem good_overdublaw03_wakes : Good Try.prog 13 Sp_overdublaw03_wakes := by
  refine good_body (E := K2) (nt := 17) (rs := #[.tmp 0]) Try.func13 rfl rfl rfl ?_
  rintro ds out ⟨rfl, rfl⟩
  refine ⟨by simp, ?_⟩
  repeat' first
 | refine AW.seq ?_
 | refine AW.block ?_
 | refine AW.regl K2_ok [0, 1] ?_
 | refine then_n ?_
 | refine then_r ?_
 | refine then_x ?_
 | refine block_x ?_
 | refine block_o (by decide) ?_
 | refine block_n ?_
 | refine block_r ?_
 | refine AW.skip ?_
 | refine AW.ret ?_
 | refine AW.exit ?_
 | refine AW.cond rfl ?_ ?_
 | refine awl_none rfl ?_
 | refine awl_nil2 ?_
 | refine awl_some rfl rfl (Nat.le_of_ble_eq_true rfl) rfl rfl ?_ ?_
 | (refine fun (hc : _ = _) => ?_; first | cases hc | ((try rw [hc]); (try simp only [stH] at hc); (try (exfalso; omega))); (try (show Awl _ _ _ _ _; simp only [stU])))
 | ((first | refine fun (K : V → List _ → _) hK => ?_ | refine fun (_ : V → V) => ?_); simp (disch := omega) only [go_sem, Int.reduceEq, ↓reduceIte, reduceCtorEq, Nat.reduceEqDiff, Nat.reduceLT, Nat.reduceLeDiff, Nat.reduceAdd, Nat.reduceSub, Nat.reduceMul, Int.reduceToNat, Int.reduceLE, Int.reduceLT, K2, Sp_crc_New, Sm_crc_Table_Sum, YD, nilD, known_sum, nil_sum, RT_inj, V.d.injEq, V.ptr.injEq, Prod.mk.injEq, Ob.opq.injEq]; (try (revert hK; intro hK; (repeat' first | (refine And.intro ?_ ?_) | (intro hc; first | cases hc | ((try rw [hc]); (try simp only [stH] at hc); (try (exfalso; omega))))); all_goals first | (refine hK _ _ ?_; clear hK K; simp only [stU]) | exact hK | omega)))
  all_goals (refine Ends.of (nm []) (by first | exact .inl rfl | exact .inr rfl) ?_; simp (disch := omega) only [go_sem, Int.reduceEq, ↓reduceIte, reduceCtorEq, Nat.reduceEqDiff, Nat.reduceLT, Nat.reduceLeDiff, Nat.reduceAdd, Nat.reduceSub, Nat.reduceMul, Int.reduceToNat, Int.reduceLE, Int.reduceLT, K2, Sp_crc_New, Sm_crc_Table_Sum])
theorem ent_overdublaw03_wakes : Ent Try.prog 13 := ⟨_, Try.func13, rfl, by decide⟩
end Go.Proofs.Ytfoalonjlhemmaa.Am
