import Derived.Test.YtfoalonjlhemmaaZFA
section
set_option linter.unusedVariables false
set_option linter.unusedSimpArgs false
set_option maxRecDepth 10000
set_option maxHeartbeats 0
namespace Go.Proofs.Ytfoalonjlhemmaa.Am
open Go Go.RowKit Go.Proofs
instance : DecidableEq Xt := fun a b => decidable_of_iff (a.f0 = b.f0 ∧ a.f1 = b.f1 ∧ a.f2 = b.f2 ∧ a.f3 = b.f3 ∧ a.f4 = b.f4) (by cases a; cases b; simp)
end Go.Proofs.Ytfoalonjlhemmaa.Am
end
section
set_option linter.unusedVariables false
set_option linter.unusedSimpArgs false
set_option maxRecDepth 10000
set_option maxHeartbeats 0
namespace Go.Proofs.Ytfoalonjlhemmaa.Am
open Go Go.RowKit Go.Proofs
noncomputable def H1 : Env := ⟨Try.prog, fun f ds out => False, Es, fun _ => false, fun f vs lent out => False, fun f => none, fun f => false, false⟩
def Sp_overdubkeep_Cut_byte (ds : List D) (out : Out) : Prop := ∃ (l : List Int) (n : Int), ds = [.list (l.map mB), .v (.int .i64 n)] ∧ 0 ≤ n ∧ l.length ≤ 9223372036854775807 ∧ out = ⟨.d (.list ((l.take n.toNat).map mB)), []⟩
theorem take_min {α : Type} (l : List α) (n : Int) : l.take (min (l.length : Int) n).toNat = l.take n.toNat := by
  by_cases h : (l.length : Int) ≤ n
  · rw [show (min (l.length : Int) n).toNat = l.length by omega, List.take_length, List.take_of_length_le (by omega)]
  · rw [show (min (l.length : Int) n).toNat = n.toNat by omega]
theorem map_take' {α β : Type} (f : α → β) (l : List α) (n : Nat) : (l.map f).take n = (l.take n).map f := List.map_take.symm
theorem good_overdubkeep_Cut_byte : Good Try.prog 14 Sp_overdubkeep_Cut_byte := by
  refine good_body (E := E0) (nt := 11) (rs := #[.tmp 4]) Try.func14 rfl rfl rfl ?_
  rintro ds out ⟨l, n, rfl, h0, hl, rfl⟩
  refine ⟨by simp, ?_⟩
  have hm1 : min (l.length : Int) n ≤ l.length := by omega
  have hm2 : 0 ≤ min (l.length : Int) n := by omega
  repeat' first
 | refine AW.seq ?_
 | refine AW.block ?_
 | refine AW.regl E0_ok [0, 1, 4] ?_
 | refine then_n ?_
 | refine then_r ?_
 | refine then_x ?_
 | refine block_x ?_
 | refine block_o (by decide) ?_
 | refine block_n ?_
 | refine block_r ?_
 | refine AW.skip ?_
 | refine AW.ret ?_
 | refine AW.exit ?_
 | refine AW.cond rfl ?_ ?_
 | refine awl_none rfl ?_
 | refine awl_nil2 ?_
 | (refine fun (hc : _ = _) => ?_; first | cases hc | ((try rw [hc]); (try simp only [stH] at hc); (try (exfalso; omega))); (try (show Awl _ _ _ _ _; simp only [stU])))
 | ((first | refine fun (K : V → List _ → _) hK => ?_ | refine fun (_ : V → V) => ?_); simp (disch := omega) only [go_sem, Int.reduceEq, ↓reduceIte, reduceCtorEq, Nat.reduceEqDiff, Nat.reduceLT, Nat.reduceLeDiff, Nat.reduceAdd, Nat.reduceSub, Nat.reduceMul, Int.reduceToNat, Int.reduceLE, Int.reduceLT, E0, cutOk, all_B, hm1, hm2]; (try (revert hK; intro hK; (repeat' first | (refine And.intro ?_ ?_) | (intro hc; first | cases hc | ((try rw [hc]); (try simp only [stH] at hc); (try (exfalso; omega))))); all_goals first | (refine hK _ _ ?_; clear hK K; simp only [stU]) | exact hK | omega)))
  (refine Ends.of (nm []) (by first | exact .inl rfl | exact .inr rfl) ?_; simp (disch := omega) only [go_sem, Int.reduceEq, ↓reduceIte, reduceCtorEq, Nat.reduceEqDiff, Nat.reduceLT, Nat.reduceLeDiff, Nat.reduceAdd, Nat.reduceSub, Nat.reduceMul, Int.reduceToNat, Int.reduceLE, Int.reduceLT, E0, take_min, map_take'])
theorem ent_overdubkeep_Cut_byte : Ent Try.prog 14 := ⟨_, Try.func14, rfl, by decide⟩
end Go.Proofs.Ytfoalonjlhemmaa.Am
end
