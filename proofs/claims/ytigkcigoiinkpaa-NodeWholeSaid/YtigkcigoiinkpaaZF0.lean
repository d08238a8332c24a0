import Derived.Test.YtigkcigoiinkpaaZFx
set_option linter.unusedVariables false
set_option linter.unusedSimpArgs false
set_option maxRecDepth 10000
set_option maxHeartbeats 0
namespace Go.Proofs.Ytigkcigoiinkpaa.Am
open Go Go.RowKit Go.Proofs
theorem follows : Try.prog.follows .mixedOrders = true := by kernel_rfl
noncomputable def E0 : Env := ⟨Try.prog, fun f ds out => False, Es, fun _ => false⟩
theorem E0_sp : ∀ f ds out, E0.Sp f ds out → Ent E0.P f ∧ Good E0.P f (fun a b => a = ds ∧ b = out) := fun _ _ _ h => h.elim
theorem E0_ok : E0.Ok := ⟨E0_sp, Es_ok⟩
def within (v n : Int) : Int := if n < 1 then 0 else if v.tmod n < 0 then v.tmod n + n else v.tmod n
def Sp_overdubkeep_Within (ds : List D) (out : Out) : Prop := ∃ v n : Int, ds = [.v (.int .i64 v), .v (.int .i64 n)] ∧ n < 9223372036854775808 ∧ out = ⟨.d (.v (.int .i64 (within v n))), []⟩
theorem good_overdubkeep_Within : Good Try.prog 20 Sp_overdubkeep_Within := by
  refine good_body (E := E0) (nt := 17) (rs := #[.tmp 4]) Try.func20 rfl rfl rfl ?_
  rintro ds out ⟨v, n, rfl, hn, rfl⟩
  refine ⟨by simp, ?_⟩
  have hm : ∀ h : ¬ n < 1, v.tmod n < n ∧ - n < v.tmod n := fun h => ⟨by have := Int.tmod_lt_of_pos v (show 0 < n by omega); omega, by have := Int.lt_tmod_of_pos v (show 0 < n by omega); omega⟩
  by_cases h1 : n < 1
  · repeat' first
 | (refine AW.seq ?_)
 | (refine AW.block ?_)
 | (refine AW.regl E0_ok [0, 1, 4, 5, 7, 12] ?_)
 | (refine then_n ?_)
 | (refine then_r ?_)
 | (refine then_x ?_)
 | (refine block_x ?_)
 | (refine block_o (by decide) ?_)
 | (refine block_n ?_)
 | (refine block_r ?_)
 | (refine AW.skip ?_)
 | (refine AW.ret ?_)
 | (refine AW.exit ?_)
 | (refine AW.cond rfl ?_ ?_ <;> (intro hc; first | cases hc | ((try rw [hc]); (try simp only [stH] at hc); (try (exfalso; omega)))))
 | ((first
       | (refine awl_none rfl fun K hK => ?_)
       | (refine awl_nil ?_)
       | (refine awl_some rfl rfl (Nat.le_of_ble_eq_true rfl) rfl rfl ?_ ?_ <;> (intro hc; first | cases hc | ((try rw [hc]); (try simp only [stH] at hc); (try (exfalso; omega)))) <;> (try intro K hK))
       | (refine awl_skip rfl rfl (Nat.le_of_ble_eq_true rfl) rfl rfl ?_))
    all_goals first
      | (show Awl _ _ _ _ _; simp only [St.upd, St.put, List.nil_append, List.cons_append, List.singleton_append, List.append_nil])
      | (simp (disch := omega) only [go_sem, Int.reduceEq, ↓reduceIte, reduceCtorEq, Nat.reduceEqDiff, Nat.reduceLT, Nat.reduceLeDiff, Nat.reduceAdd, Nat.reduceSub, Nat.reduceMul, Int.reduceToNat, Int.reduceLE, Int.reduceLT, E0]
         (try ((repeat' first | (refine And.intro ?_ ?_) | (intro hc; first | cases hc | ((try rw [hc]); (try simp only [stH] at hc); (try (exfalso; omega)))))
               all_goals first | (refine hK _ _ ?_; clear hK K; simp only [St.upd, St.put, List.nil_append, List.cons_append, List.singleton_append, List.append_nil]) | exact hK | omega))))
    (refine Ends.of (nm []) (by first | exact .inl rfl | exact .inr rfl) ?_; simp (disch := omega) only [go_sem, Int.reduceEq, ↓reduceIte, reduceCtorEq, Nat.reduceEqDiff, Nat.reduceLT, Nat.reduceLeDiff, Nat.reduceAdd, Nat.reduceSub, Nat.reduceMul, Int.reduceToNat, Int.reduceLE, Int.reduceLT, E0, within, h1])
  · have := hm h1
    repeat' first
 | (refine AW.seq ?_)
 | (refine AW.block ?_)
 | (refine AW.regl E0_ok [0, 1, 4, 5, 7, 12] ?_)
 | (refine then_n ?_)
 | (refine then_r ?_)
 | (refine then_x ?_)
 | (refine block_x ?_)
 | (refine block_o (by decide) ?_)
 | (refine block_n ?_)
 | (refine block_r ?_)
 | (refine AW.skip ?_)
 | (refine AW.ret ?_)
 | (refine AW.exit ?_)
 | (refine AW.cond rfl ?_ ?_ <;> (intro hc; first | cases hc | ((try rw [hc]); (try simp only [stH] at hc); (try (exfalso; omega)))))
 | ((first
       | (refine awl_none rfl fun K hK => ?_)
       | (refine awl_nil ?_)
       | (refine awl_some rfl rfl (Nat.le_of_ble_eq_true rfl) rfl rfl ?_ ?_ <;> (intro hc; first | cases hc | ((try rw [hc]); (try simp only [stH] at hc); (try (exfalso; omega)))) <;> (try intro K hK))
       | (refine awl_skip rfl rfl (Nat.le_of_ble_eq_true rfl) rfl rfl ?_))
    all_goals first
      | (show Awl _ _ _ _ _; simp only [St.upd, St.put, List.nil_append, List.cons_append, List.singleton_append, List.append_nil])
      | (simp (disch := omega) only [go_sem, Int.reduceEq, ↓reduceIte, reduceCtorEq, Nat.reduceEqDiff, Nat.reduceLT, Nat.reduceLeDiff, Nat.reduceAdd, Nat.reduceSub, Nat.reduceMul, Int.reduceToNat, Int.reduceLE, Int.reduceLT, E0]
         (try ((repeat' first | (refine And.intro ?_ ?_) | (intro hc; first | cases hc | ((try rw [hc]); (try simp only [stH] at hc); (try (exfalso; omega)))))
               all_goals first | (refine hK _ _ ?_; clear hK K; simp only [St.upd, St.put, List.nil_append, List.cons_append, List.singleton_append, List.append_nil]) | exact hK | omega))))
    · (refine Ends.of (nm []) (by first | exact .inl rfl | exact .inr rfl) ?_; simp (disch := omega) only [go_sem, Int.reduceEq, ↓reduceIte, reduceCtorEq, Nat.reduceEqDiff, Nat.reduceLT, Nat.reduceLeDiff, Nat.reduceAdd, Nat.reduceSub, Nat.reduceMul, Int.reduceToNat, Int.reduceLE, Int.reduceLT, E0, within, h1, hc])
    · (refine Ends.of (nm []) (by first | exact .inl rfl | exact .inr rfl) ?_; simp (disch := omega) only [go_sem, Int.reduceEq, ↓reduceIte, reduceCtorEq, Nat.reduceEqDiff, Nat.reduceLT, Nat.reduceLeDiff, Nat.reduceAdd, Nat.reduceSub, Nat.reduceMul, Int.reduceToNat, Int.reduceLE, Int.reduceLT, E0, within, h1, Int.not_lt.mpr, hc])
theorem ent_overdubkeep_Within : Ent Try.prog 20 := ⟨_, Try.func20, rfl, by decide⟩
def putB (n : Int) (m : Nat) : List Int := (List.range m).map fun i => n / 256 ^ i % 256
def putK (n : Int) (m k : Nat) : List Int := (List.range m).map fun i => if i < k then n / 256 ^ i % 256 else 0
theorem putK_len (n : Int) (m k : Nat) : (putK n m k).length = m := by simp [putK]
theorem putB_len (n : Int) (m : Nat) : (putB n m).length = m := by simp [putB]
theorem putK_zero (n : Int) (m : Nat) : List.replicate m 0 = putK n m 0 := by
  apply List.ext_getElem?
  intro i
  by_cases h : i < m <;> simp [putK, h]
theorem putK_all (n : Int) (m : Nat) : putK n m m = putB n m := by
  apply List.ext_getElem?
  intro i
  by_cases h : i < m <;> simp [putK, putB, h]
theorem putK_set (n : Int) (m k : Nat) : (putK n m k).set k (n / 256 ^ k % 256) = putK n m (k + 1) := by
  apply List.ext_getElem?
  intro i
  rw [List.getElem?_set]
  by_cases h : i < m
  · by_cases hk : k = i
    · subst hk; simp [putK, h]
    · have e : (i < k + 1) = (i < k) := by simp only [eq_iff_iff]; omega
      simp [putK, h, hk, e]
  · by_cases hk : k = i
    · subst hk; simp [putK, h]
    · simp [putK, h, hk]
theorem wrap_u64_id (x : Int) (h0 : 0 ≤ x) (h1 : x < 18446744073709551616) : IntKind.u64.wrap x = x := by rw [wrap_u64]; omega
theorem shr8 (n : Int) (k : Nat) : n / 256 ^ k / 2 ^ 8 = n / 256 ^ (k + 1) := by
  rw [Int.ediv_ediv_of_nonneg (Int.pow_nonneg (by decide)), Int.pow_succ]
  rfl
def wd (w : Int) : Nat := (max 0 (min w 8)).toNat
def Sp_field_Put (ds : List D) (out : Out) : Prop := ∃ n w : Int, ds = [.v (.int .i64 n), .v (.int .i64 w)] ∧ n < 9223372036854775808 ∧ out = ⟨.sl 0 1 0 (wd w) true, [(0, .row 5 1 ((putB (max 0 n) (wd w)).map mB))]⟩
theorem good_field_Put : Good Try.prog 49 Sp_field_Put := by
  refine good_body (E := E0) (nt := 29) (rs := #[.tmp 4]) Try.func49 rfl rfl rfl ?_
  rintro ds out ⟨n, w, rfl, hn, rfl⟩
  refine ⟨by simp, ?_⟩
  have hwd : ((wd w : Nat) : Int) = max 0 (min w 8) := by unfold wd; omega
  have hw0 : (max 0 (min w 8)).toNat = wd w := rfl
  repeat' first
 | (refine AW.seq ?_)
 | (refine AW.block ?_)
 | (refine AW.regl E0_ok [0, 1, 4, 5, 6, 7, 16, 17, 18] ?_)
 | (refine then_n ?_)
 | (refine then_r ?_)
 | (refine then_x ?_)
 | (refine block_x ?_)
 | (refine block_o (by decide) ?_)
 | (refine block_n ?_)
 | (refine block_r ?_)
 | (refine AW.skip ?_)
 | (refine AW.ret ?_)
 | (refine AW.exit ?_)
 | (refine AW.cond rfl ?_ ?_ <;> (intro hc; first | cases hc | ((try rw [hc]); (try simp only [stH] at hc); (try (exfalso; omega)))))
 | ((first
       | (refine awl_none rfl fun K hK => ?_)
       | (refine awl_nil ?_)
       | (refine awl_some rfl rfl (Nat.le_of_ble_eq_true rfl) rfl rfl ?_ ?_ <;> (intro hc; first | cases hc | ((try rw [hc]); (try simp only [stH] at hc); (try (exfalso; omega)))) <;> (try intro K hK))
       | (refine awl_skip rfl rfl (Nat.le_of_ble_eq_true rfl) rfl rfl ?_))
    all_goals first
      | (show Awl _ _ _ _ _; simp only [St.upd, St.put, List.nil_append, List.cons_append, List.singleton_append, List.append_nil])
      | (simp (disch := omega) only [go_sem, Int.reduceEq, ↓reduceIte, reduceCtorEq, Nat.reduceEqDiff, Nat.reduceLT, Nat.reduceLeDiff, Nat.reduceAdd, Nat.reduceSub, Nat.reduceMul, Int.reduceToNat, Int.reduceLE, Int.reduceLT, E0, wrap_u64_id, hw0]
         (try ((repeat' first | (refine And.intro ?_ ?_) | (intro hc; first | cases hc | ((try rw [hc]); (try simp only [stH] at hc); (try (exfalso; omega)))))
               all_goals first | (refine hK _ _ ?_; clear hK K; simp only [St.upd, St.put, List.nil_append, List.cons_append, List.singleton_append, List.append_nil]) | exact hK | omega))))
  refine AW.loop_wk (fun k : Nat => ⟨[(5, .sl 11 1 0 (wd w) true), (6, .d (.v (.int .u64 (max 0 n / 256 ^ k)))), (16, .d (.v (.int .i64 (wd w)))), (17, .d (.v (.int .i64 k)))], [(11, .row 5 1 ((putK (max 0 n) (wd w) k).map mB))], 29⟩)
    (fun k => k ≤ wd w) (fun k => wd w - k) 0 (by omega) (fun w0 oa a w hs => Wk.sr (ρ := nm []) (Wk.of ?_) hs) ?_
  · simp (disch := omega) only [go_sem, Int.reduceEq, ↓reduceIte, reduceCtorEq, Nat.reduceEqDiff, Nat.reduceLT, Nat.reduceLeDiff, Nat.reduceAdd, Nat.reduceSub, Nat.reduceMul, Int.reduceToNat, Int.reduceLE, Int.reduceLT, E0, repl_B, putK_zero, Int.pow_zero, Int.ediv_one]
    first | exact ⟨rfl, by rw [putK_zero]⟩ | rw [putK_zero]
  · intro k hk
    have hl := putK_len (max 0 n) (wd w) k
    repeat' first
 | (refine AW.seq ?_)
 | (refine AW.block ?_)
 | (refine AW.regl E0_ok [0, 1, 4, 5, 6, 7, 16, 17, 18] ?_)
 | (refine then_n ?_)
 | (refine then_r ?_)
 | (refine then_x ?_)
 | (refine block_x ?_)
 | (refine block_o (by decide) ?_)
 | (refine block_n ?_)
 | (refine block_r ?_)
 | (refine AW.skip ?_)
 | (refine AW.ret ?_)
 | (refine AW.exit ?_)
 | (refine AW.cond rfl ?_ ?_ <;> (intro hc; first | cases hc | ((try rw [hc]); (try simp only [stH] at hc); (try (exfalso; omega)))))
 | ((first
       | (refine awl_none rfl fun K hK => ?_)
       | (refine awl_nil ?_)
       | (refine awl_some rfl rfl (Nat.le_of_ble_eq_true rfl) rfl rfl ?_ ?_ <;> (intro hc; first | cases hc | ((try rw [hc]); (try simp only [stH] at hc); (try (exfalso; omega)))) <;> (try intro K hK))
       | (refine awl_skip rfl rfl (Nat.le_of_ble_eq_true rfl) rfl rfl ?_))
    all_goals first
      | (show Awl _ _ _ _ _; simp only [St.upd, St.put, List.nil_append, List.cons_append, List.singleton_append, List.append_nil])
      | (simp (disch := omega) only [go_sem, Int.reduceEq, ↓reduceIte, reduceCtorEq, Nat.reduceEqDiff, Nat.reduceLT, Nat.reduceLeDiff, Nat.reduceAdd, Nat.reduceSub, Nat.reduceMul, Int.reduceToNat, Int.reduceLE, Int.reduceLT, E0, wrap_u64_id, wrap_u8, putK_len, putK_set, shr8]
         (try ((repeat' first | (refine And.intro ?_ ?_) | (intro hc; first | cases hc | ((try rw [hc]); (try simp only [stH] at hc); (try (exfalso; omega)))))
               all_goals first | (refine hK _ _ ?_; clear hK K; simp only [St.upd, St.put, List.nil_append, List.cons_append, List.singleton_append, List.append_nil]) | exact hK | omega))))
    · refine ⟨k + 1, by omega, by omega, nm [], Wk.of ?_⟩
      simp (disch := omega) only [go_sem, Int.reduceEq, ↓reduceIte, reduceCtorEq, Nat.reduceEqDiff, Nat.reduceLT, Nat.reduceLeDiff, Nat.reduceAdd, Nat.reduceSub, Nat.reduceMul, Int.reduceToNat, Int.reduceLE, Int.reduceLT, E0]
      first | exact ⟨by rw [shr8], rfl⟩ | rfl
    · obtain rfl : k = wd w := by omega
      (refine Ends.of (nm [(0, 11)]) (by first | exact .inl rfl | exact .inr rfl) ?_; simp (disch := omega) only [go_sem, Int.reduceEq, ↓reduceIte, reduceCtorEq, Nat.reduceEqDiff, Nat.reduceLT, Nat.reduceLeDiff, Nat.reduceAdd, Nat.reduceSub, Nat.reduceMul, Int.reduceToNat, Int.reduceLE, Int.reduceLT, E0, putK_all])
theorem ent_field_Put : Ent Try.prog 49 := ⟨_, Try.func49, rfl, by decide⟩
end Go.Proofs.Ytigkcigoiinkpaa.Am
