import Derived.Test.YtigkcigoiinkpaaZF1
set_option linter.unusedVariables false
set_option linter.unusedSimpArgs false
set_option maxRecDepth 10000
set_option maxHeartbeats 0
namespace Go.Proofs.Ytigkcigoiinkpaa.Am
open Go Go.RowKit Go.Proofs
theorem getD_byt {l : List Int} (h : Byt l) (i : Nat) : 0 ≤ l.getD i 0 ∧ l.getD i 0 < 256 := by
  rw [List.getD_eq_getElem?_getD]
  by_cases hi : i < l.length
  · rw [List.getElem?_eq_getElem hi]; exact h _ (List.getElem_mem hi)
  · rw [List.getElem?_eq_none (by omega)]; exact ⟨by decide, by decide⟩
def getOut (l : List Int) : Out := if 7 < l.length then ⟨.tup [.d (.v (.int .i64 0)), .d (.v (.bool false))], []⟩ else ⟨.tup [.d (.v (.int .i64 (leV l))), .d (.v (.bool true))], []⟩
def Sp_field_Get (ds : List D) (out : Out) : Prop := ∃ l : List Int, ds = [.list (l.map mB)] ∧ Byt l ∧ l.length ≤ 9223372036854775807 ∧ out = getOut l
theorem good_field_Get : Good Try.prog 70 Sp_field_Get := by
  refine good_body (E := E0) (nt := 25) (rs := #[.tmp 2, .tmp 3]) Try.func70 rfl rfl rfl ?_
  rintro ds out ⟨l, rfl, hb, hl, rfl⟩
  refine ⟨by simp, ?_⟩
  by_cases h7 : 7 < l.length
  · rw [getOut, if_pos h7]
    repeat' first
 | (refine AW.seq ?_)
 | (refine AW.block ?_)
 | (refine AW.regl E0_ok [0, 2, 3, 4, 5, 8, 13] ?_)
 | (refine then_n ?_)
 | (refine then_r ?_)
 | (refine then_x ?_)
 | (refine block_x ?_)
 | (refine block_o (by decide) ?_)
 | (refine block_n ?_)
 | (refine block_r ?_)
 | (refine AW.skip ?_)
 | (refine AW.ret ?_)
 | (refine AW.exit ?_)
 | (refine AW.cond rfl ?_ ?_ <;> (intro hc; first | cases hc | ((try rw [hc]); (try simp only [stH] at hc); (try (exfalso; omega)))))
 | ((first
       | (refine awl_none rfl fun K hK => ?_)
       | (refine awl_nil ?_)
       | (refine awl_some rfl rfl (Nat.le_of_ble_eq_true rfl) rfl rfl ?_ ?_ <;> (intro hc; first | cases hc | ((try rw [hc]); (try simp only [stH] at hc); (try (exfalso; omega)))) <;> (try intro K hK))
       | (refine awl_skip rfl rfl (Nat.le_of_ble_eq_true rfl) rfl rfl ?_))
    all_goals first
      | (show Awl _ _ _ _ _; simp only [St.upd, St.put, List.nil_append, List.cons_append, List.singleton_append, List.append_nil])
      | (simp (disch := omega) only [go_sem, Int.reduceEq, ↓reduceIte, reduceCtorEq, Nat.reduceEqDiff, Nat.reduceLT, Nat.reduceLeDiff, Nat.reduceAdd, Nat.reduceSub, Nat.reduceMul, Int.reduceToNat, Int.reduceLE, Int.reduceLT, E0]
         (try ((repeat' first | (refine And.intro ?_ ?_) | (intro hc; first | cases hc | ((try rw [hc]); (try simp only [stH] at hc); (try (exfalso; omega)))))
               all_goals first | (refine hK _ _ ?_; clear hK K; simp only [St.upd, St.put, List.nil_append, List.cons_append, List.singleton_append, List.append_nil]) | exact hK | omega))))
    (refine Ends.of (nm []) (by first | exact .inl rfl | exact .inr rfl) ?_; simp (disch := omega) only [go_sem, Int.reduceEq, ↓reduceIte, reduceCtorEq, Nat.reduceEqDiff, Nat.reduceLT, Nat.reduceLeDiff, Nat.reduceAdd, Nat.reduceSub, Nat.reduceMul, Int.reduceToNat, Int.reduceLE, Int.reduceLT, E0])
  · rw [getOut, if_neg h7]
    repeat' first
 | (refine AW.seq ?_)
 | (refine AW.block ?_)
 | (refine AW.regl E0_ok [0, 2, 3, 4, 5, 8, 13] ?_)
 | (refine then_n ?_)
 | (refine then_r ?_)
 | (refine then_x ?_)
 | (refine block_x ?_)
 | (refine block_o (by decide) ?_)
 | (refine block_n ?_)
 | (refine block_r ?_)
 | (refine AW.skip ?_)
 | (refine AW.ret ?_)
 | (refine AW.exit ?_)
 | (refine AW.cond rfl ?_ ?_ <;> (intro hc; first | cases hc | ((try rw [hc]); (try simp only [stH] at hc); (try (exfalso; omega)))))
 | ((first
       | (refine awl_none rfl fun K hK => ?_)
       | (refine awl_nil ?_)
       | (refine awl_some rfl rfl (Nat.le_of_ble_eq_true rfl) rfl rfl ?_ ?_ <;> (intro hc; first | cases hc | ((try rw [hc]); (try simp only [stH] at hc); (try (exfalso; omega)))) <;> (try intro K hK))
       | (refine awl_skip rfl rfl (Nat.le_of_ble_eq_true rfl) rfl rfl ?_))
    all_goals first
      | (show Awl _ _ _ _ _; simp only [St.upd, St.put, List.nil_append, List.cons_append, List.singleton_append, List.append_nil])
      | (simp (disch := omega) only [go_sem, Int.reduceEq, ↓reduceIte, reduceCtorEq, Nat.reduceEqDiff, Nat.reduceLT, Nat.reduceLeDiff, Nat.reduceAdd, Nat.reduceSub, Nat.reduceMul, Int.reduceToNat, Int.reduceLE, Int.reduceLT, E0]
         (try ((repeat' first | (refine And.intro ?_ ?_) | (intro hc; first | cases hc | ((try rw [hc]); (try simp only [stH] at hc); (try (exfalso; omega)))))
               all_goals first | (refine hK _ _ ?_; clear hK K; simp only [St.upd, St.put, List.nil_append, List.cons_append, List.singleton_append, List.append_nil]) | exact hK | omega))))
    refine AW.loop_wk (fun k : Nat => ⟨[(0, .d (.list (l.map mB))), (4, .d (.v (.int .i64 (leV (l.drop k))))), (5, .d (.v (.int .i64 ((k : Int) - 1))))], [], 25⟩)
      (fun k => k ≤ l.length) (fun k => k) l.length (by omega) (fun w0 oa a w hs => Wk.sr (ρ := nm []) (Wk.of ?_) hs) ?_
    · simp (disch := omega) only [go_sem, Int.reduceEq, ↓reduceIte, reduceCtorEq, Nat.reduceEqDiff, Nat.reduceLT, Nat.reduceLeDiff, Nat.reduceAdd, Nat.reduceSub, Nat.reduceMul, Int.reduceToNat, Int.reduceLE, Int.reduceLT, E0, List.drop_length, leV]
    · intro k hk
      by_cases hk0 : 0 < k
      · obtain ⟨q, rfl⟩ : ∃ q, k = q + 1 := ⟨k - 1, by omega⟩
        have e1 := leV_drop_succ (l := l) (i := q) (by omega)
        have e2 := getD_byt hb q
        have e3 := leV_bound (byt_drop hb (q + 1))
        have e4 : (256 : Int) ^ (l.drop (q + 1)).length ≤ 256 ^ 6 := p256_mono (by rw [List.length_drop]; omega)
        have e5 : (256 : Int) ^ 6 = 281474976710656 := by decide
        have e6 : nth (l.map mB) q = .v (.int .u8 (l.getD q 0)) := nth_B l q (by omega)
        have e7 : (((q + 1 : Nat) : Int) - 1).toNat = q := by omega
        have e8 : ((q + 1 : Nat) : Int) - 1 = q := by omega
        generalize l.getD q 0 = x at *
        generalize leV (l.drop (q + 1)) = v at *
        have e9 : bits .or .i64 (v * 256) x = v * 256 + x := or256 (by omega) (by omega) (by omega) (by omega)
        rw [e8]
        repeat' first
 | (refine AW.seq ?_)
 | (refine AW.block ?_)
 | (refine AW.regl E0_ok [0, 2, 3, 4, 5, 8, 13] ?_)
 | (refine then_n ?_)
 | (refine then_r ?_)
 | (refine then_x ?_)
 | (refine block_x ?_)
 | (refine block_o (by decide) ?_)
 | (refine block_n ?_)
 | (refine block_r ?_)
 | (refine AW.skip ?_)
 | (refine AW.ret ?_)
 | (refine AW.exit ?_)
 | (refine AW.cond rfl ?_ ?_ <;> (intro hc; first | cases hc | ((try rw [hc]); (try simp only [stH] at hc); (try (exfalso; omega)))))
 | ((first
       | (refine awl_none rfl fun K hK => ?_)
       | (refine awl_nil ?_)
       | (refine awl_some rfl rfl (Nat.le_of_ble_eq_true rfl) rfl rfl ?_ ?_ <;> (intro hc; first | cases hc | ((try rw [hc]); (try simp only [stH] at hc); (try (exfalso; omega)))) <;> (try intro K hK))
       | (refine awl_skip rfl rfl (Nat.le_of_ble_eq_true rfl) rfl rfl ?_))
    all_goals first
      | (show Awl _ _ _ _ _; simp only [St.upd, St.put, List.nil_append, List.cons_append, List.singleton_append, List.append_nil])
      | (simp (disch := omega) only [go_sem, Int.reduceEq, ↓reduceIte, reduceCtorEq, Nat.reduceEqDiff, Nat.reduceLT, Nat.reduceLeDiff, Nat.reduceAdd, Nat.reduceSub, Nat.reduceMul, Int.reduceToNat, Int.reduceLE, Int.reduceLT, E0, e6, e9, all_B, Int.reducePow]
         (try ((repeat' first | (refine And.intro ?_ ?_) | (intro hc; first | cases hc | ((try rw [hc]); (try simp only [stH] at hc); (try (exfalso; omega)))))
               all_goals first | (refine hK _ _ ?_; clear hK K; simp only [St.upd, St.put, List.nil_append, List.cons_append, List.singleton_append, List.append_nil]) | exact hK | omega))))
        have e10 : v * 256 + x = leV (l.drop q) := by rw [e1]; omega
        refine ⟨q, by omega, by omega, nm [], Wk.of ?_⟩
        simp (disch := omega) only [go_sem, Int.reduceEq, ↓reduceIte, reduceCtorEq, Nat.reduceEqDiff, Nat.reduceLT, Nat.reduceLeDiff, Nat.reduceAdd, Nat.reduceSub, Nat.reduceMul, Int.reduceToNat, Int.reduceLE, Int.reduceLT, E0, e10]
      · obtain rfl : k = 0 := by omega
        repeat' first
 | (refine AW.seq ?_)
 | (refine AW.block ?_)
 | (refine AW.regl E0_ok [0, 2, 3, 4, 5, 8, 13] ?_)
 | (refine then_n ?_)
 | (refine then_r ?_)
 | (refine then_x ?_)
 | (refine block_x ?_)
 | (refine block_o (by decide) ?_)
 | (refine block_n ?_)
 | (refine block_r ?_)
 | (refine AW.skip ?_)
 | (refine AW.ret ?_)
 | (refine AW.exit ?_)
 | (refine AW.cond rfl ?_ ?_ <;> (intro hc; first | cases hc | ((try rw [hc]); (try simp only [stH] at hc); (try (exfalso; omega)))))
 | ((first
       | (refine awl_none rfl fun K hK => ?_)
       | (refine awl_nil ?_)
       | (refine awl_some rfl rfl (Nat.le_of_ble_eq_true rfl) rfl rfl ?_ ?_ <;> (intro hc; first | cases hc | ((try rw [hc]); (try simp only [stH] at hc); (try (exfalso; omega)))) <;> (try intro K hK))
       | (refine awl_skip rfl rfl (Nat.le_of_ble_eq_true rfl) rfl rfl ?_))
    all_goals first
      | (show Awl _ _ _ _ _; simp only [St.upd, St.put, List.nil_append, List.cons_append, List.singleton_append, List.append_nil])
      | (simp (disch := omega) only [go_sem, Int.reduceEq, ↓reduceIte, reduceCtorEq, Nat.reduceEqDiff, Nat.reduceLT, Nat.reduceLeDiff, Nat.reduceAdd, Nat.reduceSub, Nat.reduceMul, Int.reduceToNat, Int.reduceLE, Int.reduceLT, E0]
         (try ((repeat' first | (refine And.intro ?_ ?_) | (intro hc; first | cases hc | ((try rw [hc]); (try simp only [stH] at hc); (try (exfalso; omega)))))
               all_goals first | (refine hK _ _ ?_; clear hK K; simp only [St.upd, St.put, List.nil_append, List.cons_append, List.singleton_append, List.append_nil]) | exact hK | omega))))
        (refine Ends.of (nm []) (by first | exact .inl rfl | exact .inr rfl) ?_; simp (disch := omega) only [go_sem, Int.reduceEq, ↓reduceIte, reduceCtorEq, Nat.reduceEqDiff, Nat.reduceLT, Nat.reduceLeDiff, Nat.reduceAdd, Nat.reduceSub, Nat.reduceMul, Int.reduceToNat, Int.reduceLE, Int.reduceLT, E0, List.drop_zero])
theorem ent_field_Get : Ent Try.prog 70 := ⟨_, Try.func70, rfl, by decide⟩
end Go.Proofs.Ytigkcigoiinkpaa.Am
