import Derived.Test.YtigkcigoiinkpaaZF0
import Derived.Test.YtigkcigoiinkpaaZFm
set_option linter.unusedVariables false
set_option linter.unusedSimpArgs false
set_option maxRecDepth 10000
set_option maxHeartbeats 0
namespace Go.Proofs.Ytigkcigoiinkpaa.Am
open Go Go.RowKit Go.Proofs
theorem putB_leB (n : Int) (m : Nat) : putB n m = leB m n := by
  apply List.ext_getElem
  · simp [putB, leB_length]
  · intro i h1 h2
    have hi : i < m := by simpa [putB] using h1
    have e := leB_get m n i hi
    rw [List.getD_eq_getElem?_getD, List.getElem?_eq_getElem h2] at e
    simp only [Option.getD_some] at e
    rw [e]
    simp [putB]
def eD (e : Xt) : D := .agg [mI e.f0, mI e.f1, mI e.f2, mI e.f3, mI e.f4]
theorem eD_cells (e : Xt) : (eD e).cells = [mI e.f0, mI e.f1, mI e.f2, mI e.f3, mI e.f4] := rfl
theorem mI_eq (n : Int) : mI n = .v (.int .i64 n) := rfl
def x0 : Xt := ⟨0, 0, 0, 0, 0⟩
theorem eD_inj (l m : List Xt) : (l.map eD = m.map eD) = (l = m) := list_map_inj eD (fun a b h => by cases a; cases b; simp [eD, mI] at h; simp [h]) l m
theorem Y_inj (l m : List (List Int)) : (l.map bys = m.map bys) = (l = m) := list_map_inj bys (fun a b h => by rwa [bys_inj] at h) l m
theorem nth_E (l : List Xt) (i : Nat) (h : i < l.length) : nth (l.map eD) i = eD (l.getD i x0) := nth_map eD l i x0 h
theorem nth_Y (l : List (List Int)) (i : Nat) (h : i < l.length) : nth (l.map bys) i = bys (l.getD i []) := nth_map bys l i [] h
theorem all_Y (l : List (List Int)) : (∀ d ∈ l.map bys, d.cells.length = 1) = True := by simp [bys_cells]
theorem all_E (l : List Xt) : (∀ d ∈ l.map eD, d.cells.length = 5) = True := by simp [eD_cells]
theorem sc_E (l : List Xt) : (∀ d ∈ l.map eD, Scal' d) = True := by
  simp only [eq_iff_iff, iff_true]; intro d hd; obtain ⟨e, _, rfl⟩ := List.mem_map.1 hd
  exact .agg _ fun x hx => by
    simp only [mI, List.mem_cons, List.not_mem_nil, or_false] at hx
    rcases hx with rfl | rfl | rfl | rfl | rfl <;> exact .v _
theorem bys_eq (l : List Int) : bys l = .list (l.map mB) := rfl
def flatK (l : List (List Int)) (k : Nat) : List Int := (l.take k).flatten
theorem flatK_len (l : List (List Int)) (k : Nat) : (flatK l k).length ≤ l.flatten.length := by
  have : l.flatten = flatK l k ++ (l.drop k).flatten := by rw [flatK, ← List.flatten_append, List.take_append_drop]
  rw [this, List.length_append]; omega
theorem flatK_succ (l : List (List Int)) (k : Nat) (h : k < l.length) : flatK l k ++ l.getD k [] = flatK l (k + 1) := by
  rw [flatK, flatK, List.take_succ_eq_append_getElem h, List.flatten_append]
  simp [List.getD_eq_getElem?_getD, h]
theorem flatK_all (l : List (List Int)) (k : Nat) (h : l.length ≤ k) : flatK l k = l.flatten := by rw [flatK, List.take_of_length_le h]
def Sp_field_Join (ds : List D) (out : Out) : Prop := ∃ l : List (List Int), ds = [.list (l.map bys)] ∧ l.length < 1000000000 ∧ l.flatten.length < 100000000000000 ∧ out = ⟨.sl 0 1 0 l.flatten.length true, [(0, .row 5 1 (l.flatten.map mB))]⟩
theorem good_field_Join : Good Try.prog 48 Sp_field_Join := by
  refine good_body (E := E0) (nt := 17) (rs := #[.tmp 2]) Try.func48 rfl rfl rfl ?_
  rintro ds out ⟨l, rfl, hl, hf, rfl⟩
  refine ⟨by simp, ?_⟩
  repeat' first
 | (refine AW.seq ?_)
 | (refine AW.block ?_)
 | (refine AW.regl E0_ok [0, 2, 3, 5, 6, 7, 8, 9] ?_)
 | (refine then_n ?_)
 | (refine then_r ?_)
 | (refine then_x ?_)
 | (refine block_x ?_)
 | (refine block_o (by decide) ?_)
 | (refine block_n ?_)
 | (refine block_r ?_)
 | (refine AW.skip ?_)
 | (refine AW.ret ?_)
 | (refine AW.exit ?_)
 | (refine AW.cond rfl ?_ ?_ <;> (intro hc; first | cases hc | ((try rw [hc]); (try simp only [stH] at hc); (try (exfalso; omega)))))
 | ((first
       | (refine awl_none rfl fun K hK => ?_)
       | (refine awl_nil ?_)
       | (refine awl_some rfl rfl (Nat.le_of_ble_eq_true rfl) rfl rfl ?_ ?_ <;> (intro hc; first | cases hc | ((try rw [hc]); (try simp only [stH] at hc); (try (exfalso; omega)))) <;> (try intro K hK))
       | (refine awl_skip rfl rfl (Nat.le_of_ble_eq_true rfl) rfl rfl ?_))
    all_goals first
      | (show Awl _ _ _ _ _; simp only [St.upd, St.put, List.nil_append, List.cons_append, List.singleton_append, List.append_nil])
      | (simp (disch := omega) only [go_sem, Int.reduceEq, ↓reduceIte, reduceCtorEq, Nat.reduceEqDiff, Nat.reduceLT, Nat.reduceLeDiff, Nat.reduceAdd, Nat.reduceSub, Nat.reduceMul, Int.reduceToNat, Int.reduceLE, Int.reduceLT, E0]
         (try ((repeat' first | (refine And.intro ?_ ?_) | (intro hc; first | cases hc | ((try rw [hc]); (try simp only [stH] at hc); (try (exfalso; omega)))))
               all_goals first | (refine hK _ _ ?_; clear hK K; simp only [St.upd, St.put, List.nil_append, List.cons_append, List.singleton_append, List.append_nil]) | exact hK | omega))))
  refine AW.loop_wk (fun k : Nat => ⟨[(3, .sl 100 1 0 (flatK l k).length true), (6, .d (.list (l.map bys))), (7, .d (.v (.int .i64 l.length))), (8, .d (.v (.int .i64 k)))], [(100, .row 5 1 ((flatK l k).map mB))], 17⟩)
    (fun k => k ≤ l.length) (fun k => l.length - k) 0 (by omega) (fun w0 oa a w hs => Wk.sr (ρ := nm []) (Wk.of ?_) (nil_sr 3 100 5 1 rfl (by simp) rfl (by decide) hs)) ?_
  · simp (disch := omega) only [go_sem, Int.reduceEq, ↓reduceIte, reduceCtorEq, Nat.reduceEqDiff, Nat.reduceLT, Nat.reduceLeDiff, Nat.reduceAdd, Nat.reduceSub, Nat.reduceMul, Int.reduceToNat, Int.reduceLE, Int.reduceLT, E0]
    simp [flatK]
  · intro k hk
    have hl1 := flatK_len l k
    have hl2 := flatK_len l (k + 1)
    by_cases hk1 : k < l.length
    · have e := flatK_succ l k hk1
      have e2 : (flatK l k).length + (l.getD k []).length = (flatK l (k + 1)).length := by rw [← e, List.length_append]
      repeat' first
 | (refine AW.seq ?_)
 | (refine AW.block ?_)
 | (refine AW.regl E0_ok [0, 2, 3, 5, 6, 7, 8, 9] ?_)
 | (refine then_n ?_)
 | (refine then_r ?_)
 | (refine then_x ?_)
 | (refine block_x ?_)
 | (refine block_o (by decide) ?_)
 | (refine block_n ?_)
 | (refine block_r ?_)
 | (refine AW.skip ?_)
 | (refine AW.ret ?_)
 | (refine AW.exit ?_)
 | (refine AW.cond rfl ?_ ?_ <;> (intro hc; first | cases hc | ((try rw [hc]); (try simp only [stH] at hc); (try (exfalso; omega)))))
 | ((first
       | (refine awl_none rfl fun K hK => ?_)
       | (refine awl_nil ?_)
       | (refine awl_some rfl rfl (Nat.le_of_ble_eq_true rfl) rfl rfl ?_ ?_ <;> (intro hc; first | cases hc | ((try rw [hc]); (try simp only [stH] at hc); (try (exfalso; omega)))) <;> (try intro K hK))
       | (refine awl_skip rfl rfl (Nat.le_of_ble_eq_true rfl) rfl rfl ?_))
    all_goals first
      | (show Awl _ _ _ _ _; simp only [St.upd, St.put, List.nil_append, List.cons_append, List.singleton_append, List.append_nil])
      | (simp (disch := omega) only [go_sem, Int.reduceEq, ↓reduceIte, reduceCtorEq, Nat.reduceEqDiff, Nat.reduceLT, Nat.reduceLeDiff, Nat.reduceAdd, Nat.reduceSub, Nat.reduceMul, Int.reduceToNat, Int.reduceLE, Int.reduceLT, E0, nth_Y, all_Y, bys_eq, hk1]
         (try ((repeat' first | (refine And.intro ?_ ?_) | (intro hc; first | cases hc | ((try rw [hc]); (try simp only [stH] at hc); (try (exfalso; omega)))))
               all_goals first | (refine hK _ _ ?_; clear hK K; simp only [St.upd, St.put, List.nil_append, List.cons_append, List.singleton_append, List.append_nil]) | exact hK | omega))))
      · refine ⟨k + 1, by omega, by omega, nm [(100, 14)], Wk.of ?_⟩
        simp (disch := omega) only [go_sem, Int.reduceEq, ↓reduceIte, reduceCtorEq, Nat.reduceEqDiff, Nat.reduceLT, Nat.reduceLeDiff, Nat.reduceAdd, Nat.reduceSub, Nat.reduceMul, Int.reduceToNat, Int.reduceLE, Int.reduceLT, E0, e, e2]
        exact ⟨rfl, by rw [← List.map_append, e]⟩
    · obtain rfl : k = l.length := by omega
      repeat' first
 | (refine AW.seq ?_)
 | (refine AW.block ?_)
 | (refine AW.regl E0_ok [0, 2, 3, 5, 6, 7, 8, 9] ?_)
 | (refine then_n ?_)
 | (refine then_r ?_)
 | (refine then_x ?_)
 | (refine block_x ?_)
 | (refine block_o (by decide) ?_)
 | (refine block_n ?_)
 | (refine block_r ?_)
 | (refine AW.skip ?_)
 | (refine AW.ret ?_)
 | (refine AW.exit ?_)
 | (refine AW.cond rfl ?_ ?_ <;> (intro hc; first | cases hc | ((try rw [hc]); (try simp only [stH] at hc); (try (exfalso; omega)))))
 | ((first
       | (refine awl_none rfl fun K hK => ?_)
       | (refine awl_nil ?_)
       | (refine awl_some rfl rfl (Nat.le_of_ble_eq_true rfl) rfl rfl ?_ ?_ <;> (intro hc; first | cases hc | ((try rw [hc]); (try simp only [stH] at hc); (try (exfalso; omega)))) <;> (try intro K hK))
       | (refine awl_skip rfl rfl (Nat.le_of_ble_eq_true rfl) rfl rfl ?_))
    all_goals first
      | (show Awl _ _ _ _ _; simp only [St.upd, St.put, List.nil_append, List.cons_append, List.singleton_append, List.append_nil])
      | (simp (disch := omega) only [go_sem, Int.reduceEq, ↓reduceIte, reduceCtorEq, Nat.reduceEqDiff, Nat.reduceLT, Nat.reduceLeDiff, Nat.reduceAdd, Nat.reduceSub, Nat.reduceMul, Int.reduceToNat, Int.reduceLE, Int.reduceLT, E0, nth_Y, all_Y, bys_eq]
         (try ((repeat' first | (refine And.intro ?_ ?_) | (intro hc; first | cases hc | ((try rw [hc]); (try simp only [stH] at hc); (try (exfalso; omega)))))
               all_goals first | (refine hK _ _ ?_; clear hK K; simp only [St.upd, St.put, List.nil_append, List.cons_append, List.singleton_append, List.append_nil]) | exact hK | omega))))
      (refine Ends.of (nm [(0, 100)]) (by first | exact .inl rfl | exact .inr rfl) ?_; simp (disch := omega) only [go_sem, Int.reduceEq, ↓reduceIte, reduceCtorEq, Nat.reduceEqDiff, Nat.reduceLT, Nat.reduceLeDiff, Nat.reduceAdd, Nat.reduceSub, Nat.reduceMul, Int.reduceToNat, Int.reduceLE, Int.reduceLT, E0, flatK_all, Nat.le_refl])
theorem ent_field_Join : Ent Try.prog 48 := ⟨_, Try.func48, rfl, by decide⟩
end Go.Proofs.Ytigkcigoiinkpaa.Am
