import Derived.Test.YtigkcigoiinkpaaZF3
set_option linter.unusedVariables false
set_option linter.unusedSimpArgs false
set_option maxRecDepth 10000
set_option maxHeartbeats 0
namespace Go.Proofs.Ytigkcigoiinkpaa.Am
open Go Go.RowKit Go.Proofs
theorem wd_1 : wd 1 = 1 := rfl
theorem wd_2 : wd 2 = 2 := rfl
theorem putB_take (n : Int) (m : Nat) : ((putB n m).map mB).take m = (putB n m).map mB := List.take_of_length_le (by simp [putB])
theorem Y5 (a b c d e : List Int) (l : List (List Int)) : ([D.list (a.map mB), D.list (b.map mB), D.list (c.map mB), D.list (d.map mB), D.list (e.map mB)] = l.map bys) = (l = [a, b, c, d, e]) := by
  rw [show [D.list (a.map mB), D.list (b.map mB), D.list (c.map mB), D.list (d.map mB), D.list (e.map mB)] = [a, b, c, d, e].map bys from rfl, Y_inj]
  exact propext eq_comm
def exP (f0 f1 f2 f3 f4 : Int) : List Int := putB (max 0 f0) 2 ++ (putB (max 0 f1) 2 ++ (putB (max 0 f2) 1 ++ (putB (max 0 f3) 1 ++ putB (max 0 f4) 1)))
theorem exP_eq (e : Xt) : exP e.f0 e.f1 e.f2 e.f3 e.f4 = exB e := by simp only [exP, exB, putB_leB]
theorem exP_fold (f0 f1 f2 f3 f4 : Int) : putB (max 0 f0) 2 ++ (putB (max 0 f1) 2 ++ (putB (max 0 f2) 1 ++ (putB (max 0 f3) 1 ++ putB (max 0 f4) 1))) = exP f0 f1 f2 f3 f4 := rfl
theorem exP_len (f0 f1 f2 f3 f4 : Int) : (exP f0 f1 f2 f3 f4).length = 7 := by simp [exP, putB_len]
theorem exP_take (f0 f1 f2 f3 f4 : Int) : ((exP f0 f1 f2 f3 f4).map mB).take 7 = (exP f0 f1 f2 f3 f4).map mB := List.take_of_length_le (by simp [exP_len])
theorem exsB_snoc (l : List Xt) (e : Xt) : exsB (l ++ [e]) = exsB l ++ exB e := by simp [exsB]
theorem take_snoc (l : List Xt) (k : Nat) (h : k < l.length) : l.take (k + 1) = l.take k ++ [l.getD k x0] := by
  rw [List.take_succ_eq_append_getElem h]; simp [List.getD_eq_getElem?_getD, h]
noncomputable def E3 : Env := ⟨Try.prog, fun f ds out => (f = 49 ∧ Sp_field_Put ds out) ∨ (f = 48 ∧ Sp_field_Join ds out), Es, fun _ => false⟩
theorem E3_sp : ∀ f ds out, E3.Sp f ds out → Ent E3.P f ∧ Good E3.P f (fun a b => a = ds ∧ b = out) := by
  rintro f ds out (⟨rfl, h⟩ | ⟨rfl, h⟩)
  · exact ⟨ent_field_Put, good_field_Put.one h⟩
  · exact ⟨ent_field_Join, good_field_Join.one h⟩
theorem E3_ok : E3.Ok := ⟨E3_sp, Es_ok⟩
def Sp_record_Extents (ds : List D) (out : Out) : Prop := ∃ l : List Xt, ds = [.list (l.map eD)] ∧ l.length < 1000000 ∧ (∀ e ∈ l, numE e) ∧ out = ⟨.sl 0 1 0 (exsB l).length true, [(0, .row 5 1 ((exsB l).map mB))]⟩
def cc_record_Extents_5 : List (List (Option Bool)) := [[some false, none, none, none, none, none, none, none, none, none, none, none, none, none, none, none, none, none, some false, some false], [none, some false, some false, some false, none, none, some false, none, none, some false, none, none, some false, none, none, some false, some false, some false, some false, some false], [none, some true, some false, some false, none, none, some false, none, none, some false, none, none, some false, none, none, some false, some false, some false, some false, some false], [none, some true, some true, some false, none, none, some false, none, none, some false, none, none, some false, none, none, some false, some false, some false, some false, some false], [none, none, none, none, some false, some false, some false, none, none, some false, none, none, some false, none, none, some false, some false, some false, some false, some false], [none, none, none, none, some true, some false, some false, none, none, some false, none, none, some false, none, none, some false, some false, some false, some false, some false], [none, some true, some true, some true, some true, some true, some false, none, none, some false, none, none, some false, none, none, some false, some false, some false, some false, some false], [none, none, none, none, none, none, none, some false, some false, some false, none, none, some false, none, none, some false, some false, some false, some false, some false], [none, none, none, none, none, none, none, some true, some false, some false, none, none, some false, none, none, some false, some false, some false, some false, some false], [none, some true, some true, some true, some true, some true, some true, some true, some true, some false, none, none, some false, none, none, some false, some false, some false, some false, some false], [none, none, none, none, none, none, none, none, none, none, some false, some false, some false, none, none, some false, some false, some false, some false, some false], [none, none, none, none, none, none, none, none, none, none, some true, some false, some false, none, none, some false, some false, some false, some false, some false], [none, some true, some true, some true, some true, some true, some true, some true, some true, some true, some true, some true, some false, none, none, some false, some false, some false, some false, some false], [none, none, none, none, none, none, none, none, none, none, none, none, none, some false, some false, some false, some false, some false, some false, some false], [none, none, none, none, none, none, none, none, none, none, none, none, none, some true, some false, some false, some false, some false, some false, some false], [none, some true, some true, some true, some true, some true, some true, some true, some true, some true, some true, some true, some true, some true, some true, some false, some false, some false, some false, some false], [none, some true, some true, some true, some true, some true, some true, some true, some true, some true, some true, some true, some true, some true, some true, some true, some false, some false, some false, some false], [none, some true, some true, some true, some true, some true, some true, some true, some true, some true, some true, some true, some true, some true, some true, some true, some true, some false, some false, some false], [some true, some true, some true, some true, some true, some true, some true, some true, some true, some true, some true, some true, some true, some true, some true, some true, some true, some true, some false, some false], [some true, some true, some true, some true, some true, some true, some true, some true, some true, some true, some true, some true, some true, some true, some true, some true, some true, some true, some true, some false]]
theorem good_record_Extents : Good Try.prog 51 Sp_record_Extents := by
  refine good_body (E := E3) (nt := 33) (rs := #[.tmp 2]) Try.func51 rfl rfl rfl ?_
  rintro ds out ⟨l, rfl, hl, hn, rfl⟩
  refine ⟨by simp, ?_⟩
  repeat' first
 | (refine AW.seq ?_)
 | (refine AW.block ?_)
 | (refine AW.regl E3_ok [0, 2, 3, 5, 6, 7, 8, 9] ?_)
 | (refine AW.regc (id := 5) E3_ok follows [0, 0, 2, 6, 0, 16, 62, 0, 128, 510, 0, 1024, 4094, 0, 8192, 32766, 65534, 131070, 262143, 524287] (by kernel_rfl) [0, 2, 3, 5, 6, 7, 8, 9] ?_)
 | (refine then_n ?_)
 | (refine then_r ?_)
 | (refine then_x ?_)
 | (refine block_x ?_)
 | (refine block_o (by decide) ?_)
 | (refine block_n ?_)
 | (refine block_r ?_)
 | (refine AW.skip ?_)
 | (refine AW.ret ?_)
 | (refine AW.exit ?_)
 | (refine AW.cond rfl ?_ ?_ <;> (intro hc; first | cases hc | ((try rw [hc]); (try simp only [stH] at hc); (try (exfalso; omega)))))
 | ((first
       | (refine awl_none rfl fun K hK => ?_)
       | (refine awl_nil ?_)
       | (refine awl_some rfl rfl (Nat.le_of_ble_eq_true rfl) rfl rfl ?_ ?_ <;> (intro hc; first | cases hc | ((try rw [hc]); (try simp only [stH] at hc); (try (exfalso; omega)))) <;> (try intro K hK))
       | (refine awl_skip rfl rfl (Nat.le_of_ble_eq_true rfl) rfl rfl ?_)
       | (refine awc_none rfl fun K hK => ?_)
       | (refine awc_some rfl rfl (Nat.le_of_ble_eq_true rfl) rfl rfl ?_ ?_ <;> (intro hc; first | cases hc | ((try rw [hc]); (try simp only [stH] at hc); (try (exfalso; omega)))) <;> (try intro K hK))
       | exact each_nil
       | (refine each_none rfl ?_ ?_ <;> (try intro bb K hK))
       | (refine awc_leaf [some 12, some 13, some 14, some 15, some 16, some 17, some 18, some 19, some 20, some 21, some 22, some 23, some 24, some 25, some 26, some 27, some 28, some 29, some 30, some 3] cc_record_Extents_5 rfl (by kernel_rfl) (by kernel_rfl) ?_ ?_))
    all_goals first
      | (show Awl _ _ _ _ _; simp only [St.upd, St.put, List.nil_append, List.cons_append, List.singleton_append, List.append_nil])
      | (show Awc _ _ _ _ _ _; simp only [St.upd, St.put, List.nil_append, List.cons_append, List.singleton_append, List.append_nil])
      | (show Each _ _ _ _ _ _ _ _; skip)
      | (simp (disch := omega) only [go_sem, Int.reduceEq, ↓reduceIte, reduceCtorEq, Nat.reduceEqDiff, Nat.reduceLT, Nat.reduceLeDiff, Nat.reduceAdd, Nat.reduceSub, Nat.reduceMul, Int.reduceToNat, Int.reduceLE, Int.reduceLT, E3, Sp_field_Put, Sp_field_Join, Sg3, St.updIf, ifc_nil, gt_ifc, go_ifc, ite_self, Option.none_or, Option.some_or]
         (try ((repeat' first | (refine And.intro ?_ ?_) | (intro hc; first | cases hc | ((try rw [hc]); (try simp only [stH] at hc); (try (exfalso; omega)))))
               all_goals first | (refine hK _ _ ?_; clear hK K; simp only [St.upd, St.put, List.nil_append, List.cons_append, List.singleton_append, List.append_nil]) | exact hK | omega))))
  refine AW.loop_wk (fun k : Nat => ⟨[(3, .sl 100 1 0 (exsB (l.take k)).length true), (6, .d (.list (l.map eD))), (7, .d (.v (.int .i64 l.length))), (8, .d (.v (.int .i64 k)))], [(100, .row 5 1 ((exsB (l.take k)).map mB))], 33⟩)
    (fun k => k ≤ l.length) (fun k => l.length - k) 0 (by omega) (fun w0 oa a w hs => Wk.sr (ρ := nm []) (Wk.of ?_) (nil_sr 3 100 5 1 rfl (by simp) rfl (by decide) hs)) ?_
  · simp (disch := omega) only [go_sem, Int.reduceEq, ↓reduceIte, reduceCtorEq, Nat.reduceEqDiff, Nat.reduceLT, Nat.reduceLeDiff, Nat.reduceAdd, Nat.reduceSub, Nat.reduceMul, Int.reduceToNat, Int.reduceLE, Int.reduceLT, E3, Sp_field_Put, Sp_field_Join]
    first | done | exact ⟨rfl, rfl⟩ | exact ⟨rfl, rfl, rfl⟩ | rfl
  · intro k hk
    by_cases hk1 : k < l.length
    · have e1 := hn (l.getD k x0) (by rw [List.getD_eq_getElem?_getD, List.getElem?_eq_getElem hk1]; exact List.getElem_mem hk1)
      have e2 := nth_E l k hk1
      have e4 : exsB (l.take (k + 1)) = exsB (l.take k) ++ exB (l.getD k x0) := by rw [take_snoc l k hk1, exsB_snoc]
      have e5 := exsB_length (l.take k)
      have e6 : (l.take k).length = k := by rw [List.length_take]; omega
      have e7 := exP_eq (l.getD k x0)
      generalize l.getD k x0 = e at *
      obtain ⟨f0, f1, f2, f3, f4⟩ := e
      unfold numE at e1
      simp only at e1 e7
      repeat' first
 | (refine AW.seq ?_)
 | (refine AW.block ?_)
 | (refine AW.regl E3_ok [0, 2, 3, 5, 6, 7, 8, 9] ?_)
 | (refine AW.regc (id := 5) E3_ok follows [0, 0, 2, 6, 0, 16, 62, 0, 128, 510, 0, 1024, 4094, 0, 8192, 32766, 65534, 131070, 262143, 524287] (by kernel_rfl) [0, 2, 3, 5, 6, 7, 8, 9] ?_)
 | (refine then_n ?_)
 | (refine then_r ?_)
 | (refine then_x ?_)
 | (refine block_x ?_)
 | (refine block_o (by decide) ?_)
 | (refine block_n ?_)
 | (refine block_r ?_)
 | (refine AW.skip ?_)
 | (refine AW.ret ?_)
 | (refine AW.exit ?_)
 | (refine AW.cond rfl ?_ ?_ <;> (intro hc; first | cases hc | ((try rw [hc]); (try simp only [stH] at hc); (try (exfalso; omega)))))
 | ((first
       | (refine awl_none rfl fun K hK => ?_)
       | (refine awl_nil ?_)
       | (refine awl_some rfl rfl (Nat.le_of_ble_eq_true rfl) rfl rfl ?_ ?_ <;> (intro hc; first | cases hc | ((try rw [hc]); (try simp only [stH] at hc); (try (exfalso; omega)))) <;> (try intro K hK))
       | (refine awl_skip rfl rfl (Nat.le_of_ble_eq_true rfl) rfl rfl ?_)
       | (refine awc_none rfl fun K hK => ?_)
       | (refine awc_some rfl rfl (Nat.le_of_ble_eq_true rfl) rfl rfl ?_ ?_ <;> (intro hc; first | cases hc | ((try rw [hc]); (try simp only [stH] at hc); (try (exfalso; omega)))) <;> (try intro K hK))
       | exact each_nil
       | (refine each_none rfl ?_ ?_ <;> (try intro bb K hK))
       | (refine awc_leaf [some 12, some 13, some 14, some 15, some 16, some 17, some 18, some 19, some 20, some 21, some 22, some 23, some 24, some 25, some 26, some 27, some 28, some 29, some 30, some 3] cc_record_Extents_5 rfl (by kernel_rfl) (by kernel_rfl) ?_ ?_))
    all_goals first
      | (show Awl _ _ _ _ _; simp only [St.upd, St.put, List.nil_append, List.cons_append, List.singleton_append, List.append_nil])
      | (show Awc _ _ _ _ _ _; simp only [St.upd, St.put, List.nil_append, List.cons_append, List.singleton_append, List.append_nil])
      | (show Each _ _ _ _ _ _ _ _; skip)
      | (simp (disch := omega) only [go_sem, Int.reduceEq, ↓reduceIte, reduceCtorEq, Nat.reduceEqDiff, Nat.reduceLT, Nat.reduceLeDiff, Nat.reduceAdd, Nat.reduceSub, Nat.reduceMul, Int.reduceToNat, Int.reduceLE, Int.reduceLT, E3, Sp_field_Put, Sp_field_Join, e2, eD, mI_eq, wd_1, wd_2, putB_take, Y5, putB_len, exP_fold, exP_len, exP_take, List.flatten_cons, List.flatten_nil, Sg3, St.updIf, ifc_nil, gt_ifc, go_ifc, ite_self, Option.none_or, Option.some_or]
         (try ((repeat' first | (refine And.intro ?_ ?_) | (intro hc; first | cases hc | ((try rw [hc]); (try simp only [stH] at hc); (try (exfalso; omega)))))
               all_goals first | (refine hK _ _ ?_; clear hK K; simp only [St.upd, St.put, List.nil_append, List.cons_append, List.singleton_append, List.append_nil]) | exact hK | omega))))
      refine ⟨k + 1, by omega, by omega, nm [(100, 30)], Wk.of ?_⟩
      have e8 : (exsB (l.take k)).length + 7 = (exsB (l.take (k + 1))).length := by rw [e4, List.length_append, exB_length]
      simp (disch := omega) only [go_sem, Int.reduceEq, ↓reduceIte, reduceCtorEq, Nat.reduceEqDiff, Nat.reduceLT, Nat.reduceLeDiff, Nat.reduceAdd, Nat.reduceSub, Nat.reduceMul, Int.reduceToNat, Int.reduceLE, Int.reduceLT, E3, Sp_field_Put, Sp_field_Join, e8]
      exact ⟨rfl, by rw [e4, List.map_append, e7]⟩
    · obtain rfl : k = l.length := by omega
      repeat' first
 | (refine AW.seq ?_)
 | (refine AW.block ?_)
 | (refine AW.regl E3_ok [0, 2, 3, 5, 6, 7, 8, 9] ?_)
 | (refine AW.regc (id := 5) E3_ok follows [0, 0, 2, 6, 0, 16, 62, 0, 128, 510, 0, 1024, 4094, 0, 8192, 32766, 65534, 131070, 262143, 524287] (by kernel_rfl) [0, 2, 3, 5, 6, 7, 8, 9] ?_)
 | (refine then_n ?_)
 | (refine then_r ?_)
 | (refine then_x ?_)
 | (refine block_x ?_)
 | (refine block_o (by decide) ?_)
 | (refine block_n ?_)
 | (refine block_r ?_)
 | (refine AW.skip ?_)
 | (refine AW.ret ?_)
 | (refine AW.exit ?_)
 | (refine AW.cond rfl ?_ ?_ <;> (intro hc; first | cases hc | ((try rw [hc]); (try simp only [stH] at hc); (try (exfalso; omega)))))
 | ((first
       | (refine awl_none rfl fun K hK => ?_)
       | (refine awl_nil ?_)
       | (refine awl_some rfl rfl (Nat.le_of_ble_eq_true rfl) rfl rfl ?_ ?_ <;> (intro hc; first | cases hc | ((try rw [hc]); (try simp only [stH] at hc); (try (exfalso; omega)))) <;> (try intro K hK))
       | (refine awl_skip rfl rfl (Nat.le_of_ble_eq_true rfl) rfl rfl ?_)
       | (refine awc_none rfl fun K hK => ?_)
       | (refine awc_some rfl rfl (Nat.le_of_ble_eq_true rfl) rfl rfl ?_ ?_ <;> (intro hc; first | cases hc | ((try rw [hc]); (try simp only [stH] at hc); (try (exfalso; omega)))) <;> (try intro K hK))
       | exact each_nil
       | (refine each_none rfl ?_ ?_ <;> (try intro bb K hK))
       | (refine awc_leaf [some 12, some 13, some 14, some 15, some 16, some 17, some 18, some 19, some 20, some 21, some 22, some 23, some 24, some 25, some 26, some 27, some 28, some 29, some 30, some 3] cc_record_Extents_5 rfl (by kernel_rfl) (by kernel_rfl) ?_ ?_))
    all_goals first
      | (show Awl _ _ _ _ _; simp only [St.upd, St.put, List.nil_append, List.cons_append, List.singleton_append, List.append_nil])
      | (show Awc _ _ _ _ _ _; simp only [St.upd, St.put, List.nil_append, List.cons_append, List.singleton_append, List.append_nil])
      | (show Each _ _ _ _ _ _ _ _; skip)
      | (simp (disch := omega) only [go_sem, Int.reduceEq, ↓reduceIte, reduceCtorEq, Nat.reduceEqDiff, Nat.reduceLT, Nat.reduceLeDiff, Nat.reduceAdd, Nat.reduceSub, Nat.reduceMul, Int.reduceToNat, Int.reduceLE, Int.reduceLT, E3, Sp_field_Put, Sp_field_Join, Sg3, St.updIf, ifc_nil, gt_ifc, go_ifc, ite_self, Option.none_or, Option.some_or]
         (try ((repeat' first | (refine And.intro ?_ ?_) | (intro hc; first | cases hc | ((try rw [hc]); (try simp only [stH] at hc); (try (exfalso; omega)))))
               all_goals first | (refine hK _ _ ?_; clear hK K; simp only [St.upd, St.put, List.nil_append, List.cons_append, List.singleton_append, List.append_nil]) | exact hK | omega))))
      (refine Ends.of (nm [(0, 100)]) (by first | exact .inl rfl | exact .inr rfl) ?_; simp (disch := omega) only [go_sem, Int.reduceEq, ↓reduceIte, reduceCtorEq, Nat.reduceEqDiff, Nat.reduceLT, Nat.reduceLeDiff, Nat.reduceAdd, Nat.reduceSub, Nat.reduceMul, Int.reduceToNat, Int.reduceLE, Int.reduceLT, E3, Sp_field_Put, Sp_field_Join, List.take_length])
theorem ent_record_Extents : Ent Try.prog 51 := ⟨_, Try.func51, rfl, by decide⟩
end Go.Proofs.Ytigkcigoiinkpaa.Am
