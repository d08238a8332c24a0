import Derived.Test.YtigkcigoiinkpaaZG2
set_option linter.unusedVariables false
set_option linter.unusedSimpArgs false
set_option maxRecDepth 10000
set_option maxHeartbeats 0
namespace Go.Proofs.Ytigkcigoiinkpaa.Am
open Go Go.RowKit Go.Proofs
theorem W5 (a b c d e : Int) (ws : List Int) : ([D.v (.int .i64 a), D.v (.int .i64 b), D.v (.int .i64 c), D.v (.int .i64 d), D.v (.int .i64 e)] = ws.map mI) = (ws = [a, b, c, d, e]) := by
  rw [show [D.v (.int .i64 a), D.v (.int .i64 b), D.v (.int .i64 c), D.v (.int .i64 d), D.v (.int .i64 e)] = [a, b, c, d, e].map mI from rfl, mI_inj]
  exact propext eq_comm
theorem snocE (l : List Xt) (a b c d e : Int) : l.map eD ++ [D.agg [.v (.int .i64 a), .v (.int .i64 b), .v (.int .i64 c), .v (.int .i64 d), .v (.int .i64 e)]] = (l ++ [Xt.mk a b c d e]).map eD := by simp [eD, mI]
noncomputable def G2 : Env := ⟨Try.prog, fun f ds out => (f = 69 ∧ Sp_field_Take ds out), Es, fun _ => false⟩
theorem G2_sp : ∀ f ds out, G2.Sp f ds out → Ent G2.P f ∧ Good G2.P f (fun a b => a = ds ∧ b = out) := by
  rintro f ds out ⟨rfl, h⟩
  exact ⟨ent_field_Take, good_field_Take.one h⟩
theorem G2_ok : G2.Ok := ⟨G2_sp, Es_ok⟩
def texOut (l : List Int) (n : Int) : Out := if n < 0 ∨ (l.length : Int) % 7 ≠ 0 ∨ (l.length : Int) / 7 ≠ n then ⟨.tup [.nil, .d (.v (.bool false))], []⟩
  else ⟨.tup [.sl 0 5 0 (takeE l n.toNat).length true, .d (.v (.bool true))], [(0, .row 42 5 ((takeE l n.toNat).map eD))]⟩
def Sp_record_TakeExtents (ds : List D) (out : Out) : Prop := ∃ (l : List Int) (n : Int), ds = [.list (l.map mB), .v (.int .i64 n)] ∧ Byt l ∧ l.length ≤ 1000000000000 ∧ out = texOut l n
def cc_record_TakeExtents_7 : List (List (Option Bool)) := [[some false, none, none, none, none, none, none, none, none, none, none, none, none, none, none, none, none, none, some false, none, none, some false, some false], [none, some false, some false, some false, none, none, none, none, none, none, none, none, none, none, none, none, some false, some false, some false, none, none, some false, some false], [none, some true, some false, some false, none, none, none, none, none, none, none, none, none, none, none, none, some false, some false, some false, none, none, some false, some false], [none, some true, some true, some false, none, none, none, none, none, none, none, none, none, none, none, none, some false, some false, some false, none, none, some false, some false], [none, none, none, none, some false, some false, some false, none, none, none, none, none, none, none, none, none, some false, some false, some false, none, none, some false, some false], [none, none, none, none, some true, some false, some false, none, none, none, none, none, none, none, none, none, some false, some false, some false, none, none, some false, some false], [none, none, none, none, some true, some true, some false, none, none, none, none, none, none, none, none, none, some false, some false, some false, none, none, some false, some false], [none, none, none, none, none, none, none, some false, some false, some false, none, none, none, none, none, none, some false, some false, some false, none, none, some false, some false], [none, none, none, none, none, none, none, some true, some false, some false, none, none, none, none, none, none, some false, some false, some false, none, none, some false, some false], [none, none, none, none, none, none, none, some true, some true, some false, none, none, none, none, none, none, some false, some false, some false, none, none, some false, some false], [none, none, none, none, none, none, none, none, none, none, some false, some false, some false, none, none, none, some false, some false, some false, none, none, some false, some false], [none, none, none, none, none, none, none, none, none, none, some true, some false, some false, none, none, none, some false, some false, some false, none, none, some false, some false], [none, none, none, none, none, none, none, none, none, none, some true, some true, some false, none, none, none, some false, some false, some false, none, none, some false, some false], [none, none, none, none, none, none, none, none, none, none, none, none, none, some false, some false, some false, some false, some false, some false, none, none, some false, some false], [none, none, none, none, none, none, none, none, none, none, none, none, none, some true, some false, some false, some false, some false, some false, none, none, some false, some false], [none, none, none, none, none, none, none, none, none, none, none, none, none, some true, some true, some false, some false, some false, some false, none, none, some false, some false], [none, some true, some true, some true, some true, some true, some true, some true, some true, some true, some true, some true, some true, some true, some true, some true, some false, some false, some false, none, none, some false, some false], [none, some true, some true, some true, some true, some true, some true, some true, some true, some true, some true, some true, some true, some true, some true, some true, some true, some false, some false, none, none, some false, some false], [some true, some true, some true, some true, some true, some true, some true, some true, some true, some true, some true, some true, some true, some true, some true, some true, some true, some true, some false, none, none, some false, some false], [none, none, none, none, none, none, none, none, none, none, none, none, none, none, none, none, none, none, none, some false, some false, none, some false], [none, none, none, none, none, none, none, none, none, none, none, none, none, none, none, none, none, none, none, some true, some false, none, some false], [some true, some true, some true, some true, some true, some true, some true, some true, some true, some true, some true, some true, some true, some true, some true, some true, some true, some true, some true, none, none, some false, some false], [some true, some true, some true, some true, some true, some true, some true, some true, some true, some true, some true, some true, some true, some true, some true, some true, some true, some true, some true, some true, some true, some true, some false]]
theorem good_record_TakeExtents : Good Try.prog 67 Sp_record_TakeExtents := by
  refine good_body (E := G2) (nt := 56) (rs := #[.tmp 4, .tmp 5]) Try.func67 rfl rfl rfl ?_
  rintro ds out ⟨l, n, rfl, hb, hl, rfl⟩
  refine ⟨by simp, ?_⟩
  have ht : (l.length : Int).tmod 7 = (l.length : Int) % 7 := Int.tmod_eq_emod_of_nonneg (by omega)
  have hd : (l.length : Int).tdiv 7 = (l.length : Int) / 7 := Int.tdiv_eq_ediv_of_nonneg (by omega)
  by_cases hc : n < 0 ∨ (l.length : Int) % 7 ≠ 0 ∨ (l.length : Int) / 7 ≠ n
  · rw [texOut, if_pos hc]
    repeat' first
 | (refine AW.seq ?_)
 | (refine AW.block ?_)
 | (refine AW.regl G2_ok [0, 1, 4, 5, 6, 7, 23, 24, 25, 26] ?_)
 | (refine AW.regc (id := 7) G2_ok follows [0, 0, 2, 6, 0, 16, 48, 0, 128, 384, 0, 1024, 3072, 0, 8192, 24576, 65534, 131070, 262143, 0, 524288, 524287, 4194303] (by kernel_rfl) [0, 1, 4, 5, 6, 7, 23, 24, 25, 26] ?_)
 | (refine then_n ?_)
 | (refine then_r ?_)
 | (refine then_x ?_)
 | (refine block_x ?_)
 | (refine block_o (by decide) ?_)
 | (refine block_n ?_)
 | (refine block_r ?_)
 | (refine AW.skip ?_)
 | (refine AW.ret ?_)
 | (refine AW.exit ?_)
 | (refine AW.cond rfl ?_ ?_ <;> (intro hc; first | cases hc | ((try rw [hc]); (try simp only [stH] at hc); (try (exfalso; omega)))))
 | ((first
       | (refine awl_none rfl fun K hK => ?_)
       | (refine awl_nil ?_)
       | (refine awl_some rfl rfl (Nat.le_of_ble_eq_true rfl) rfl rfl ?_ ?_ <;> (intro hc; first | cases hc | ((try rw [hc]); (try simp only [stH] at hc); (try (exfalso; omega)))) <;> (try intro K hK))
       | (refine awl_skip rfl rfl (Nat.le_of_ble_eq_true rfl) rfl rfl ?_)
       | (refine awc_none rfl fun K hK => ?_)
       | (refine awc_some rfl rfl (Nat.le_of_ble_eq_true rfl) rfl rfl ?_ ?_ <;> (intro hc; first | cases hc | ((try rw [hc]); (try simp only [stH] at hc); (try (exfalso; omega)))) <;> (try intro K hK))
       | exact each_nil
       | (refine each_none rfl ?_ ?_ <;> (try intro bb K hK))
       | (refine awc_leaf [some 33, some 34, some 35, some 36, some 37, some 38, some 39, some 40, some 41, some 42, some 43, some 44, some 45, some 46, some 47, some 48, some 49, some 50, some 51, some 52, some 53, some 6, some 0] cc_record_TakeExtents_7 rfl (by kernel_rfl) (by kernel_rfl) ?_ ?_))
    all_goals first
      | (show Awl _ _ _ _ _; simp only [St.upd, St.put, List.nil_append, List.cons_append, List.singleton_append, List.append_nil])
      | (show Awc _ _ _ _ _ _; simp only [St.upd, St.put, List.nil_append, List.cons_append, List.singleton_append, List.append_nil])
      | (show Each _ _ _ _ _ _ _ _; skip)
      | (simp (disch := omega) only [go_sem, Int.reduceEq, ↓reduceIte, reduceCtorEq, Nat.reduceEqDiff, Nat.reduceLT, Nat.reduceLeDiff, Nat.reduceAdd, Nat.reduceSub, Nat.reduceMul, Int.reduceToNat, Int.reduceLE, Int.reduceLT, G2, Sp_field_Take, ht, hd, Sg3, St.updIf, ifc_nil, gt_ifc, go_ifc, ite_self, Option.none_or, Option.some_or]
         (try ((repeat' first | (refine And.intro ?_ ?_) | (intro hc; first | cases hc | ((try rw [hc]); (try simp only [stH] at hc); (try (exfalso; omega)))))
               all_goals first | (refine hK _ _ ?_; clear hK K; simp only [St.upd, St.put, List.nil_append, List.cons_append, List.singleton_append, List.append_nil]) | exact hK | omega))))
    all_goals (refine Ends.of (nm []) (by first | exact .inl rfl | exact .inr rfl) ?_; simp (disch := omega) only [go_sem, Int.reduceEq, ↓reduceIte, reduceCtorEq, Nat.reduceEqDiff, Nat.reduceLT, Nat.reduceLeDiff, Nat.reduceAdd, Nat.reduceSub, Nat.reduceMul, Int.reduceToNat, Int.reduceLE, Int.reduceLT, G2, Sp_field_Take])
  · rw [texOut, if_neg hc]
    obtain ⟨q, rfl⟩ : ∃ q : Nat, n = q := ⟨n.toNat, by omega⟩
    rw [Int.toNat_natCast]
    repeat' first
 | (refine AW.seq ?_)
 | (refine AW.block ?_)
 | (refine AW.regl G2_ok [0, 1, 4, 5, 6, 7, 23, 24, 25, 26] ?_)
 | (refine AW.regc (id := 7) G2_ok follows [0, 0, 2, 6, 0, 16, 48, 0, 128, 384, 0, 1024, 3072, 0, 8192, 24576, 65534, 131070, 262143, 0, 524288, 524287, 4194303] (by kernel_rfl) [0, 1, 4, 5, 6, 7, 23, 24, 25, 26] ?_)
 | (refine then_n ?_)
 | (refine then_r ?_)
 | (refine then_x ?_)
 | (refine block_x ?_)
 | (refine block_o (by decide) ?_)
 | (refine block_n ?_)
 | (refine block_r ?_)
 | (refine AW.skip ?_)
 | (refine AW.ret ?_)
 | (refine AW.exit ?_)
 | (refine AW.cond rfl ?_ ?_ <;> (intro hc; first | cases hc | ((try rw [hc]); (try simp only [stH] at hc); (try (exfalso; omega)))))
 | ((first
       | (refine awl_none rfl fun K hK => ?_)
       | (refine awl_nil ?_)
       | (refine awl_some rfl rfl (Nat.le_of_ble_eq_true rfl) rfl rfl ?_ ?_ <;> (intro hc; first | cases hc | ((try rw [hc]); (try simp only [stH] at hc); (try (exfalso; omega)))) <;> (try intro K hK))
       | (refine awl_skip rfl rfl (Nat.le_of_ble_eq_true rfl) rfl rfl ?_)
       | (refine awc_none rfl fun K hK => ?_)
       | (refine awc_some rfl rfl (Nat.le_of_ble_eq_true rfl) rfl rfl ?_ ?_ <;> (intro hc; first | cases hc | ((try rw [hc]); (try simp only [stH] at hc); (try (exfalso; omega)))) <;> (try intro K hK))
       | exact each_nil
       | (refine each_none rfl ?_ ?_ <;> (try intro bb K hK))
       | (refine awc_leaf [some 33, some 34, some 35, some 36, some 37, some 38, some 39, some 40, some 41, some 42, some 43, some 44, some 45, some 46, some 47, some 48, some 49, some 50, some 51, some 52, some 53, some 6, some 0] cc_record_TakeExtents_7 rfl (by kernel_rfl) (by kernel_rfl) ?_ ?_))
    all_goals first
      | (show Awl _ _ _ _ _; simp only [St.upd, St.put, List.nil_append, List.cons_append, List.singleton_append, List.append_nil])
      | (show Awc _ _ _ _ _ _; simp only [St.upd, St.put, List.nil_append, List.cons_append, List.singleton_append, List.append_nil])
      | (show Each _ _ _ _ _ _ _ _; skip)
      | (simp (disch := omega) only [go_sem, Int.reduceEq, ↓reduceIte, reduceCtorEq, Nat.reduceEqDiff, Nat.reduceLT, Nat.reduceLeDiff, Nat.reduceAdd, Nat.reduceSub, Nat.reduceMul, Int.reduceToNat, Int.reduceLE, Int.reduceLT, G2, Sp_field_Take, ht, hd, Sg3, St.updIf, ifc_nil, gt_ifc, go_ifc, ite_self, Option.none_or, Option.some_or]
         (try ((repeat' first | (refine And.intro ?_ ?_) | (intro hc; first | cases hc | ((try rw [hc]); (try simp only [stH] at hc); (try (exfalso; omega)))))
               all_goals first | (refine hK _ _ ?_; clear hK K; simp only [St.upd, St.put, List.nil_append, List.cons_append, List.singleton_append, List.append_nil]) | exact hK | omega))))
    refine AW.loop_wk (fun p : Nat × List Int × List Xt => ⟨[(0, .d (.list (p.2.1.map mB))), (6, .sl 100 5 0 p.2.2.length true), (24, .d (.v (.int .i64 q))), (25, .d (.v (.int .i64 p.1)))], [(100, .row 42 5 (p.2.2.map eD))], 56⟩)
      (fun p => p.1 ≤ q ∧ Byt p.2.1 ∧ p.2.1.length = 7 * (q - p.1) ∧ p.2.2.length = p.1 ∧ takeE l q = p.2.2 ++ takeE p.2.1 (q - p.1)) (fun p => q - p.1) (0, l, []) ⟨by omega, hb, by dsimp only; omega, rfl, by simp⟩ (fun w0 oa a w hs => Wk.sr (ρ := nm []) (Wk.of ?_) (nil_sr 6 100 42 5 rfl (by simp) rfl (by decide) hs)) ?_
    · simp (disch := omega) only [go_sem, Int.reduceEq, ↓reduceIte, reduceCtorEq, Nat.reduceEqDiff, Nat.reduceLT, Nat.reduceLeDiff, Nat.reduceAdd, Nat.reduceSub, Nat.reduceMul, Int.reduceToNat, Int.reduceLE, Int.reduceLT, G2, Sp_field_Take]
    · rintro ⟨k, m, r⟩ ⟨hk, hm, hml, hr, hv⟩
      simp only at hk hm hml hr hv
      by_cases hk1 : k < q
      · have hg : takeOut m [2, 2, 1, 1, 1] = ⟨.tup [.sl 0 1 0 5 true, .d (.v (.bool true))], [(0, .row 3 1 [.v (.int .i64 (leV (m.take 2))), .v (.int .i64 (leV ((m.drop 2).take 2))), .v (.int .i64 (leV ((m.drop 4).take 1))), .v (.int .i64 (leV ((m.drop 5).take 1))), .v (.int .i64 (leV ((m.drop 6).take 1)))])]⟩ := by
          rw [takeOut, takeL_five (by omega)]; rfl
        have hmt : Byt m = True := by simp only [eq_iff_iff, iff_true]; exact hm
        have e1 : q - k = (q - (k + 1)) + 1 := by omega
        rw [e1, takeE] at hv
        repeat' first
 | (refine AW.seq ?_)
 | (refine AW.block ?_)
 | (refine AW.regl G2_ok [0, 1, 4, 5, 6, 7, 23, 24, 25, 26] ?_)
 | (refine AW.regc (id := 7) G2_ok follows [0, 0, 2, 6, 0, 16, 48, 0, 128, 384, 0, 1024, 3072, 0, 8192, 24576, 65534, 131070, 262143, 0, 524288, 524287, 4194303] (by kernel_rfl) [0, 1, 4, 5, 6, 7, 23, 24, 25, 26] ?_)
 | (refine then_n ?_)
 | (refine then_r ?_)
 | (refine then_x ?_)
 | (refine block_x ?_)
 | (refine block_o (by decide) ?_)
 | (refine block_n ?_)
 | (refine block_r ?_)
 | (refine AW.skip ?_)
 | (refine AW.ret ?_)
 | (refine AW.exit ?_)
 | (refine AW.cond rfl ?_ ?_ <;> (intro hc; first | cases hc | ((try rw [hc]); (try simp only [stH] at hc); (try (exfalso; omega)))))
 | ((first
       | (refine awl_none rfl fun K hK => ?_)
       | (refine awl_nil ?_)
       | (refine awl_some rfl rfl (Nat.le_of_ble_eq_true rfl) rfl rfl ?_ ?_ <;> (intro hc; first | cases hc | ((try rw [hc]); (try simp only [stH] at hc); (try (exfalso; omega)))) <;> (try intro K hK))
       | (refine awl_skip rfl rfl (Nat.le_of_ble_eq_true rfl) rfl rfl ?_)
       | (refine awc_none rfl fun K hK => ?_)
       | (refine awc_some rfl rfl (Nat.le_of_ble_eq_true rfl) rfl rfl ?_ ?_ <;> (intro hc; first | cases hc | ((try rw [hc]); (try simp only [stH] at hc); (try (exfalso; omega)))) <;> (try intro K hK))
       | exact each_nil
       | (refine each_none rfl ?_ ?_ <;> (try intro bb K hK))
       | (refine awc_leaf [some 33, some 34, some 35, some 36, some 37, some 38, some 39, some 40, some 41, some 42, some 43, some 44, some 45, some 46, some 47, some 48, some 49, some 50, some 51, some 52, some 53, some 6, some 0] cc_record_TakeExtents_7 rfl (by kernel_rfl) (by kernel_rfl) ?_ ?_))
    all_goals first
      | (show Awl _ _ _ _ _; simp only [St.upd, St.put, List.nil_append, List.cons_append, List.singleton_append, List.append_nil])
      | (show Awc _ _ _ _ _ _; simp only [St.upd, St.put, List.nil_append, List.cons_append, List.singleton_append, List.append_nil])
      | (show Each _ _ _ _ _ _ _ _; skip)
      | (simp (disch := omega) only [go_sem, Int.reduceEq, ↓reduceIte, reduceCtorEq, Nat.reduceEqDiff, Nat.reduceLT, Nat.reduceLeDiff, Nat.reduceAdd, Nat.reduceSub, Nat.reduceMul, Int.reduceToNat, Int.reduceLE, Int.reduceLT, G2, Sp_field_Take, ht, hd, hg, hmt, W5, nth, List.getD_cons_zero, List.getD_cons_succ, snocE, take_mB, drop_mB, List.take_length, all_B, Sg3, St.updIf, ifc_nil, gt_ifc, go_ifc, ite_self, Option.none_or, Option.some_or]
         (try ((repeat' first | (refine And.intro ?_ ?_) | (intro hc; first | cases hc | ((try rw [hc]); (try simp only [stH] at hc); (try (exfalso; omega)))))
               all_goals first | (refine hK _ _ ?_; clear hK K; simp only [St.upd, St.put, List.nil_append, List.cons_append, List.singleton_append, List.append_nil]) | exact hK | omega))))
        have hm7 : (m.drop 7).length = 7 * (q - (k + 1)) := by rw [List.length_drop]; omega
        have hrl : (r ++ [Xt.mk (leV (m.take 2)) (leV ((m.drop 2).take 2)) (leV ((m.drop 4).take 1)) (leV ((m.drop 5).take 1)) (leV ((m.drop 6).take 1))]).length = k + 1 := by simp [hr]
        refine ⟨(k + 1, m.drop 7, r ++ [Xt.mk (leV (m.take 2)) (leV ((m.drop 2).take 2)) (leV ((m.drop 4).take 1)) (leV ((m.drop 5).take 1)) (leV ((m.drop 6).take 1))]), by dsimp only; omega, byt_drop hm _, hm7, hrl, ?_, by dsimp only; omega, nm [(100, 51)], Wk.of ?_⟩
        · dsimp only
          rw [hv, List.append_assoc]
          rfl
        · simp (disch := omega) only [go_sem, Int.reduceEq, ↓reduceIte, reduceCtorEq, Nat.reduceEqDiff, Nat.reduceLT, Nat.reduceLeDiff, Nat.reduceAdd, Nat.reduceSub, Nat.reduceMul, Int.reduceToNat, Int.reduceLE, Int.reduceLT, G2, Sp_field_Take]
          rfl
      · obtain rfl : k = q := by omega
        have hz : takeE l k = r := by rw [hv, Nat.sub_self, takeE, List.append_nil]
        repeat' first
 | (refine AW.seq ?_)
 | (refine AW.block ?_)
 | (refine AW.regl G2_ok [0, 1, 4, 5, 6, 7, 23, 24, 25, 26] ?_)
 | (refine AW.regc (id := 7) G2_ok follows [0, 0, 2, 6, 0, 16, 48, 0, 128, 384, 0, 1024, 3072, 0, 8192, 24576, 65534, 131070, 262143, 0, 524288, 524287, 4194303] (by kernel_rfl) [0, 1, 4, 5, 6, 7, 23, 24, 25, 26] ?_)
 | (refine then_n ?_)
 | (refine then_r ?_)
 | (refine then_x ?_)
 | (refine block_x ?_)
 | (refine block_o (by decide) ?_)
 | (refine block_n ?_)
 | (refine block_r ?_)
 | (refine AW.skip ?_)
 | (refine AW.ret ?_)
 | (refine AW.exit ?_)
 | (refine AW.cond rfl ?_ ?_ <;> (intro hc; first | cases hc | ((try rw [hc]); (try simp only [stH] at hc); (try (exfalso; omega)))))
 | ((first
       | (refine awl_none rfl fun K hK => ?_)
       | (refine awl_nil ?_)
       | (refine awl_some rfl rfl (Nat.le_of_ble_eq_true rfl) rfl rfl ?_ ?_ <;> (intro hc; first | cases hc | ((try rw [hc]); (try simp only [stH] at hc); (try (exfalso; omega)))) <;> (try intro K hK))
       | (refine awl_skip rfl rfl (Nat.le_of_ble_eq_true rfl) rfl rfl ?_)
       | (refine awc_none rfl fun K hK => ?_)
       | (refine awc_some rfl rfl (Nat.le_of_ble_eq_true rfl) rfl rfl ?_ ?_ <;> (intro hc; first | cases hc | ((try rw [hc]); (try simp only [stH] at hc); (try (exfalso; omega)))) <;> (try intro K hK))
       | exact each_nil
       | (refine each_none rfl ?_ ?_ <;> (try intro bb K hK))
       | (refine awc_leaf [some 33, some 34, some 35, some 36, some 37, some 38, some 39, some 40, some 41, some 42, some 43, some 44, some 45, some 46, some 47, some 48, some 49, some 50, some 51, some 52, some 53, some 6, some 0] cc_record_TakeExtents_7 rfl (by kernel_rfl) (by kernel_rfl) ?_ ?_))
    all_goals first
      | (show Awl _ _ _ _ _; simp only [St.upd, St.put, List.nil_append, List.cons_append, List.singleton_append, List.append_nil])
      | (show Awc _ _ _ _ _ _; simp only [St.upd, St.put, List.nil_append, List.cons_append, List.singleton_append, List.append_nil])
      | (show Each _ _ _ _ _ _ _ _; skip)
      | (simp (disch := omega) only [go_sem, Int.reduceEq, ↓reduceIte, reduceCtorEq, Nat.reduceEqDiff, Nat.reduceLT, Nat.reduceLeDiff, Nat.reduceAdd, Nat.reduceSub, Nat.reduceMul, Int.reduceToNat, Int.reduceLE, Int.reduceLT, G2, Sp_field_Take, Sg3, St.updIf, ifc_nil, gt_ifc, go_ifc, ite_self, Option.none_or, Option.some_or]
         (try ((repeat' first | (refine And.intro ?_ ?_) | (intro hc; first | cases hc | ((try rw [hc]); (try simp only [stH] at hc); (try (exfalso; omega)))))
               all_goals first | (refine hK _ _ ?_; clear hK K; simp only [St.upd, St.put, List.nil_append, List.cons_append, List.singleton_append, List.append_nil]) | exact hK | omega))))
        all_goals (refine Ends.of (nm [(0, 100)]) (by first | exact .inl rfl | exact .inr rfl) ?_; simp (disch := omega) only [go_sem, Int.reduceEq, ↓reduceIte, reduceCtorEq, Nat.reduceEqDiff, Nat.reduceLT, Nat.reduceLeDiff, Nat.reduceAdd, Nat.reduceSub, Nat.reduceMul, Int.reduceToNat, Int.reduceLE, Int.reduceLT, G2, Sp_field_Take, hz])
theorem ent_record_TakeExtents : Ent Try.prog 67 := ⟨_, Try.func67, rfl, by decide⟩
end Go.Proofs.Ytigkcigoiinkpaa.Am
