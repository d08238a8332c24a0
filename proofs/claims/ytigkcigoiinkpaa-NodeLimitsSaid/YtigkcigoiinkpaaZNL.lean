import Derived.Test.YtigkcigoiinkpaaZNK
set_option linter.unusedVariables false
set_option linter.unusedSimpArgs false
set_option maxRecDepth 10000
set_option maxHeartbeats 0
namespace Go.Proofs.Ytigkcigoiinkpaa.Am
open Go Go.RowKit Go.Proofs
noncomputable def QL : Env := ⟨Try.prog, fun f ds out => (f = 20 ∧ Sp_overdubkeep_Within ds out) ∨ (f = 21 ∧ Sp_node_PackNode ds out) ∨ (f = 13 ∧ Sp_node_PackDir ds out) ∨ (f = 22 ∧ Sp_node_PackRoot ds out) ∨ (f = 17 ∧ Sp_overdublaw20_wakes ds out), Es, fun _ => false⟩
theorem QL_sp : ∀ f ds out, QL.Sp f ds out → Ent QL.P f ∧ Good QL.P f (fun a b => a = ds ∧ b = out) := by
  rintro f ds out (⟨rfl, h⟩ | ⟨rfl, h⟩ | ⟨rfl, h⟩ | ⟨rfl, h⟩ | ⟨rfl, h⟩)
  · exact ⟨ent_overdubkeep_Within, good_overdubkeep_Within.one h⟩
  · exact ⟨ent_node_PackNode, good_node_PackNode.one h⟩
  · exact ⟨ent_node_PackDir, good_node_PackDir.one h⟩
  · exact ⟨ent_node_PackRoot, good_node_PackRoot.one h⟩
  · exact ⟨ent_overdublaw20_wakes, good_overdublaw20_wakes.one h⟩
theorem QL_ok : QL.Ok := ⟨QL_sp, Es_ok⟩
theorem within_rngn {v n : Int} (hn : 1 ≤ n) : 0 ≤ within v n ∧ within v n < n := by
  unfold within
  rw [if_neg (by omega)]
  have h1 := Int.tmod_lt_of_pos v (show 0 < n by omega)
  have h2 := Int.lt_tmod_of_pos v (show 0 < n by omega)
  split <;> omega
def pk (k : Nat) : List Pa := (List.range k).map fun i : Nat => (⟨(i : Int), 1 + (i : Int)⟩ : Pa)
theorem pk_succ (k : Nat) : pk (k + 1) = pk k ++ [⟨k, 1 + k⟩] := by unfold pk; rw [List.range_succ, List.map_append]; rfl
theorem pk_len (k : Nat) : (pk k).length = k := by simp [pk]
def zs (k : Nat) : List Ln := (List.range k).map fun i : Nat => (⟨3 + (i : Int), 0, 0⟩ : Ln)
theorem zs_succ (k : Nat) : zs (k + 1) = zs k ++ [⟨3 + k, 0, 0⟩] := by unfold zs; rw [List.range_succ, List.map_append]; rfl
theorem zs_len (k : Nat) : (zs k).length = k := by simp [zs]
def pk8 : List Pa := [⟨0, 1⟩, ⟨1, 2⟩, ⟨2, 3⟩, ⟨3, 4⟩, ⟨4, 5⟩, ⟨5, 6⟩, ⟨6, 7⟩, ⟨7, 8⟩]
def dl2 : List Ln := [⟨1, 5, 7⟩, ⟨2, 0, 0⟩]
theorem may_pk8 : mayN pk8 := by
  refine ⟨by decide, by decide, fun i hi => ?_⟩
  have hi8 : i < 8 := hi
  rcases (show i = 0 ∨ i = 1 ∨ i = 2 ∨ i = 3 ∨ i = 4 ∨ i = 5 ∨ i = 6 ∨ i = 7 by omega) with rfl | rfl | rfl | rfl | rfl | rfl | rfl | rfl <;> (unfold okP secN; decide)
theorem may_dl2 : mayD dl2 := by
  refine ⟨by decide, fun i hi => ?_⟩
  have hi8 : i < 2 := hi
  rcases (show i = 0 ∨ i = 1 by omega) with rfl | rfl <;> (unfold okL secN; decide)
def stM (by' : Int) (o : Option (List Pa)) (dl : List Ln) : St := ⟨[(1, .d (.v (.int .i64 by'))), (4, .d (.v (.bool false))), (5, match o with | some p => .sl 100 2 0 p.length true | none => .nil), (7, .sl 101 3 0 dl.length true)], (match o with | some p => [(100, .row 47 2 (p.map pD))] | none => []) ++ [(101, .row 36 3 (dl.map lD))], 191⟩
def Sp_overdublaw20_NodeLimits (ds : List D) (out : Out) : Prop := ∃ (wh by' : Int), ds = [.v (.int .i64 wh), .v (.int .i64 by')] ∧ out = ⟨.d (.v (.bool true)), []⟩
theorem good_overdublaw20_NodeLimits : Good Try.prog 4 Sp_overdublaw20_NodeLimits := by
  refine good_body (E := QL) (nt := 191) (rs := #[.tmp 4]) Try.func4 rfl rfl rfl ?_
  rintro ds out ⟨wh, by', rfl, rfl⟩
  refine ⟨by simp, ?_⟩
  have wb := within_rngn (v := by') (n := 30) (by omega)
  have ww := within_rngn (v := wh) (n := 8) (by omega)
  refine AW.m4 ⟨[(0, .d (.v (.int .i64 wh))), (1, .d (.v (.int .i64 (within by' 30)))), (4, .d (.v (.bool false))), (5, .sl 100 2 0 8 true)], [(100, .row 47 2 (pk8.map pD))], 191⟩ ?_ ?_
  · repeat' first
 | (refine AW.seq ?_)
 | (refine AW.block ?_)
 | (refine AW.regl QL_ok [0, 1, 4, 5, 6, 7, 9, 11, 12, 13, 14, 15, 16, 18, 20, 22, 26, 45, 52, 54, 63, 72, 81, 89, 97, 109, 121, 128] ?_)
 | (refine then_n ?_)
 | (refine then_r ?_)
 | (refine then_x ?_)
 | (refine block_x ?_)
 | (refine block_o (by decide) ?_)
 | (refine block_n ?_)
 | (refine block_r ?_)
 | (refine AW.skip ?_)
 | (refine AW.ret ?_)
 | (refine AW.exit ?_)
 | (refine AW.cond rfl ?_ ?_ <;> (intro hc; first | cases hc | ((try rw [hc]); (try simp only [stH] at hc); (try (exfalso; omega)))))
 | ((first
       | (refine awl_none rfl fun K hK => ?_)
       | (refine awl_nil ?_)
       | (refine awl_some rfl rfl (Nat.le_of_ble_eq_true rfl) rfl rfl ?_ ?_ <;> (intro hc; first | cases hc | ((try rw [hc]); (try simp only [stH] at hc); (try (exfalso; omega)))) <;> (try intro K hK))
       | (refine awl_skip rfl rfl (Nat.le_of_ble_eq_true rfl) rfl rfl ?_))
    all_goals first
      | (show Awl _ _ _ _ _; simp only [St.upd, St.put, List.nil_append, List.cons_append, List.singleton_append, List.append_nil])
      | (simp (disch := omega) only [go_sem, Int.reduceEq, ↓reduceIte, reduceCtorEq, Nat.reduceEqDiff, Nat.reduceLT, Nat.reduceLeDiff, Nat.reduceAdd, Nat.reduceSub, Nat.reduceMul, Int.reduceToNat, Int.reduceLE, Int.reduceLT, QL, Sp_overdubkeep_Within, Sp_node_PackNode, Sp_node_PackDir, Sp_node_PackRoot, Sp_overdublaw20_wakes]
         (try ((repeat' first | (refine And.intro ?_ ?_) | (intro hc; first | cases hc | ((try rw [hc]); (try simp only [stH] at hc); (try (exfalso; omega)))))
               all_goals first | (refine hK _ _ ?_; clear hK K; simp only [St.upd, St.put, List.nil_append, List.cons_append, List.singleton_append, List.append_nil]) | exact hK | omega))))
    refine AW.loop_wk (fun k : Nat => ⟨[(0, .d (.v (.int .i64 wh))), (1, .d (.v (.int .i64 (within by' 30)))), (4, .d (.v (.bool false))), (5, .sl 100 2 0 k true), (6, .d (.v (.int .i64 k)))], [(100, .row 47 2 ((pk k).map pD))], 191⟩)
      (fun k => k ≤ 8) (fun k => 8 - k) 0 (by omega) (fun w0 oa a w hs => Wk.sr (ρ := nm []) (Wk.of ?_) (nil_sr 5 100 47 2 rfl (by simp) rfl (by decide) hs)) ?_
    · simp (disch := omega) only [go_sem, Int.reduceEq, ↓reduceIte, reduceCtorEq, Nat.reduceEqDiff, Nat.reduceLT, Nat.reduceLeDiff, Nat.reduceAdd, Nat.reduceSub, Nat.reduceMul, Int.reduceToNat, Int.reduceLE, Int.reduceLT, QL, Sp_overdubkeep_Within, Sp_node_PackNode, Sp_node_PackDir, Sp_node_PackRoot, Sp_overdublaw20_wakes]
      all_goals first | done | rfl | exact ⟨rfl, rfl⟩
    · intro k hk
      by_cases hk8 : k < 8
      · have hs := pk_succ k
        have hl := pk_len k
        have hsn : (pk k).map pD ++ [D.agg [.v (.int .i64 k), .v (.int .i64 (1 + k))]] = (pk k ++ [Pa.mk k (1 + k)]).map pD := by rw [List.map_append]; rfl
        repeat' first
 | (refine AW.seq ?_)
 | (refine AW.block ?_)
 | (refine AW.regl QL_ok [0, 1, 4, 5, 6, 7, 9, 11, 12, 13, 14, 15, 16, 18, 20, 22, 26, 45, 52, 54, 63, 72, 81, 89, 97, 109, 121, 128] ?_)
 | (refine then_n ?_)
 | (refine then_r ?_)
 | (refine then_x ?_)
 | (refine block_x ?_)
 | (refine block_o (by decide) ?_)
 | (refine block_n ?_)
 | (refine block_r ?_)
 | (refine AW.skip ?_)
 | (refine AW.ret ?_)
 | (refine AW.exit ?_)
 | (refine AW.cond rfl ?_ ?_ <;> (intro hc; first | cases hc | ((try rw [hc]); (try simp only [stH] at hc); (try (exfalso; omega)))))
 | ((first
       | (refine awl_none rfl fun K hK => ?_)
       | (refine awl_nil ?_)
       | (refine awl_some rfl rfl (Nat.le_of_ble_eq_true rfl) rfl rfl ?_ ?_ <;> (intro hc; first | cases hc | ((try rw [hc]); (try simp only [stH] at hc); (try (exfalso; omega)))) <;> (try intro K hK))
       | (refine awl_skip rfl rfl (Nat.le_of_ble_eq_true rfl) rfl rfl ?_))
    all_goals first
      | (show Awl _ _ _ _ _; simp only [St.upd, St.put, List.nil_append, List.cons_append, List.singleton_append, List.append_nil])
      | (simp (disch := omega) only [go_sem, Int.reduceEq, ↓reduceIte, reduceCtorEq, Nat.reduceEqDiff, Nat.reduceLT, Nat.reduceLeDiff, Nat.reduceAdd, Nat.reduceSub, Nat.reduceMul, Int.reduceToNat, Int.reduceLE, Int.reduceLT, QL, Sp_overdubkeep_Within, Sp_node_PackNode, Sp_node_PackDir, Sp_node_PackRoot, Sp_overdublaw20_wakes, hl, hsn]
         (try ((repeat' first | (refine And.intro ?_ ?_) | (intro hc; first | cases hc | ((try rw [hc]); (try simp only [stH] at hc); (try (exfalso; omega)))))
               all_goals first | (refine hK _ _ ?_; clear hK K; simp only [St.upd, St.put, List.nil_append, List.cons_append, List.singleton_append, List.append_nil]) | exact hK | omega))))
        refine ⟨k + 1, by omega, by omega, nm [(100, 35)], Wk.of ?_⟩
        simp (disch := omega) only [go_sem, Int.reduceEq, ↓reduceIte, reduceCtorEq, Nat.reduceEqDiff, Nat.reduceLT, Nat.reduceLeDiff, Nat.reduceAdd, Nat.reduceSub, Nat.reduceMul, Int.reduceToNat, Int.reduceLE, Int.reduceLT, QL, Sp_overdubkeep_Within, Sp_node_PackNode, Sp_node_PackDir, Sp_node_PackRoot, Sp_overdublaw20_wakes, hs, hsn]
        all_goals first | done | rfl | exact ⟨rfl, rfl⟩
      · obtain rfl : k = 8 := by omega
        repeat' first
 | (refine AW.seq ?_)
 | (refine AW.block ?_)
 | (refine AW.regl QL_ok [0, 1, 4, 5, 6, 7, 9, 11, 12, 13, 14, 15, 16, 18, 20, 22, 26, 45, 52, 54, 63, 72, 81, 89, 97, 109, 121, 128] ?_)
 | (refine then_n ?_)
 | (refine then_r ?_)
 | (refine then_x ?_)
 | (refine block_x ?_)
 | (refine block_o (by decide) ?_)
 | (refine block_n ?_)
 | (refine block_r ?_)
 | (refine AW.skip ?_)
 | (refine AW.ret ?_)
 | (refine AW.exit ?_)
 | (refine AW.cond rfl ?_ ?_ <;> (intro hc; first | cases hc | ((try rw [hc]); (try simp only [stH] at hc); (try (exfalso; omega)))))
 | ((first
       | (refine awl_none rfl fun K hK => ?_)
       | (refine awl_nil ?_)
       | (refine awl_some rfl rfl (Nat.le_of_ble_eq_true rfl) rfl rfl ?_ ?_ <;> (intro hc; first | cases hc | ((try rw [hc]); (try simp only [stH] at hc); (try (exfalso; omega)))) <;> (try intro K hK))
       | (refine awl_skip rfl rfl (Nat.le_of_ble_eq_true rfl) rfl rfl ?_))
    all_goals first
      | (show Awl _ _ _ _ _; simp only [St.upd, St.put, List.nil_append, List.cons_append, List.singleton_append, List.append_nil])
      | (simp (disch := omega) only [go_sem, Int.reduceEq, ↓reduceIte, reduceCtorEq, Nat.reduceEqDiff, Nat.reduceLT, Nat.reduceLeDiff, Nat.reduceAdd, Nat.reduceSub, Nat.reduceMul, Int.reduceToNat, Int.reduceLE, Int.reduceLT, QL, Sp_overdubkeep_Within, Sp_node_PackNode, Sp_node_PackDir, Sp_node_PackRoot, Sp_overdublaw20_wakes]
         (try ((repeat' first | (refine And.intro ?_ ?_) | (intro hc; first | cases hc | ((try rw [hc]); (try simp only [stH] at hc); (try (exfalso; omega)))))
               all_goals first | (refine hK _ _ ?_; clear hK K; simp only [St.upd, St.put, List.nil_append, List.cons_append, List.singleton_append, List.append_nil]) | exact hK | omega))))
        refine ⟨nm [], Wk.of ?_⟩
        simp (disch := omega) only [go_sem, Int.reduceEq, ↓reduceIte, reduceCtorEq, Nat.reduceEqDiff, Nat.reduceLT, Nat.reduceLeDiff, Nat.reduceAdd, Nat.reduceSub, Nat.reduceMul, Int.reduceToNat, Int.reduceLE, Int.reduceLT, QL, Sp_overdubkeep_Within, Sp_node_PackNode, Sp_node_PackDir, Sp_node_PackRoot, Sp_overdublaw20_wakes]
        all_goals first | done | rfl | exact ⟨rfl, rfl⟩
  generalize within by' 30 = y at *
  have hy8 : packNOut pk8 = ⟨.tup [.sl 0 1 0 128 true, .d (.v (.bool true))], [(0, .row 5 1 ((nodP 2 pk8.length (psB pk8)).map mB))]⟩ := if_pos may_pk8
  have hy2 : packDOut dl2 = ⟨.tup [.sl 0 1 0 128 true, .d (.v (.bool true))], [(0, .row 5 1 ((nodP 3 dl2.length (lsB dl2)).map mB))]⟩ := if_pos may_dl2
  obtain ⟨u8, hu8⟩ : ∃ u, nodP 2 pk8.length (psB pk8) = u := ⟨_, rfl⟩
  obtain ⟨u2, hu2⟩ : ∃ u, nodP 3 dl2.length (lsB dl2) = u := ⟨_, rfl⟩
  rw [hu8] at hy8
  rw [hu2] at hy2
  clear hu8 hu2
  have hl8 : pk8.length = 8 := rfl
  have hl2 : dl2.length = 2 := rfl
  have ht8 : (pk8.map pD).take 8 = pk8.map pD := rfl
  have ht2 : (dl2.map lD).take 2 = dl2.map lD := rfl
  have hd2 : ∀ m : List Ln, ([D.agg [.v (.int .i64 1), .v (.int .i64 5), .v (.int .i64 7)], D.agg [.v (.int .i64 2), .v (.int .i64 0), .v (.int .i64 0)]] = m.map lD) = (m = dl2) := fun m => by
    rw [show [D.agg [.v (.int .i64 1), .v (.int .i64 5), .v (.int .i64 7)], D.agg [.v (.int .i64 2), .v (.int .i64 0), .v (.int .i64 0)]] = dl2.map lD from rfl, lD_inj]
    exact propext eq_comm
  refine AW.m3 ⟨[(0, .d (.v (.int .i64 wh))), (1, .d (.v (.int .i64 y))), (4, .d (.v (.bool false))), (5, .sl 100 2 0 8 true), (7, .sl 101 3 0 2 true)], [(100, .row 47 2 (pk8.map pD)), (101, .row 36 3 (dl2.map lD))], 191⟩ ?_ ?_
  · repeat' first
 | (refine AW.seq ?_)
 | (refine AW.block ?_)
 | (refine AW.regl QL_ok [0, 1, 4, 5, 6, 7, 9, 11, 12, 13, 14, 15, 16, 18, 20, 22, 26, 45, 52, 54, 63, 72, 81, 89, 97, 109, 121, 128] ?_)
 | (refine then_n ?_)
 | (refine then_r ?_)
 | (refine then_x ?_)
 | (refine block_x ?_)
 | (refine block_o (by decide) ?_)
 | (refine block_n ?_)
 | (refine block_r ?_)
 | (refine AW.skip ?_)
 | (refine AW.ret ?_)
 | (refine AW.exit ?_)
 | (refine AW.cond rfl ?_ ?_ <;> (intro hc; first | cases hc | ((try rw [hc]); (try simp only [stH] at hc); (try (exfalso; omega)))))
 | ((first
       | (refine awl_none rfl fun K hK => ?_)
       | (refine awl_nil ?_)
       | (refine awl_some rfl rfl (Nat.le_of_ble_eq_true rfl) rfl rfl ?_ ?_ <;> (intro hc; first | cases hc | ((try rw [hc]); (try simp only [stH] at hc); (try (exfalso; omega)))) <;> (try intro K hK))
       | (refine awl_skip rfl rfl (Nat.le_of_ble_eq_true rfl) rfl rfl ?_))
    all_goals first
      | (show Awl _ _ _ _ _; simp only [St.upd, St.put, List.nil_append, List.cons_append, List.singleton_append, List.append_nil])
      | (simp (disch := omega) only [go_sem, Int.reduceEq, ↓reduceIte, reduceCtorEq, Nat.reduceEqDiff, Nat.reduceLT, Nat.reduceLeDiff, Nat.reduceAdd, Nat.reduceSub, Nat.reduceMul, Int.reduceToNat, Int.reduceLE, Int.reduceLT, QL, Sp_overdubkeep_Within, Sp_node_PackNode, Sp_node_PackDir, Sp_node_PackRoot, Sp_overdublaw20_wakes, hy8, hy2, ht8, ht2, hd2, hl8, hl2, pD_inj, lD_inj]
         (try ((repeat' first | (refine And.intro ?_ ?_) | (intro hc; first | cases hc | ((try rw [hc]); (try simp only [stH] at hc); (try (exfalso; omega)))))
               all_goals first | (refine hK _ _ ?_; clear hK K; simp only [St.upd, St.put, List.nil_append, List.cons_append, List.singleton_append, List.append_nil]) | exact hK | omega))))
    refine ⟨nm [(101, 38)], Wk.of ?_⟩
    simp (disch := omega) only [go_sem, Int.reduceEq, ↓reduceIte, reduceCtorEq, Nat.reduceEqDiff, Nat.reduceLT, Nat.reduceLeDiff, Nat.reduceAdd, Nat.reduceSub, Nat.reduceMul, Int.reduceToNat, Int.reduceLE, Int.reduceLT, QL, Sp_overdubkeep_Within, Sp_node_PackNode, Sp_node_PackDir, Sp_node_PackRoot, Sp_overdublaw20_wakes]
    all_goals first | done | rfl | exact ⟨rfl, rfl⟩
  clear hy8 hy2 ht8 ht2 hd2
  refine AW.mx1 (fun q : Option (List Pa) × List Ln => stM y q.1 q.2) (fun q => (∀ p, q.1 = some p → ¬ mayN p ∧ p.length ≤ 1000) ∧ (¬ mayD q.2 ∧ q.2.length ≤ 1000)) ?_ ?_
  · have hpk : pk8.map pD = [D.agg [.v (.int .i64 0), .v (.int .i64 1)], D.agg [.v (.int .i64 1), .v (.int .i64 2)], D.agg [.v (.int .i64 2), .v (.int .i64 3)], D.agg [.v (.int .i64 3), .v (.int .i64 4)], D.agg [.v (.int .i64 4), .v (.int .i64 5)], D.agg [.v (.int .i64 5), .v (.int .i64 6)], D.agg [.v (.int .i64 6), .v (.int .i64 7)], D.agg [.v (.int .i64 7), .v (.int .i64 8)]] := rfl
    have hdl : dl2.map lD = [D.agg [.v (.int .i64 1), .v (.int .i64 5), .v (.int .i64 7)], D.agg [.v (.int .i64 2), .v (.int .i64 0), .v (.int .i64 0)]] := rfl
    rw [hpk, hdl]
    have nP : ∀ (l : List Pa) (i : Nat), i < l.length → ¬ okP l i → ¬ mayN l := fun l i h1 h2 h => h2 (h.2.2 i h1)
    have nL : ∀ (l : List Ln) (i : Nat), i < l.length → ¬ okL l i → ¬ mayD l := fun l i h1 h2 h => h2 (h.2 i h1)
    have c8 : within wh 8 = 0 ∨ within wh 8 = 1 ∨ within wh 8 = 2 ∨ within wh 8 = 3 ∨ within wh 8 = 4 ∨ within wh 8 = 5 ∨ within wh 8 = 6 ∨ within wh 8 = 7 := by omega
    clear ww
    rcases c8 with hw | hw | hw | hw | hw | hw | hw | hw
    · have hQ : (∀ p, (some (pk8 ++ [⟨99, 1⟩]) : Option (List Pa)) = some p → ¬ mayN p ∧ p.length ≤ 1000) := fun p hp => by
        cases hp; exact ⟨fun h => by have := h.2.1; simp [pk8] at this, by simp [pk8]⟩
      have hD : ¬ mayD ([⟨1, 0, 7⟩, ⟨2, 0, 0⟩]) := nL _ 0 (by simp) (by unfold okL secN; simp; try omega)
      repeat' first
 | (refine AW.seq ?_)
 | (refine AW.block ?_)
 | (refine AW.regl QL_ok [0, 1, 4, 5, 6, 7, 9, 11, 12, 13, 14, 15, 16, 18, 20, 22, 26, 45, 52, 54, 63, 72, 81, 89, 97, 109, 121, 128] ?_)
 | (refine then_n ?_)
 | (refine then_r ?_)
 | (refine then_x ?_)
 | (refine block_x ?_)
 | (refine block_o (by decide) ?_)
 | (refine block_n ?_)
 | (refine block_r ?_)
 | (refine AW.skip ?_)
 | (refine AW.ret ?_)
 | (refine AW.exit ?_)
 | (refine AW.cond rfl ?_ ?_ <;> (intro hc; first | cases hc | ((try rw [hc]); (try simp only [stH] at hc); (try (exfalso; omega)))))
 | ((first
       | (refine awl_none rfl fun K hK => ?_)
       | (refine awl_nil ?_)
       | (refine awl_some rfl rfl (Nat.le_of_ble_eq_true rfl) rfl rfl ?_ ?_ <;> (intro hc; first | cases hc | ((try rw [hc]); (try simp only [stH] at hc); (try (exfalso; omega)))) <;> (try intro K hK))
       | (refine awl_skip rfl rfl (Nat.le_of_ble_eq_true rfl) rfl rfl ?_))
    all_goals first
      | (show Awl _ _ _ _ _; simp only [St.upd, St.put, List.nil_append, List.cons_append, List.singleton_append, List.append_nil])
      | (simp (disch := omega) only [go_sem, Int.reduceEq, ↓reduceIte, reduceCtorEq, Nat.reduceEqDiff, Nat.reduceLT, Nat.reduceLeDiff, Nat.reduceAdd, Nat.reduceSub, Nat.reduceMul, Int.reduceToNat, Int.reduceLE, Int.reduceLT, QL, Sp_overdubkeep_Within, Sp_node_PackNode, Sp_node_PackDir, Sp_node_PackRoot, Sp_overdublaw20_wakes, hw, List.set_cons_zero, List.set_cons_succ, nth, List.getD_cons_zero, List.getD_cons_succ]
         (try ((repeat' first | (refine And.intro ?_ ?_) | (intro hc; first | cases hc | ((try rw [hc]); (try simp only [stH] at hc); (try (exfalso; omega)))))
               all_goals first | (refine hK _ _ ?_; clear hK K; simp only [St.upd, St.put, List.nil_append, List.cons_append, List.singleton_append, List.append_nil]) | exact hK | omega))))
      refine ⟨(some (pk8 ++ [⟨99, 1⟩]), [⟨1, 0, 7⟩, ⟨2, 0, 0⟩]), ⟨hQ, hD, by simp⟩, nm [(100, 77), (101, 101)], Wk.of ?_⟩
      simp (disch := omega) only [go_sem, Int.reduceEq, ↓reduceIte, reduceCtorEq, Nat.reduceEqDiff, Nat.reduceLT, Nat.reduceLeDiff, Nat.reduceAdd, Nat.reduceSub, Nat.reduceMul, Int.reduceToNat, Int.reduceLE, Int.reduceLT, QL, Sp_overdubkeep_Within, Sp_node_PackNode, Sp_node_PackDir, Sp_node_PackRoot, Sp_overdublaw20_wakes, stM]
      all_goals first | done | rfl | exact ⟨rfl, rfl⟩ | exact ⟨rfl, rfl, rfl⟩ | exact ⟨rfl, rfl, rfl, rfl⟩
    · have hQ : (∀ p, (some ([⟨0, 1⟩, ⟨1, 2⟩, ⟨2, 3⟩, ⟨3, 0⟩, ⟨4, 5⟩, ⟨5, 6⟩, ⟨6, 7⟩, ⟨7, 8⟩]) : Option (List Pa)) = some p → ¬ mayN p ∧ p.length ≤ 1000) := fun p hp => by
        cases hp; exact ⟨nP _ 3 (by simp) (by unfold okP secN; simp; try omega), by simp⟩
      have hD : ¬ mayD ([⟨1, 5, 0⟩, ⟨2, 0, 0⟩]) := nL _ 0 (by simp) (by unfold okL secN; simp; try omega)
      repeat' first
 | (refine AW.seq ?_)
 | (refine AW.block ?_)
 | (refine AW.regl QL_ok [0, 1, 4, 5, 6, 7, 9, 11, 12, 13, 14, 15, 16, 18, 20, 22, 26, 45, 52, 54, 63, 72, 81, 89, 97, 109, 121, 128] ?_)
 | (refine then_n ?_)
 | (refine then_r ?_)
 | (refine then_x ?_)
 | (refine block_x ?_)
 | (refine block_o (by decide) ?_)
 | (refine block_n ?_)
 | (refine block_r ?_)
 | (refine AW.skip ?_)
 | (refine AW.ret ?_)
 | (refine AW.exit ?_)
 | (refine AW.cond rfl ?_ ?_ <;> (intro hc; first | cases hc | ((try rw [hc]); (try simp only [stH] at hc); (try (exfalso; omega)))))
 | ((first
       | (refine awl_none rfl fun K hK => ?_)
       | (refine awl_nil ?_)
       | (refine awl_some rfl rfl (Nat.le_of_ble_eq_true rfl) rfl rfl ?_ ?_ <;> (intro hc; first | cases hc | ((try rw [hc]); (try simp only [stH] at hc); (try (exfalso; omega)))) <;> (try intro K hK))
       | (refine awl_skip rfl rfl (Nat.le_of_ble_eq_true rfl) rfl rfl ?_))
    all_goals first
      | (show Awl _ _ _ _ _; simp only [St.upd, St.put, List.nil_append, List.cons_append, List.singleton_append, List.append_nil])
      | (simp (disch := omega) only [go_sem, Int.reduceEq, ↓reduceIte, reduceCtorEq, Nat.reduceEqDiff, Nat.reduceLT, Nat.reduceLeDiff, Nat.reduceAdd, Nat.reduceSub, Nat.reduceMul, Int.reduceToNat, Int.reduceLE, Int.reduceLT, QL, Sp_overdubkeep_Within, Sp_node_PackNode, Sp_node_PackDir, Sp_node_PackRoot, Sp_overdublaw20_wakes, hw, List.set_cons_zero, List.set_cons_succ, nth, List.getD_cons_zero, List.getD_cons_succ]
         (try ((repeat' first | (refine And.intro ?_ ?_) | (intro hc; first | cases hc | ((try rw [hc]); (try simp only [stH] at hc); (try (exfalso; omega)))))
               all_goals first | (refine hK _ _ ?_; clear hK K; simp only [St.upd, St.put, List.nil_append, List.cons_append, List.singleton_append, List.append_nil]) | exact hK | omega))))
      refine ⟨(some ([⟨0, 1⟩, ⟨1, 2⟩, ⟨2, 3⟩, ⟨3, 0⟩, ⟨4, 5⟩, ⟨5, 6⟩, ⟨6, 7⟩, ⟨7, 8⟩]), [⟨1, 5, 0⟩, ⟨2, 0, 0⟩]), ⟨hQ, hD, by simp⟩, nm [], Wk.of ?_⟩
      simp (disch := omega) only [go_sem, Int.reduceEq, ↓reduceIte, reduceCtorEq, Nat.reduceEqDiff, Nat.reduceLT, Nat.reduceLeDiff, Nat.reduceAdd, Nat.reduceSub, Nat.reduceMul, Int.reduceToNat, Int.reduceLE, Int.reduceLT, QL, Sp_overdubkeep_Within, Sp_node_PackNode, Sp_node_PackDir, Sp_node_PackRoot, Sp_overdublaw20_wakes, stM]
      all_goals first | done | rfl | exact ⟨rfl, rfl⟩ | exact ⟨rfl, rfl, rfl⟩ | exact ⟨rfl, rfl, rfl, rfl⟩
    · have hQ : (∀ p, (some ([⟨0, 1⟩, ⟨1, 2⟩, ⟨1, 3⟩, ⟨3, 4⟩, ⟨4, 5⟩, ⟨5, 6⟩, ⟨6, 7⟩, ⟨7, 8⟩]) : Option (List Pa)) = some p → ¬ mayN p ∧ p.length ≤ 1000) := fun p hp => by
        cases hp; exact ⟨nP _ 2 (by simp) (by unfold okP secN; simp; try omega), by simp⟩
      have hD : ¬ mayD ([⟨1, 5, 7⟩, ⟨1, 0, 0⟩]) := nL _ 1 (by simp) (by unfold okL secN; simp; try omega)
      repeat' first
 | (refine AW.seq ?_)
 | (refine AW.block ?_)
 | (refine AW.regl QL_ok [0, 1, 4, 5, 6, 7, 9, 11, 12, 13, 14, 15, 16, 18, 20, 22, 26, 45, 52, 54, 63, 72, 81, 89, 97, 109, 121, 128] ?_)
 | (refine then_n ?_)
 | (refine then_r ?_)
 | (refine then_x ?_)
 | (refine block_x ?_)
 | (refine block_o (by decide) ?_)
 | (refine block_n ?_)
 | (refine block_r ?_)
 | (refine AW.skip ?_)
 | (refine AW.ret ?_)
 | (refine AW.exit ?_)
 | (refine AW.cond rfl ?_ ?_ <;> (intro hc; first | cases hc | ((try rw [hc]); (try simp only [stH] at hc); (try (exfalso; omega)))))
 | ((first
       | (refine awl_none rfl fun K hK => ?_)
       | (refine awl_nil ?_)
       | (refine awl_some rfl rfl (Nat.le_of_ble_eq_true rfl) rfl rfl ?_ ?_ <;> (intro hc; first | cases hc | ((try rw [hc]); (try simp only [stH] at hc); (try (exfalso; omega)))) <;> (try intro K hK))
       | (refine awl_skip rfl rfl (Nat.le_of_ble_eq_true rfl) rfl rfl ?_))
    all_goals first
      | (show Awl _ _ _ _ _; simp only [St.upd, St.put, List.nil_append, List.cons_append, List.singleton_append, List.append_nil])
      | (simp (disch := omega) only [go_sem, Int.reduceEq, ↓reduceIte, reduceCtorEq, Nat.reduceEqDiff, Nat.reduceLT, Nat.reduceLeDiff, Nat.reduceAdd, Nat.reduceSub, Nat.reduceMul, Int.reduceToNat, Int.reduceLE, Int.reduceLT, QL, Sp_overdubkeep_Within, Sp_node_PackNode, Sp_node_PackDir, Sp_node_PackRoot, Sp_overdublaw20_wakes, hw, List.set_cons_zero, List.set_cons_succ, nth, List.getD_cons_zero, List.getD_cons_succ]
         (try ((repeat' first | (refine And.intro ?_ ?_) | (intro hc; first | cases hc | ((try rw [hc]); (try simp only [stH] at hc); (try (exfalso; omega)))))
               all_goals first | (refine hK _ _ ?_; clear hK K; simp only [St.upd, St.put, List.nil_append, List.cons_append, List.singleton_append, List.append_nil]) | exact hK | omega))))
      refine ⟨(some ([⟨0, 1⟩, ⟨1, 2⟩, ⟨1, 3⟩, ⟨3, 4⟩, ⟨4, 5⟩, ⟨5, 6⟩, ⟨6, 7⟩, ⟨7, 8⟩]), [⟨1, 5, 7⟩, ⟨1, 0, 0⟩]), ⟨hQ, hD, by simp⟩, nm [], Wk.of ?_⟩
      simp (disch := omega) only [go_sem, Int.reduceEq, ↓reduceIte, reduceCtorEq, Nat.reduceEqDiff, Nat.reduceLT, Nat.reduceLeDiff, Nat.reduceAdd, Nat.reduceSub, Nat.reduceMul, Int.reduceToNat, Int.reduceLE, Int.reduceLT, QL, Sp_overdubkeep_Within, Sp_node_PackNode, Sp_node_PackDir, Sp_node_PackRoot, Sp_overdublaw20_wakes, stM]
      all_goals first | done | rfl | exact ⟨rfl, rfl⟩ | exact ⟨rfl, rfl, rfl⟩ | exact ⟨rfl, rfl, rfl, rfl⟩
    · have hQ : (∀ p, (some ([⟨0, 4096 + y⟩, ⟨1, 2⟩, ⟨2, 3⟩, ⟨3, 4⟩, ⟨4, 5⟩, ⟨5, 6⟩, ⟨6, 7⟩, ⟨7, 8⟩]) : Option (List Pa)) = some p → ¬ mayN p ∧ p.length ≤ 1000) := fun p hp => by
        cases hp; exact ⟨nP _ 0 (by simp) (by unfold okP secN; simp; try omega), by simp⟩
      have hD : ¬ mayD ([⟨1, 5, 7⟩, ⟨100 + y, 0, 0⟩]) := nL _ 1 (by simp) (by unfold okL secN; simp; try omega)
      repeat' first
 | (refine AW.seq ?_)
 | (refine AW.block ?_)
 | (refine AW.regl QL_ok [0, 1, 4, 5, 6, 7, 9, 11, 12, 13, 14, 15, 16, 18, 20, 22, 26, 45, 52, 54, 63, 72, 81, 89, 97, 109, 121, 128] ?_)
 | (refine then_n ?_)
 | (refine then_r ?_)
 | (refine then_x ?_)
 | (refine block_x ?_)
 | (refine block_o (by decide) ?_)
 | (refine block_n ?_)
 | (refine block_r ?_)
 | (refine AW.skip ?_)
 | (refine AW.ret ?_)
 | (refine AW.exit ?_)
 | (refine AW.cond rfl ?_ ?_ <;> (intro hc; first | cases hc | ((try rw [hc]); (try simp only [stH] at hc); (try (exfalso; omega)))))
 | ((first
       | (refine awl_none rfl fun K hK => ?_)
       | (refine awl_nil ?_)
       | (refine awl_some rfl rfl (Nat.le_of_ble_eq_true rfl) rfl rfl ?_ ?_ <;> (intro hc; first | cases hc | ((try rw [hc]); (try simp only [stH] at hc); (try (exfalso; omega)))) <;> (try intro K hK))
       | (refine awl_skip rfl rfl (Nat.le_of_ble_eq_true rfl) rfl rfl ?_))
    all_goals first
      | (show Awl _ _ _ _ _; simp only [St.upd, St.put, List.nil_append, List.cons_append, List.singleton_append, List.append_nil])
      | (simp (disch := omega) only [go_sem, Int.reduceEq, ↓reduceIte, reduceCtorEq, Nat.reduceEqDiff, Nat.reduceLT, Nat.reduceLeDiff, Nat.reduceAdd, Nat.reduceSub, Nat.reduceMul, Int.reduceToNat, Int.reduceLE, Int.reduceLT, QL, Sp_overdubkeep_Within, Sp_node_PackNode, Sp_node_PackDir, Sp_node_PackRoot, Sp_overdublaw20_wakes, hw, List.set_cons_zero, List.set_cons_succ, nth, List.getD_cons_zero, List.getD_cons_succ]
         (try ((repeat' first | (refine And.intro ?_ ?_) | (intro hc; first | cases hc | ((try rw [hc]); (try simp only [stH] at hc); (try (exfalso; omega)))))
               all_goals first | (refine hK _ _ ?_; clear hK K; simp only [St.upd, St.put, List.nil_append, List.cons_append, List.singleton_append, List.append_nil]) | exact hK | omega))))
      refine ⟨(some ([⟨0, 4096 + y⟩, ⟨1, 2⟩, ⟨2, 3⟩, ⟨3, 4⟩, ⟨4, 5⟩, ⟨5, 6⟩, ⟨6, 7⟩, ⟨7, 8⟩]), [⟨1, 5, 7⟩, ⟨100 + y, 0, 0⟩]), ⟨hQ, hD, by simp⟩, nm [], Wk.of ?_⟩
      simp (disch := omega) only [go_sem, Int.reduceEq, ↓reduceIte, reduceCtorEq, Nat.reduceEqDiff, Nat.reduceLT, Nat.reduceLeDiff, Nat.reduceAdd, Nat.reduceSub, Nat.reduceMul, Int.reduceToNat, Int.reduceLE, Int.reduceLT, QL, Sp_overdubkeep_Within, Sp_node_PackNode, Sp_node_PackDir, Sp_node_PackRoot, Sp_overdublaw20_wakes, stM]
      all_goals first | done | rfl | exact ⟨rfl, rfl⟩ | exact ⟨rfl, rfl, rfl⟩ | exact ⟨rfl, rfl, rfl, rfl⟩
    · have hQ : (∀ p, (some ([⟨-1 - y, 1⟩, ⟨1, 2⟩, ⟨2, 3⟩, ⟨3, 4⟩, ⟨4, 5⟩, ⟨5, 6⟩, ⟨6, 7⟩, ⟨7, 8⟩]) : Option (List Pa)) = some p → ¬ mayN p ∧ p.length ≤ 1000) := fun p hp => by
        cases hp; exact ⟨nP _ 0 (by simp) (by unfold okP secN; simp; try omega), by simp⟩
      have hD : ¬ mayD ([⟨1, 1001 + y, 7⟩, ⟨2, 0, 0⟩]) := nL _ 0 (by simp) (by unfold okL secN; simp; try omega)
      repeat' first
 | (refine AW.seq ?_)
 | (refine AW.block ?_)
 | (refine AW.regl QL_ok [0, 1, 4, 5, 6, 7, 9, 11, 12, 13, 14, 15, 16, 18, 20, 22, 26, 45, 52, 54, 63, 72, 81, 89, 97, 109, 121, 128] ?_)
 | (refine then_n ?_)
 | (refine then_r ?_)
 | (refine then_x ?_)
 | (refine block_x ?_)
 | (refine block_o (by decide) ?_)
 | (refine block_n ?_)
 | (refine block_r ?_)
 | (refine AW.skip ?_)
 | (refine AW.ret ?_)
 | (refine AW.exit ?_)
 | (refine AW.cond rfl ?_ ?_ <;> (intro hc; first | cases hc | ((try rw [hc]); (try simp only [stH] at hc); (try (exfalso; omega)))))
 | ((first
       | (refine awl_none rfl fun K hK => ?_)
       | (refine awl_nil ?_)
       | (refine awl_some rfl rfl (Nat.le_of_ble_eq_true rfl) rfl rfl ?_ ?_ <;> (intro hc; first | cases hc | ((try rw [hc]); (try simp only [stH] at hc); (try (exfalso; omega)))) <;> (try intro K hK))
       | (refine awl_skip rfl rfl (Nat.le_of_ble_eq_true rfl) rfl rfl ?_))
    all_goals first
      | (show Awl _ _ _ _ _; simp only [St.upd, St.put, List.nil_append, List.cons_append, List.singleton_append, List.append_nil])
      | (simp (disch := omega) only [go_sem, Int.reduceEq, ↓reduceIte, reduceCtorEq, Nat.reduceEqDiff, Nat.reduceLT, Nat.reduceLeDiff, Nat.reduceAdd, Nat.reduceSub, Nat.reduceMul, Int.reduceToNat, Int.reduceLE, Int.reduceLT, QL, Sp_overdubkeep_Within, Sp_node_PackNode, Sp_node_PackDir, Sp_node_PackRoot, Sp_overdublaw20_wakes, hw, List.set_cons_zero, List.set_cons_succ, nth, List.getD_cons_zero, List.getD_cons_succ]
         (try ((repeat' first | (refine And.intro ?_ ?_) | (intro hc; first | cases hc | ((try rw [hc]); (try simp only [stH] at hc); (try (exfalso; omega)))))
               all_goals first | (refine hK _ _ ?_; clear hK K; simp only [St.upd, St.put, List.nil_append, List.cons_append, List.singleton_append, List.append_nil]) | exact hK | omega))))
      refine ⟨(some ([⟨-1 - y, 1⟩, ⟨1, 2⟩, ⟨2, 3⟩, ⟨3, 4⟩, ⟨4, 5⟩, ⟨5, 6⟩, ⟨6, 7⟩, ⟨7, 8⟩]), [⟨1, 1001 + y, 7⟩, ⟨2, 0, 0⟩]), ⟨hQ, hD, by simp⟩, nm [], Wk.of ?_⟩
      simp (disch := omega) only [go_sem, Int.reduceEq, ↓reduceIte, reduceCtorEq, Nat.reduceEqDiff, Nat.reduceLT, Nat.reduceLeDiff, Nat.reduceAdd, Nat.reduceSub, Nat.reduceMul, Int.reduceToNat, Int.reduceLE, Int.reduceLT, QL, Sp_overdubkeep_Within, Sp_node_PackNode, Sp_node_PackDir, Sp_node_PackRoot, Sp_overdublaw20_wakes, stM]
      all_goals first | done | rfl | exact ⟨rfl, rfl⟩ | exact ⟨rfl, rfl, rfl⟩ | exact ⟨rfl, rfl, rfl, rfl⟩
    · have hQ : (∀ p, (none : Option (List Pa)) = some p → ¬ mayN p ∧ p.length ≤ 1000) := fun p hp => by
        cases hp
      have hD : ¬ mayD ([⟨1, 5, -1 - y⟩, ⟨2, 0, 0⟩]) := nL _ 0 (by simp) (by unfold okL secN; simp; try omega)
      repeat' first
 | (refine AW.seq ?_)
 | (refine AW.block ?_)
 | (refine AW.regl QL_ok [0, 1, 4, 5, 6, 7, 9, 11, 12, 13, 14, 15, 16, 18, 20, 22, 26, 45, 52, 54, 63, 72, 81, 89, 97, 109, 121, 128] ?_)
 | (refine then_n ?_)
 | (refine then_r ?_)
 | (refine then_x ?_)
 | (refine block_x ?_)
 | (refine block_o (by decide) ?_)
 | (refine block_n ?_)
 | (refine block_r ?_)
 | (refine AW.skip ?_)
 | (refine AW.ret ?_)
 | (refine AW.exit ?_)
 | (refine AW.cond rfl ?_ ?_ <;> (intro hc; first | cases hc | ((try rw [hc]); (try simp only [stH] at hc); (try (exfalso; omega)))))
 | ((first
       | (refine awl_none rfl fun K hK => ?_)
       | (refine awl_nil ?_)
       | (refine awl_some rfl rfl (Nat.le_of_ble_eq_true rfl) rfl rfl ?_ ?_ <;> (intro hc; first | cases hc | ((try rw [hc]); (try simp only [stH] at hc); (try (exfalso; omega)))) <;> (try intro K hK))
       | (refine awl_skip rfl rfl (Nat.le_of_ble_eq_true rfl) rfl rfl ?_))
    all_goals first
      | (show Awl _ _ _ _ _; simp only [St.upd, St.put, List.nil_append, List.cons_append, List.singleton_append, List.append_nil])
      | (simp (disch := omega) only [go_sem, Int.reduceEq, ↓reduceIte, reduceCtorEq, Nat.reduceEqDiff, Nat.reduceLT, Nat.reduceLeDiff, Nat.reduceAdd, Nat.reduceSub, Nat.reduceMul, Int.reduceToNat, Int.reduceLE, Int.reduceLT, QL, Sp_overdubkeep_Within, Sp_node_PackNode, Sp_node_PackDir, Sp_node_PackRoot, Sp_overdublaw20_wakes, hw, List.set_cons_zero, List.set_cons_succ, nth, List.getD_cons_zero, List.getD_cons_succ]
         (try ((repeat' first | (refine And.intro ?_ ?_) | (intro hc; first | cases hc | ((try rw [hc]); (try simp only [stH] at hc); (try (exfalso; omega)))))
               all_goals first | (refine hK _ _ ?_; clear hK K; simp only [St.upd, St.put, List.nil_append, List.cons_append, List.singleton_append, List.append_nil]) | exact hK | omega))))
      refine ⟨(none, [⟨1, 5, -1 - y⟩, ⟨2, 0, 0⟩]), ⟨hQ, hD, by simp⟩, nm [], Wk.of ?_⟩
      simp (disch := omega) only [go_sem, Int.reduceEq, ↓reduceIte, reduceCtorEq, Nat.reduceEqDiff, Nat.reduceLT, Nat.reduceLeDiff, Nat.reduceAdd, Nat.reduceSub, Nat.reduceMul, Int.reduceToNat, Int.reduceLE, Int.reduceLT, QL, Sp_overdubkeep_Within, Sp_node_PackNode, Sp_node_PackDir, Sp_node_PackRoot, Sp_overdublaw20_wakes, stM]
      all_goals first | done | rfl | exact ⟨rfl, rfl⟩ | exact ⟨rfl, rfl, rfl⟩ | exact ⟨rfl, rfl, rfl, rfl⟩
    · have hQ : (∀ p, (some ([⟨0, 1⟩, ⟨1, 2⟩, ⟨2, 3⟩, ⟨3, 4⟩, ⟨4, 5⟩, ⟨5, 6⟩, ⟨6, 7⟩, ⟨65536 + y, 8⟩]) : Option (List Pa)) = some p → ¬ mayN p ∧ p.length ≤ 1000) := fun p hp => by
        cases hp; exact ⟨nP _ 7 (by simp) (by unfold okP secN; simp; try omega), by simp⟩
      have hD : ¬ mayD ([⟨1, 5, 7⟩, ⟨2, 0, 3⟩]) := nL _ 1 (by simp) (by unfold okL secN; simp; try omega)
      repeat' first
 | (refine AW.seq ?_)
 | (refine AW.block ?_)
 | (refine AW.regl QL_ok [0, 1, 4, 5, 6, 7, 9, 11, 12, 13, 14, 15, 16, 18, 20, 22, 26, 45, 52, 54, 63, 72, 81, 89, 97, 109, 121, 128] ?_)
 | (refine then_n ?_)
 | (refine then_r ?_)
 | (refine then_x ?_)
 | (refine block_x ?_)
 | (refine block_o (by decide) ?_)
 | (refine block_n ?_)
 | (refine block_r ?_)
 | (refine AW.skip ?_)
 | (refine AW.ret ?_)
 | (refine AW.exit ?_)
 | (refine AW.cond rfl ?_ ?_ <;> (intro hc; first | cases hc | ((try rw [hc]); (try simp only [stH] at hc); (try (exfalso; omega)))))
 | ((first
       | (refine awl_none rfl fun K hK => ?_)
       | (refine awl_nil ?_)
       | (refine awl_some rfl rfl (Nat.le_of_ble_eq_true rfl) rfl rfl ?_ ?_ <;> (intro hc; first | cases hc | ((try rw [hc]); (try simp only [stH] at hc); (try (exfalso; omega)))) <;> (try intro K hK))
       | (refine awl_skip rfl rfl (Nat.le_of_ble_eq_true rfl) rfl rfl ?_))
    all_goals first
      | (show Awl _ _ _ _ _; simp only [St.upd, St.put, List.nil_append, List.cons_append, List.singleton_append, List.append_nil])
      | (simp (disch := omega) only [go_sem, Int.reduceEq, ↓reduceIte, reduceCtorEq, Nat.reduceEqDiff, Nat.reduceLT, Nat.reduceLeDiff, Nat.reduceAdd, Nat.reduceSub, Nat.reduceMul, Int.reduceToNat, Int.reduceLE, Int.reduceLT, QL, Sp_overdubkeep_Within, Sp_node_PackNode, Sp_node_PackDir, Sp_node_PackRoot, Sp_overdublaw20_wakes, hw, List.set_cons_zero, List.set_cons_succ, nth, List.getD_cons_zero, List.getD_cons_succ]
         (try ((repeat' first | (refine And.intro ?_ ?_) | (intro hc; first | cases hc | ((try rw [hc]); (try simp only [stH] at hc); (try (exfalso; omega)))))
               all_goals first | (refine hK _ _ ?_; clear hK K; simp only [St.upd, St.put, List.nil_append, List.cons_append, List.singleton_append, List.append_nil]) | exact hK | omega))))
      refine ⟨(some ([⟨0, 1⟩, ⟨1, 2⟩, ⟨2, 3⟩, ⟨3, 4⟩, ⟨4, 5⟩, ⟨5, 6⟩, ⟨6, 7⟩, ⟨65536 + y, 8⟩]), [⟨1, 5, 7⟩, ⟨2, 0, 3⟩]), ⟨hQ, hD, by simp⟩, nm [], Wk.of ?_⟩
      simp (disch := omega) only [go_sem, Int.reduceEq, ↓reduceIte, reduceCtorEq, Nat.reduceEqDiff, Nat.reduceLT, Nat.reduceLeDiff, Nat.reduceAdd, Nat.reduceSub, Nat.reduceMul, Int.reduceToNat, Int.reduceLE, Int.reduceLT, QL, Sp_overdubkeep_Within, Sp_node_PackNode, Sp_node_PackDir, Sp_node_PackRoot, Sp_overdublaw20_wakes, stM]
      all_goals first | done | rfl | exact ⟨rfl, rfl⟩ | exact ⟨rfl, rfl, rfl⟩ | exact ⟨rfl, rfl, rfl, rfl⟩
    · have hQ : (∀ p, (some [⟨0, 1⟩, ⟨1, 2⟩, ⟨2, 3⟩, ⟨3, 4⟩, ⟨4, 5⟩, ⟨5, 0 - y⟩, ⟨6, 7⟩, ⟨7, 8⟩] : Option (List Pa)) = some p → ¬ mayN p ∧ p.length ≤ 1000) := fun p hp => by
        cases hp; exact ⟨nP _ 5 (by simp) (by unfold okP secN; simp; try omega), by simp⟩
      repeat' first
 | (refine AW.seq ?_)
 | (refine AW.block ?_)
 | (refine AW.regl QL_ok [0, 1, 4, 5, 6, 7, 9, 11, 12, 13, 14, 15, 16, 18, 20, 22, 26, 45, 52, 54, 63, 72, 81, 89, 97, 109, 121, 128] ?_)
 | (refine then_n ?_)
 | (refine then_r ?_)
 | (refine then_x ?_)
 | (refine block_x ?_)
 | (refine block_o (by decide) ?_)
 | (refine block_n ?_)
 | (refine block_r ?_)
 | (refine AW.skip ?_)
 | (refine AW.ret ?_)
 | (refine AW.exit ?_)
 | (refine AW.cond rfl ?_ ?_ <;> (intro hc; first | cases hc | ((try rw [hc]); (try simp only [stH] at hc); (try (exfalso; omega)))))
 | ((first
       | (refine awl_none rfl fun K hK => ?_)
       | (refine awl_nil ?_)
       | (refine awl_some rfl rfl (Nat.le_of_ble_eq_true rfl) rfl rfl ?_ ?_ <;> (intro hc; first | cases hc | ((try rw [hc]); (try simp only [stH] at hc); (try (exfalso; omega)))) <;> (try intro K hK))
       | (refine awl_skip rfl rfl (Nat.le_of_ble_eq_true rfl) rfl rfl ?_))
    all_goals first
      | (show Awl _ _ _ _ _; simp only [St.upd, St.put, List.nil_append, List.cons_append, List.singleton_append, List.append_nil])
      | (simp (disch := omega) only [go_sem, Int.reduceEq, ↓reduceIte, reduceCtorEq, Nat.reduceEqDiff, Nat.reduceLT, Nat.reduceLeDiff, Nat.reduceAdd, Nat.reduceSub, Nat.reduceMul, Int.reduceToNat, Int.reduceLE, Int.reduceLT, QL, Sp_overdubkeep_Within, Sp_node_PackNode, Sp_node_PackDir, Sp_node_PackRoot, Sp_overdublaw20_wakes, hw, List.set_cons_zero, List.set_cons_succ, nth, List.getD_cons_zero, List.getD_cons_succ]
         (try ((repeat' first | (refine And.intro ?_ ?_) | (intro hc; first | cases hc | ((try rw [hc]); (try simp only [stH] at hc); (try (exfalso; omega)))))
               all_goals first | (refine hK _ _ ?_; clear hK K; simp only [St.upd, St.put, List.nil_append, List.cons_append, List.singleton_append, List.append_nil]) | exact hK | omega))))
      rw [← hdl]
      refine AW.loop_wk (fun k : Nat => ⟨[(1, .d (.v (.int .i64 y))), (4, .d (.v (.bool false))), (5, .sl 100 2 0 8 true), (7, .sl 101 3 0 (2 + k) true), (12, .d (.v (.int .i64 k)))], [(100, .row 47 2 (([⟨0, 1⟩, ⟨1, 2⟩, ⟨2, 3⟩, ⟨3, 4⟩, ⟨4, 5⟩, ⟨5, 0 - y⟩, ⟨6, 7⟩, ⟨7, 8⟩] : List Pa).map pD)), (101, .row 36 3 ((dl2 ++ zs k).map lD))], 191⟩)
        (fun k => (k : Int) ≤ 5 + y) (fun k => (5 + y).toNat - k) 0 (by omega) (fun w0 oa a w hs => Wk.sr (ρ := nm []) (Wk.of ?_) hs) ?_
      · simp (disch := omega) only [go_sem, Int.reduceEq, ↓reduceIte, reduceCtorEq, Nat.reduceEqDiff, Nat.reduceLT, Nat.reduceLeDiff, Nat.reduceAdd, Nat.reduceSub, Nat.reduceMul, Int.reduceToNat, Int.reduceLE, Int.reduceLT, QL, Sp_overdubkeep_Within, Sp_node_PackNode, Sp_node_PackDir, Sp_node_PackRoot, Sp_overdublaw20_wakes]
        all_goals first | done | rfl | exact ⟨rfl, rfl⟩ | exact ⟨rfl, rfl, rfl⟩
      · intro k hk
        have hll : (dl2 ++ zs k).length = 2 + k := by rw [List.length_append, zs_len]; rfl
        have hlm : ((dl2 ++ zs k).map lD).length = 2 + k := by rw [List.length_map, hll]
        by_cases hk5 : (k : Int) < 5 + y
        · have hs := zs_succ k
          have hsn : (dl2 ++ zs k).map lD ++ [D.agg [.v (.int .i64 (3 + k)), .v (.int .i64 0), .v (.int .i64 0)]] = (dl2 ++ zs (k + 1)).map lD := by rw [hs, ← List.append_assoc]; simp only [List.map_append]; rfl
          obtain ⟨R, hR⟩ : ∃ R, (dl2 ++ zs k).map lD = R := ⟨_, rfl⟩
          rw [hR] at hlm hsn ⊢
          repeat' first
 | (refine AW.seq ?_)
 | (refine AW.block ?_)
 | (refine AW.regl QL_ok [0, 1, 4, 5, 6, 7, 9, 11, 12, 13, 14, 15, 16, 18, 20, 22, 26, 45, 52, 54, 63, 72, 81, 89, 97, 109, 121, 128] ?_)
 | (refine then_n ?_)
 | (refine then_r ?_)
 | (refine then_x ?_)
 | (refine block_x ?_)
 | (refine block_o (by decide) ?_)
 | (refine block_n ?_)
 | (refine block_r ?_)
 | (refine AW.skip ?_)
 | (refine AW.ret ?_)
 | (refine AW.exit ?_)
 | (refine AW.cond rfl ?_ ?_ <;> (intro hc; first | cases hc | ((try rw [hc]); (try simp only [stH] at hc); (try (exfalso; omega)))))
 | ((first
       | (refine awl_none rfl fun K hK => ?_)
       | (refine awl_nil ?_)
       | (refine awl_some rfl rfl (Nat.le_of_ble_eq_true rfl) rfl rfl ?_ ?_ <;> (intro hc; first | cases hc | ((try rw [hc]); (try simp only [stH] at hc); (try (exfalso; omega)))) <;> (try intro K hK))
       | (refine awl_skip rfl rfl (Nat.le_of_ble_eq_true rfl) rfl rfl ?_))
    all_goals first
      | (show Awl _ _ _ _ _; simp only [St.upd, St.put, List.nil_append, List.cons_append, List.singleton_append, List.append_nil])
      | (simp (disch := omega) only [go_sem, Int.reduceEq, ↓reduceIte, reduceCtorEq, Nat.reduceEqDiff, Nat.reduceLT, Nat.reduceLeDiff, Nat.reduceAdd, Nat.reduceSub, Nat.reduceMul, Int.reduceToNat, Int.reduceLE, Int.reduceLT, QL, Sp_overdubkeep_Within, Sp_node_PackNode, Sp_node_PackDir, Sp_node_PackRoot, Sp_overdublaw20_wakes, hlm]
         (try ((repeat' first | (refine And.intro ?_ ?_) | (intro hc; first | cases hc | ((try rw [hc]); (try simp only [stH] at hc); (try (exfalso; omega)))))
               all_goals first | (refine hK _ _ ?_; clear hK K; simp only [St.upd, St.put, List.nil_append, List.cons_append, List.singleton_append, List.append_nil]) | exact hK | omega))))
          refine ⟨k + 1, by omega, by omega, nm [(101, 71)], Wk.of ?_⟩
          simp (disch := omega) only [go_sem, Int.reduceEq, ↓reduceIte, reduceCtorEq, Nat.reduceEqDiff, Nat.reduceLT, Nat.reduceLeDiff, Nat.reduceAdd, Nat.reduceSub, Nat.reduceMul, Int.reduceToNat, Int.reduceLE, Int.reduceLT, QL, Sp_overdubkeep_Within, Sp_node_PackNode, Sp_node_PackDir, Sp_node_PackRoot, Sp_overdublaw20_wakes, hsn]
          all_goals first | done | rfl | exact ⟨rfl, rfl⟩ | exact ⟨by rw [hlm]; rfl, rfl⟩
        · have hD : ¬ mayD (dl2 ++ zs k) := fun h => by have := h.1; omega
          repeat' first
 | (refine AW.seq ?_)
 | (refine AW.block ?_)
 | (refine AW.regl QL_ok [0, 1, 4, 5, 6, 7, 9, 11, 12, 13, 14, 15, 16, 18, 20, 22, 26, 45, 52, 54, 63, 72, 81, 89, 97, 109, 121, 128] ?_)
 | (refine then_n ?_)
 | (refine then_r ?_)
 | (refine then_x ?_)
 | (refine block_x ?_)
 | (refine block_o (by decide) ?_)
 | (refine block_n ?_)
 | (refine block_r ?_)
 | (refine AW.skip ?_)
 | (refine AW.ret ?_)
 | (refine AW.exit ?_)
 | (refine AW.cond rfl ?_ ?_ <;> (intro hc; first | cases hc | ((try rw [hc]); (try simp only [stH] at hc); (try (exfalso; omega)))))
 | ((first
       | (refine awl_none rfl fun K hK => ?_)
       | (refine awl_nil ?_)
       | (refine awl_some rfl rfl (Nat.le_of_ble_eq_true rfl) rfl rfl ?_ ?_ <;> (intro hc; first | cases hc | ((try rw [hc]); (try simp only [stH] at hc); (try (exfalso; omega)))) <;> (try intro K hK))
       | (refine awl_skip rfl rfl (Nat.le_of_ble_eq_true rfl) rfl rfl ?_))
    all_goals first
      | (show Awl _ _ _ _ _; simp only [St.upd, St.put, List.nil_append, List.cons_append, List.singleton_append, List.append_nil])
      | (simp (disch := omega) only [go_sem, Int.reduceEq, ↓reduceIte, reduceCtorEq, Nat.reduceEqDiff, Nat.reduceLT, Nat.reduceLeDiff, Nat.reduceAdd, Nat.reduceSub, Nat.reduceMul, Int.reduceToNat, Int.reduceLE, Int.reduceLT, QL, Sp_overdubkeep_Within, Sp_node_PackNode, Sp_node_PackDir, Sp_node_PackRoot, Sp_overdublaw20_wakes]
         (try ((repeat' first | (refine And.intro ?_ ?_) | (intro hc; first | cases hc | ((try rw [hc]); (try simp only [stH] at hc); (try (exfalso; omega)))))
               all_goals first | (refine hK _ _ ?_; clear hK K; simp only [St.upd, St.put, List.nil_append, List.cons_append, List.singleton_append, List.append_nil]) | exact hK | omega))))
          refine ⟨(some [⟨0, 1⟩, ⟨1, 2⟩, ⟨2, 3⟩, ⟨3, 4⟩, ⟨4, 5⟩, ⟨5, 0 - y⟩, ⟨6, 7⟩, ⟨7, 8⟩], dl2 ++ zs k), ⟨hQ, hD, by dsimp only; rw [hll]; omega⟩, nm [], Wk.of ?_⟩
          simp (disch := omega) only [go_sem, Int.reduceEq, ↓reduceIte, reduceCtorEq, Nat.reduceEqDiff, Nat.reduceLT, Nat.reduceLeDiff, Nat.reduceAdd, Nat.reduceSub, Nat.reduceMul, Int.reduceToNat, Int.reduceLE, Int.reduceLT, QL, Sp_overdubkeep_Within, Sp_node_PackNode, Sp_node_PackDir, Sp_node_PackRoot, Sp_overdublaw20_wakes, stM]
          all_goals first | done | rfl | (rw [zs_len]; rfl) | (rw [hll]; exact ⟨rfl, rfl⟩) | (rw [hll]; rfl) | exact ⟨rfl, rfl⟩ | exact ⟨by rw [hll], rfl⟩ | exact ⟨by rw [hll], rfl, rfl⟩
  · rintro ⟨o, dl⟩ ⟨hP, hD, hdb⟩
    dsimp only at hP hD hdb
    have hn0 : packNOut [] = ⟨.tup [.nil, .d (.v (.bool false))], []⟩ := if_neg fun h => by have := h.1; simp at this
    have hdf : packDOut dl = ⟨.tup [.nil, .d (.v (.bool false))], []⟩ := if_neg hD
    have hr1 : packROut 0 [] [] = ⟨.tup [.nil, .d (.v (.bool false))], []⟩ := if_neg fun h => by have := h.1.1; omega
    have hr2 : packROut 1 (List.replicate 5 0) [] = ⟨.tup [.nil, .d (.v (.bool false))], []⟩ := if_neg fun h => by have := (h.2.1.1 0 (by simp)).1; simp at this
    have hr3 : packROut 1 [] [0] = ⟨.tup [.nil, .d (.v (.bool false))], []⟩ := if_neg fun h => by have := (h.2.2.1 0 (by simp)).1; simp at this
    have hdt : (dl.map lD).take dl.length = dl.map lD := List.take_of_length_le (by simp)
    have h5t : ((List.replicate 5 (0 : Int)).map mI).take 5 = (List.replicate 5 (0 : Int)).map mI := rfl
    have hrp := repl_I 5 0
    have one_I : ∀ l : List Int, ([D.v (.int .i64 0)] = l.map mI) = (l = [0]) := fun l => by
      rw [show [D.v (.int .i64 0)] = [(0 : Int)].map mI from rfl, mI_inj]; exact propext eq_comm
    have nil_In : ∀ l : List Int, (([] : List D) = l.map mI) = (l = []) := fun l => by cases l <;> simp
    have nil_Pn : ∀ l : List Pa, (([] : List D) = l.map pD) = (l = []) := fun l => by cases l <;> simp
    have h5l : (List.replicate 5 (0 : Int)).length = 5 := rfl
    cases o with
    | none =>
      clear hP hD
      repeat' first
 | (refine AW.seq ?_)
 | (refine AW.block ?_)
 | (refine AW.regl QL_ok [0, 1, 4, 5, 6, 7, 9, 11, 12, 13, 14, 15, 16, 18, 20, 22, 26, 45, 52, 54, 63, 72, 81, 89, 97, 109, 121, 128] ?_)
 | (refine then_n ?_)
 | (refine then_r ?_)
 | (refine then_x ?_)
 | (refine block_x ?_)
 | (refine block_o (by decide) ?_)
 | (refine block_n ?_)
 | (refine block_r ?_)
 | (refine AW.skip ?_)
 | (refine AW.ret ?_)
 | (refine AW.exit ?_)
 | (refine AW.cond rfl ?_ ?_ <;> (intro hc; first | cases hc | ((try rw [hc]); (try simp only [stH] at hc); (try (exfalso; omega)))))
 | ((first
       | (refine awl_none rfl fun K hK => ?_)
       | (refine awl_nil ?_)
       | (refine awl_some rfl rfl (Nat.le_of_ble_eq_true rfl) rfl rfl ?_ ?_ <;> (intro hc; first | cases hc | ((try rw [hc]); (try simp only [stH] at hc); (try (exfalso; omega)))) <;> (try intro K hK))
       | (refine awl_skip rfl rfl (Nat.le_of_ble_eq_true rfl) rfl rfl ?_))
    all_goals first
      | (show Awl _ _ _ _ _; simp only [St.upd, St.put, List.nil_append, List.cons_append, List.singleton_append, List.append_nil])
      | (simp (disch := omega) only [go_sem, Int.reduceEq, ↓reduceIte, reduceCtorEq, Nat.reduceEqDiff, Nat.reduceLT, Nat.reduceLeDiff, Nat.reduceAdd, Nat.reduceSub, Nat.reduceMul, Int.reduceToNat, Int.reduceLE, Int.reduceLT, QL, Sp_overdubkeep_Within, Sp_node_PackNode, Sp_node_PackDir, Sp_node_PackRoot, Sp_overdublaw20_wakes, stM, hn0, hdf, hr1, hr2, hr3, hdt, h5t, h5l, hrp, one_I, nil_In, nil_Pn, lD_inj, mI_inj]
         (try ((repeat' first | (refine And.intro ?_ ?_) | (intro hc; first | cases hc | ((try rw [hc]); (try simp only [stH] at hc); (try (exfalso; omega)))))
               all_goals first | (refine hK _ _ ?_; clear hK K; simp only [St.upd, St.put, List.nil_append, List.cons_append, List.singleton_append, List.append_nil]) | exact hK | omega))))
      (refine Ends.of (nm []) (by first | exact .inl rfl | exact .inr rfl) ?_; simp (disch := omega) only [go_sem, Int.reduceEq, ↓reduceIte, reduceCtorEq, Nat.reduceEqDiff, Nat.reduceLT, Nat.reduceLeDiff, Nat.reduceAdd, Nat.reduceSub, Nat.reduceMul, Int.reduceToNat, Int.reduceLE, Int.reduceLT, QL, Sp_overdubkeep_Within, Sp_node_PackNode, Sp_node_PackDir, Sp_node_PackRoot, Sp_overdublaw20_wakes])
    | some p =>
      have hnf : packNOut p = ⟨.tup [.nil, .d (.v (.bool false))], []⟩ := if_neg (hP p rfl).1
      have hpt : (p.map pD).take p.length = p.map pD := List.take_of_length_le (by simp)
      have hbp := (hP p rfl).2
      clear hP hD
      repeat' first
 | (refine AW.seq ?_)
 | (refine AW.block ?_)
 | (refine AW.regl QL_ok [0, 1, 4, 5, 6, 7, 9, 11, 12, 13, 14, 15, 16, 18, 20, 22, 26, 45, 52, 54, 63, 72, 81, 89, 97, 109, 121, 128] ?_)
 | (refine then_n ?_)
 | (refine then_r ?_)
 | (refine then_x ?_)
 | (refine block_x ?_)
 | (refine block_o (by decide) ?_)
 | (refine block_n ?_)
 | (refine block_r ?_)
 | (refine AW.skip ?_)
 | (refine AW.ret ?_)
 | (refine AW.exit ?_)
 | (refine AW.cond rfl ?_ ?_ <;> (intro hc; first | cases hc | ((try rw [hc]); (try simp only [stH] at hc); (try (exfalso; omega)))))
 | ((first
       | (refine awl_none rfl fun K hK => ?_)
       | (refine awl_nil ?_)
       | (refine awl_some rfl rfl (Nat.le_of_ble_eq_true rfl) rfl rfl ?_ ?_ <;> (intro hc; first | cases hc | ((try rw [hc]); (try simp only [stH] at hc); (try (exfalso; omega)))) <;> (try intro K hK))
       | (refine awl_skip rfl rfl (Nat.le_of_ble_eq_true rfl) rfl rfl ?_))
    all_goals first
      | (show Awl _ _ _ _ _; simp only [St.upd, St.put, List.nil_append, List.cons_append, List.singleton_append, List.append_nil])
      | (simp (disch := omega) only [go_sem, Int.reduceEq, ↓reduceIte, reduceCtorEq, Nat.reduceEqDiff, Nat.reduceLT, Nat.reduceLeDiff, Nat.reduceAdd, Nat.reduceSub, Nat.reduceMul, Int.reduceToNat, Int.reduceLE, Int.reduceLT, QL, Sp_overdubkeep_Within, Sp_node_PackNode, Sp_node_PackDir, Sp_node_PackRoot, Sp_overdublaw20_wakes, stM, hnf, hpt, hdf, hr1, hr2, hr3, hdt, h5t, h5l, hrp, one_I, nil_In, pD_inj, lD_inj, mI_inj]
         (try ((repeat' first | (refine And.intro ?_ ?_) | (intro hc; first | cases hc | ((try rw [hc]); (try simp only [stH] at hc); (try (exfalso; omega)))))
               all_goals first | (refine hK _ _ ?_; clear hK K; simp only [St.upd, St.put, List.nil_append, List.cons_append, List.singleton_append, List.append_nil]) | exact hK | omega))))
      (refine Ends.of (nm []) (by first | exact .inl rfl | exact .inr rfl) ?_; simp (disch := omega) only [go_sem, Int.reduceEq, ↓reduceIte, reduceCtorEq, Nat.reduceEqDiff, Nat.reduceLT, Nat.reduceLeDiff, Nat.reduceAdd, Nat.reduceSub, Nat.reduceMul, Int.reduceToNat, Int.reduceLE, Int.reduceLT, QL, Sp_overdubkeep_Within, Sp_node_PackNode, Sp_node_PackDir, Sp_node_PackRoot, Sp_overdublaw20_wakes])
end Go.Proofs.Ytigkcigoiinkpaa.Am
