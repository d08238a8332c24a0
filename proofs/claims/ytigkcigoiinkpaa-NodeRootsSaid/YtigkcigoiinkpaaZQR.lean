import Derived.Test.YtigkcigoiinkpaaZNP
set_option linter.unusedVariables false
set_option linter.unusedSimpArgs false
set_option maxRecDepth 10000
set_option maxHeartbeats 0
namespace Go.Proofs.Ytigkcigoiinkpaa.Am
open Go Go.RowKit Go.Proofs
noncomputable def QR : Env := ⟨Try.prog, fun f ds out => (f = 20 ∧ Sp_overdubkeep_Within ds out) ∨ (f = 32 ∧ Sp_overdublaw20_sectors ds out) ∨ (f = 38 ∧ Sp_overdubkeep_Cut_int ds out) ∨ (f = 22 ∧ Sp_node_PackRoot ds out) ∨ (f = 43 ∧ Sp_node_Root ds out) ∨ (f = 11 ∧ Sp_overdublaw20_lines ds out) ∨ (f = 37 ∧ Sp_overdubkeep_Cut_node_Line ds out) ∨ (f = 13 ∧ Sp_node_PackDir ds out) ∨ (f = 42 ∧ Sp_node_Dir ds out) ∨ (f = 44 ∧ Sp_overdubkeep_Same_int ds out) ∨ (f = 45 ∧ Sp_node_Kind ds out) ∨ (f = 17 ∧ Sp_overdublaw20_wakes ds out), Es, fun f => decide (f = 38) || decide (f = 37)⟩
theorem QR_sp : ∀ f ds out, QR.Sp f ds out → Ent QR.P f ∧ Good QR.P f (fun a b => a = ds ∧ b = out) := by
  rintro f ds out (⟨rfl, h⟩ | ⟨rfl, h⟩ | ⟨rfl, h⟩ | ⟨rfl, h⟩ | ⟨rfl, h⟩ | ⟨rfl, h⟩ | ⟨rfl, h⟩ | ⟨rfl, h⟩ | ⟨rfl, h⟩ | ⟨rfl, h⟩ | ⟨rfl, h⟩ | ⟨rfl, h⟩)
  · exact ⟨ent_overdubkeep_Within, good_overdubkeep_Within.one h⟩
  · exact ⟨ent_overdublaw20_sectors, good_overdublaw20_sectors.one h⟩
  · exact ⟨ent_overdubkeep_Cut_int, good_overdubkeep_Cut_int.one h⟩
  · exact ⟨ent_node_PackRoot, good_node_PackRoot.one h⟩
  · exact ⟨ent_node_Root, good_node_Root.one h⟩
  · exact ⟨ent_overdublaw20_lines, good_overdublaw20_lines.one h⟩
  · exact ⟨ent_overdubkeep_Cut_node_Line, good_overdubkeep_Cut_node_Line.one h⟩
  · exact ⟨ent_node_PackDir, good_node_PackDir.one h⟩
  · exact ⟨ent_node_Dir, good_node_Dir.one h⟩
  · exact ⟨ent_overdubkeep_Same_int, good_overdubkeep_Same_int.one h⟩
  · exact ⟨ent_node_Kind, good_node_Kind.one h⟩
  · exact ⟨ent_overdublaw20_wakes, good_overdublaw20_wakes.one h⟩
theorem QR_ok : QR.Ok := ⟨QR_sp, Es_ok⟩
def Sp_overdublaw20_NodeRoots (ds : List D) (out : Out) : Prop := ∃ (now : Int) (u r : List Int) (l : List Ln), ds = [.v (.int .i64 now), .list (u.map mI), .list (r.map mI), .list (l.map lD)] ∧ u.length ≤ 9223372036854775807 ∧ r.length ≤ 9223372036854775807 ∧ l.length ≤ 9223372036854775807 ∧ out = ⟨.d (.v (.bool true)), []⟩
theorem good_overdublaw20_NodeRoots : Good Try.prog 10 Sp_overdublaw20_NodeRoots := by
  refine good_body (E := QR) (nt := 109) (rs := #[.tmp 8]) Try.func10 rfl rfl rfl ?_
  rintro ds out ⟨now, u, r, l, rfl, hu, hr, hl, rfl⟩
  refine ⟨by simp, ?_⟩
  have w1 := within_rngh (v := now) (n := 4000) (by omega)
  have hm : mayR (1 + within now 4000) ((seG true u).take 4) ((seG true r).take 4) := ⟨by unfold secN; omega, may_sectors u (by omega), may_sectors r (by omega)⟩
  have hd := may_lines l (m := 6) (by omega)
  have n4 : (4 : Int).toNat = 4 := rfl
  have n6 : (6 : Int).toNat = 6 := rfl
  have hu0 : (seG true u).length ≤ 6 := by unfold seG; rw [List.length_map, List.length_take]; omega
  have hr0 : (seG true r).length ≤ 6 := by unfold seG; rw [List.length_map, List.length_take]; omega
  have hl0 : (lnG true 8 (-1) l).length ≤ 8 := by rw [lnG_len]; omega
  have tu : ((seG true u).map mI).take (seG true u).length = (seG true u).map mI := List.take_of_length_le (by simp)
  have tr : ((seG true r).map mI).take (seG true r).length = (seG true r).map mI := List.take_of_length_le (by simp)
  have tl : ((lnG true 8 (-1) l).map lD).take (lnG true 8 (-1) l).length = (lnG true 8 (-1) l).map lD := List.take_of_length_le (by simp)
  obtain ⟨now', hnow⟩ : ∃ now', 1 + within now 4000 = now' := ⟨_, rfl⟩
  rw [hnow] at hm
  have hlo : linesOut true l = ⟨.tup [.sl 0 3 0 (lnG true 8 (-1) l).length true, .sl 1 3 0 (lnG true 8 (-1) l).length true], [(0, .row 36 3 ((lnG true 8 (-1) l).map lD)), (1, .row 86 3 ((lnG true 8 (-1) l).map lD))]⟩ := rfl
  generalize lnG true 8 (-1) l = L0 at *
  obtain ⟨U0, hU0⟩ : ∃ U0, seG true u = U0 := ⟨_, rfl⟩
  obtain ⟨R0, hR0⟩ : ∃ R0, seG true r = R0 := ⟨_, rfl⟩
  rw [hU0] at hm hu0 tu
  rw [hR0] at hm hr0 tr
  have hul : (U0.take 4).length ≤ 4 := List.length_take_le ..
  have hrl : (R0.take 4).length ≤ 4 := List.length_take_le ..
  have hdl : (L0.take 6).length ≤ 6 := List.length_take_le ..
  obtain ⟨U, hU⟩ : ∃ U, U0.take 4 = U := ⟨_, rfl⟩
  obtain ⟨R, hR⟩ : ∃ R, R0.take 4 = R := ⟨_, rfl⟩
  obtain ⟨L, hL⟩ : ∃ L, L0.take 6 = L := ⟨_, rfl⟩
  rw [hU] at hm hul
  rw [hR] at hm hrl
  rw [hL] at hd hdl
  obtain ⟨k1, k2, k3, k4⟩ := root_back hm
  have p1 : packROut now' U R = ⟨.tup [.sl 0 1 0 128 true, .d (.v (.bool true))], [(0, .row 5 1 ((rootP now' U R).map mB))]⟩ := if_pos hm
  have p2 : packDOut L = ⟨.tup [.sl 0 1 0 128 true, .d (.v (.bool true))], [(0, .row 5 1 ((dirP L).map mB))]⟩ := if_pos hd
  have o1 : rootOut (rootP now' U R) = ⟨.tup [.d (.v (.int .i64 now')), .sl 0 1 0 U.length true, .sl 1 1 0 R.length true, .d (.v (.bool true))], [(0, .row 3 1 (U.map mI)), (1, .row 3 1 (R.map mI))]⟩ := by rw [rootOut, if_pos k1, k2, k3, k4]
  have o2 : rootOut (dirP L) = ⟨.tup [.d (.v (.int .i64 0)), .nil, .nil, .d (.v (.bool false))], []⟩ := if_neg fun h => by
    have := kind_dir hd
    have h3 : (lsB L).length ≤ 121 := by rw [lsB_len]; omega
    have := (nodP_oH h3 4).1 h.1
    omega
  have o3 : dirOut (rootP now' U R) = ⟨.tup [.nil, .d (.v (.bool false))], []⟩ := if_neg fun h => by
    have := (nodP_oH (rootL_len hm) 3).1 h.1
    omega
  have o4 := kind_root hm
  have b1 : Byt (rootP now' U R) = True := eq_true (rootP_byt _ _ _)
  have b2 : Byt (dirP L) = True := eq_true (nodP_byt (by omega) (by omega) (lsB_byt L))
  have c1 : (rootP now' U R).length = 128 := rootP_len _ _ _
  have c2 : (dirP L).length = 128 := nodP_len _ _ _
  have t1 : ((rootP now' U R).map mB).take 128 = (rootP now' U R).map mB := List.take_of_length_le (by rw [List.length_map, c1]; omega)
  have t2 : ((dirP L).map mB).take 128 = (dirP L).map mB := List.take_of_length_le (by rw [List.length_map, c2]; omega)
  have tU : (U.map mI).take U.length = U.map mI := List.take_of_length_le (by simp)
  have tR : (R.map mI).take R.length = R.map mI := List.take_of_length_le (by simp)
  have dU : decide (U = U) = true := decide_eq_true rfl
  have dR : decide (R = R) = true := decide_eq_true rfl
  clear k1 k2 k3 k4 hm hd
  generalize rootP now' U R = P at *
  generalize dirP L = E at *
  repeat' first
 | (refine AW.seq ?_)
 | (refine AW.block ?_)
 | (refine AW.regl QR_ok [0, 1, 2, 3, 8, 9, 10, 11, 12, 13, 14, 15, 17, 18, 22, 24] ?_)
 | (refine then_n ?_)
 | (refine then_r ?_)
 | (refine then_x ?_)
 | (refine block_x ?_)
 | (refine block_o (by decide) ?_)
 | (refine block_n ?_)
 | (refine block_r ?_)
 | (refine AW.skip ?_)
 | (refine AW.ret ?_)
 | (refine AW.exit ?_)
 | (refine AW.cond rfl ?_ ?_ <;> (intro hc; first | cases hc | ((try rw [hc]); (try simp only [stH] at hc); (try (exfalso; omega)))))
 | ((first
       | (refine awl_none rfl fun K hK => ?_)
       | (refine awl_nil ?_)
       | (refine awl_some rfl rfl (Nat.le_of_ble_eq_true rfl) rfl rfl ?_ ?_ <;> (intro hc; first | cases hc | ((try rw [hc]); (try simp only [stH] at hc); (try (exfalso; omega)))) <;> (try intro K hK))
       | (refine awl_skip rfl rfl (Nat.le_of_ble_eq_true rfl) rfl rfl ?_))
    all_goals first
      | (show Awl _ _ _ _ _; simp only [St.upd, St.put, List.nil_append, List.cons_append, List.singleton_append, List.append_nil])
      | (simp (disch := omega) only [go_sem, Int.reduceEq, ↓reduceIte, reduceCtorEq, Nat.reduceEqDiff, Nat.reduceLT, Nat.reduceLeDiff, Nat.reduceAdd, Nat.reduceSub, Nat.reduceMul, Int.reduceToNat, Int.reduceLE, Int.reduceLT, QR, Sp_overdubkeep_Within, Sp_overdublaw20_sectors, Sp_overdubkeep_Cut_int, Sp_node_PackRoot, Sp_node_Root, Sp_overdublaw20_lines, Sp_overdubkeep_Cut_node_Line, Sp_node_PackDir, Sp_node_Dir, Sp_overdubkeep_Same_int, Sp_node_Kind, Sp_overdublaw20_wakes, Bool.true_or, Bool.false_or, Bool.or_true, Bool.or_false, hU0, hR0, hnow, n4, n6, tu, tr, tl, hlo, hU, hR, hL, p1, p2, o1, o2, o3, o4, b1, b2, c1, c2, t1, t2, tU, tR, dU, dR, mI_inj, lD_inj]
         (try ((repeat' first | (refine And.intro ?_ ?_) | (intro hc; first | cases hc | ((try rw [hc]); (try simp only [stH] at hc); (try (exfalso; omega)))))
               all_goals first | (refine hK _ _ ?_; clear hK K; simp only [St.upd, St.put, List.nil_append, List.cons_append, List.singleton_append, List.append_nil]) | exact hK | omega))))
  (refine Ends.of (nm []) (by first | exact .inl rfl | exact .inr rfl) ?_; simp (disch := omega) only [go_sem, Int.reduceEq, ↓reduceIte, reduceCtorEq, Nat.reduceEqDiff, Nat.reduceLT, Nat.reduceLeDiff, Nat.reduceAdd, Nat.reduceSub, Nat.reduceMul, Int.reduceToNat, Int.reduceLE, Int.reduceLT, QR, Sp_overdubkeep_Within, Sp_overdublaw20_sectors, Sp_overdubkeep_Cut_int, Sp_node_PackRoot, Sp_node_Root, Sp_overdublaw20_lines, Sp_overdubkeep_Cut_node_Line, Sp_node_PackDir, Sp_node_Dir, Sp_overdubkeep_Same_int, Sp_node_Kind, Sp_overdublaw20_wakes])
end Go.Proofs.Ytigkcigoiinkpaa.Am
