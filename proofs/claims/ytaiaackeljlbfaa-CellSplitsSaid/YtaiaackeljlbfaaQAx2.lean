-- written by the session's turned print (NOTES.md, 'The tool')
import Derived.Test.YtaiaackeljlbfaaQAx0
import Derived.Test.YtaiaackeljlbfaaQAx1
namespace Go.Proofs.Ytaiaackeljlbfaa.QA
open Go.RowKit Go.Proofs.YtaiaackeljlbfaaW.PrintWords Go.Proofs.YtaiaackeljlbfaaW.PrintLast Go.Proofs.YtaiaackeljlbfaaW.PrintMore
attribute [local go_sem] max2_int min2_int max_two min_two max_three min_three max_four min_four   -- for this text's walks alone
set_option linter.unusedVariables false
set_option linter.unusedSimpArgs false

/-! ### overdublaw15_CellSizes: function 3 -/
mutual
def overdublaw15_CellSizes.j0 : Nat → Int → List (S29) → Bool → Option (Bool)
  | 0, _, _, _ => none
  | k + 1, x0, x3, x28 => if x28 = true then (some false) else (overdublaw15_CellSizes.l0 k x0 x3 0 (x3.length : Int) 0)
def overdublaw15_CellSizes.l0 : Nat → Int → List (S29) → Int → Int → Int → Option (Bool)
  | 0, _, _, _, _, _ => none
  | k + 1, x0, x3, x5, x30, x31 => if x31 < x30 then (if 0 ≤ x31 then (if x31 < (x3.length : Int) then (if ((rd_T29 x3 x31).f2) = x31 then (if ((rd_T29 x3 x31).f3) = (x3.length : Int) then (if (wrap64 (x31 + 1)) < (x3.length : Int) then (if (((rd_T29 x3 x31).f4).length : Int) = 112 then (overdublaw15_CellSizes.l0 k x0 x3 (wrap64 (x5 + (((rd_T29 x3 x31).f4).length : Int))) x30 (wrap64 (x31 + 1))) else (some false)) else (overdublaw15_CellSizes.l0 k x0 x3 (wrap64 (x5 + (((rd_T29 x3 x31).f4).length : Int))) x30 (wrap64 (x31 + 1)))) else (some false)) else (some false)) else (none)) else (none)) else (if 7169 ≤ 281474976710656 then ((cells_Split.f k 1 1 (List.replicate 7169 0)).bind fun bt141 => (if x5 = x0 then (if bt141.2 = 4 then ((overdublaw15_wakes.f k).bind fun t145 => (some t145)) else (some false)) else (some false))) else (none))
end
def overdublaw15_CellSizes.f (k : Nat) (a0 : Int) : Option (Bool) := (overdubkeep_Within.f a0 7169).bind fun t125 => (if 0 ≤ t125 then (if (t125 : Int).toNat ≤ 281474976710656 then ((cells_Split.f k 1 1 (List.replicate (t125 : Int).toNat 0)).bind fun bt129 => (if bt129.2 = 0 then (overdublaw15_CellSizes.j0 k t125 bt129.1 ((bt129.1.length : Int) != (mx (wrap64 (Int.tdiv (wrap64 ((wrap64 (t125 + 112)) - 1)) 112)) 1))) else (overdublaw15_CellSizes.j0 k t125 bt129.1 true))) else (none)) else (none))
theorem overdublaw15_CellSizes.mono_l : ∀ k, (∀ y0 y1 y2, LeO (overdublaw15_CellSizes.j0 k y0 y1 y2) (overdublaw15_CellSizes.j0 (k + 1) y0 y1 y2)) ∧ (∀ y0 y1 y2 y3 y4, LeO (overdublaw15_CellSizes.l0 k y0 y1 y2 y3 y4) (overdublaw15_CellSizes.l0 (k + 1) y0 y1 y2 y3 y4))
  | 0 => ⟨fun _ _ _ r h => by simp [overdublaw15_CellSizes.j0] at h, fun _ _ _ _ _ r h => by simp [overdublaw15_CellSizes.l0] at h⟩
  | k + 1 => by
    obtain ⟨ih0, ih1⟩ := overdublaw15_CellSizes.mono_l k
    refine ⟨?_, ?_⟩
    · intro y0 y1 y2
      unfold overdublaw15_CellSizes.j0
      repeat' first
      | (with_reducible exact ih0 _ _ _)
      | (with_reducible exact ih1 _ _ _ _ _)
      | (with_reducible exact cells_Split.mono _ _ _ _)
      | (with_reducible exact overdublaw15_wakes.mono _)
      | (with_reducible exact LeO.refl _)
      | (with_reducible exact LeO.none _)
      | (with_reducible refine LeO.ite ?_ ?_)
      | (with_reducible refine LeO.bind ?_ (fun _ => ?_))
      | exact ih0 _ _ _
      | exact ih1 _ _ _ _ _
      | exact cells_Split.mono _ _ _ _
      | exact overdublaw15_wakes.mono _
      | exact LeO.none _
      | refine LeO.ite ?_ ?_
      | refine LeO.bind ?_ (fun _ => ?_)
    · intro y0 y1 y2 y3 y4
      unfold overdublaw15_CellSizes.l0
      repeat' first
      | (with_reducible exact ih0 _ _ _)
      | (with_reducible exact ih1 _ _ _ _ _)
      | (with_reducible exact cells_Split.mono _ _ _ _)
      | (with_reducible exact overdublaw15_wakes.mono _)
      | (with_reducible exact LeO.refl _)
      | (with_reducible exact LeO.none _)
      | (with_reducible refine LeO.ite ?_ ?_)
      | (with_reducible refine LeO.bind ?_ (fun _ => ?_))
      | exact ih0 _ _ _
      | exact ih1 _ _ _ _ _
      | exact cells_Split.mono _ _ _ _
      | exact overdublaw15_wakes.mono _
      | exact LeO.none _
      | refine LeO.ite ?_ ?_
      | refine LeO.bind ?_ (fun _ => ?_)
theorem overdublaw15_CellSizes.mono : ∀ a0 k, LeO (overdublaw15_CellSizes.f k a0) (overdublaw15_CellSizes.f (k + 1) a0) := by
  intro a0 k
  obtain ⟨ih0, ih1⟩ := overdublaw15_CellSizes.mono_l k
  unfold overdublaw15_CellSizes.f
  repeat' first
      | (with_reducible exact ih0 _ _ _)
      | (with_reducible exact ih1 _ _ _ _ _)
      | (with_reducible exact cells_Split.mono _ _ _ _)
      | (with_reducible exact overdublaw15_wakes.mono _)
      | (with_reducible exact LeO.refl _)
      | (with_reducible exact LeO.none _)
      | (with_reducible refine LeO.ite ?_ ?_)
      | (with_reducible refine LeO.bind ?_ (fun _ => ?_))
      | exact ih0 _ _ _
      | exact ih1 _ _ _ _ _
      | exact cells_Split.mono _ _ _ _
      | exact overdublaw15_wakes.mono _
      | exact LeO.none _
      | refine LeO.ite ?_ ?_
      | refine LeO.bind ?_ (fun _ => ?_)
set_option maxHeartbeats 8000000 in
set_option maxRecDepth 100000 in
theorem overdublaw15_CellSizes.calls (k : Nat) (a0 : Int) (r : Bool) (w : World) (h : overdublaw15_CellSizes.f k a0 = some r) :
    Calls Try.prog 3 #[.int .i64 a0] w fun e w' => e = .returned (.bool r) ∧ Below w.heap.size w w' := by
  have HB := Aside0.mk (Below.refl w.heap.size w)
  have H : ((overdubkeep_Within.f a0 7169).bind fun t125 => (if 0 ≤ t125 then (if (t125 : Int).toNat ≤ 281474976710656 then ((cells_Split.f k 1 1 (List.replicate (t125 : Int).toNat 0)).bind fun bt129 => (if bt129.2 = 0 then (overdublaw15_CellSizes.j0 k t125 bt129.1 ((bt129.1.length : Int) != (mx (wrap64 (Int.tdiv (wrap64 ((wrap64 (t125 + 112)) - 1)) 112)) 1))) else (overdublaw15_CellSizes.j0 k t125 bt129.1 true))) else (none)) else (none))) = some r := h
  clear h
  replace H := Option.bind_eq_some_iff.mp H
  obtain ⟨t125, A20, H⟩ := H
  replace H : (if 0 ≤ t125 then (if (t125 : Int).toNat ≤ 281474976710656 then ((cells_Split.f k 1 1 (List.replicate (t125 : Int).toNat 0)).bind fun bt129 => (if bt129.2 = 0 then (overdublaw15_CellSizes.j0 k t125 bt129.1 ((bt129.1.length : Int) != (mx (wrap64 (Int.tdiv (wrap64 ((wrap64 (t125 + 112)) - 1)) 112)) 1))) else (overdublaw15_CellSizes.j0 k t125 bt129.1 true))) else (none)) else (none)) = some r := H
  have A2 := Aside0.mk A20
  clear A20
  by_cases c3 : 0 ≤ t125
  · rw [if_pos c3] at H
    have c3b0 := eq_true c3
    have c3b1 : decide (0 ≤ t125) = true := decide_eq_true c3
    clear c3
    by_cases c4 : (t125 : Int).toNat ≤ 281474976710656
    · rw [if_pos c4] at H
      have c4b0 := eq_true c4
      have c4b1 : decide ((t125 : Int).toNat ≤ 281474976710656) = true := decide_eq_true c4
      clear c4
      obtain ⟨y126, hy126⟩ : ∃ y_ : List Int, y_ = (List.replicate (t125 : Int).toNat 0) := ⟨_, rfl⟩
      replace H : ((cells_Split.f k 1 1 y126).bind fun bt129 => (if bt129.2 = 0 then (overdublaw15_CellSizes.j0 k t125 bt129.1 ((bt129.1.length : Int) != (mx (wrap64 (Int.tdiv (wrap64 ((wrap64 (t125 + 112)) - 1)) 112)) 1))) else (overdublaw15_CellSizes.j0 k t125 bt129.1 true))) = some r := by first | (rw [hy126]; with_reducible exact H) | (have H2_ := (Option.bind_some _ _).symm.trans H; rw [hy126]; with_reducible exact H2_) | (have H2_ := (Option.bind_some _ _).symm.trans H; with_reducible exact H2_) | with_reducible exact H | (rw [hy126]; exact H) | exact H
      have Ny126 := Aside0.mk hy126
      clear hy126
      replace H := Option.bind_eq_some_iff.mp H
      obtain ⟨⟨t129, t132⟩, A50, H⟩ := H
      replace H : (if t132 = 0 then (overdublaw15_CellSizes.j0 k t125 t129 ((t129.length : Int) != (mx (wrap64 (Int.tdiv (wrap64 ((wrap64 (t125 + 112)) - 1)) 112)) 1))) else (overdublaw15_CellSizes.j0 k t125 t129 true)) = some r := H
      have A5 := Aside0.mk A50
      clear A50
      have HC6 := Aside0.mk H
      clear H
      go_enter Try.func3, Try.ntmps3
      go_upto_region 3 with (first | ((with_reducible refine gate_callee (f := 10) rfl ?_); refine goesL_ (some 10) rfl rfl Try.func10 (by kernel_rfl) rfl #[.int .i64 a0, .int .i64 7169] rfl (by (try simp only [List.map_toArray, List.map_cons, List.map_nil]); first | done | rfl | (simp only [List.length_drop, List.length_take]; rfl)) ?_; (with_reducible refine (overdubkeep_Within.calls a0 7169 t125 _ A2.out).mono ?_); rintro e w' ⟨rfl, ⟨nd, rfl⟩⟩; refine ⟨_, rfl, ?_⟩) | ((with_reducible refine gate_dst (N := 13) rfl ?_); (try (refine gate_guard (by rfl) ?_; dsimp only)); refine Kd.R_make (Kd.int .u8) _ 5 rfl (N := 13) rfl 27 _ _ rfl t125 rfl rfl Try.underlying27 (.int .u8 0) 1 info5 rfl (by decide) (by omega) 0 (ok := fun _ => True) (okp := fun _ => True) rfl (fun _ hk => hk) trivial (of_decide_eq_true (by first | (with_reducible assumption) | assumption)) (Nat.le_trans (Nat.mul_le_mul_right _ (of_decide_eq_true (by first | (with_reducible assumption) | assumption) : t125.toNat ≤ 281474976710656)) (by omega)) (Below.refl _ _) (Nat.le_refl _) ?_; intro v127 w7 ho8 hb hg_ hnew_; clear hg_ hnew_; (first | rw [← Ny126.out] at ho8 | (simp only [Int.reduceToNat] at ho8; rw [← Ny126.out] at ho8)); have n0_ := Aside0.mk (Kd.R_lower ho8 (below_size (by repeat (first | (with_reducible first | exact HB.out | apply below_alloc | apply pw_below_drewN | apply below_drew1) | exact HB.out)))); have n1_ := Aside0.mk (below_step (by repeat (first | (with_reducible first | exact HB.out | apply below_alloc | apply pw_below_drewN | apply below_drew1) | exact HB.out)) hb); clear HB; have HO128 := n0_; have HB := n1_; clear n0_ n1_; clear hb ho8; obtain ⟨Ao9, co9, eo9⟩ := Kd.R_slice HO128.out; subst eo9) | ((with_reducible refine gate_callee (f := 11) rfl ?_); refine goesL_ (some 14) rfl rfl Try.func11 (by kernel_rfl) rfl #[.int .i64 1, .int .i64 1, .slice Ao9 y126.length co9] rfl (by (try simp only [List.map_toArray, List.map_cons, List.map_nil]); first | done | rfl | (simp only [List.length_drop, List.length_take]; rfl)) ?_; (with_reducible refine (cells_Split.calls k 1 1 (fun k_ => some k_ = (.slice Ao9 y126.length co9 : Value).ownBlock) _ _ y126 t129 t132 _ ?side1 A5.out).mono ?_); (case side1 => exact Kd.R_V (Kd.R_tight rfl (HO128.out))); rintro e w10 ⟨v130, rfl, ho0, hb⟩; refine ⟨_, rfl, ?_⟩; have n0_ := Aside0.mk (Kd.R_below (by (with_reducible repeat (first | apply Kd.R_alloc | apply Kd.R_drewN | apply Kd.R_drew)); exact HO128.out) hb); have n1_ := Aside0.mk (Kd.S_lower (Kd.S_new' (Kd.S_mono (ok' := fun k_ => True) ho0 (fun _ hk_ => trivial)) (Kd.R_lt (by (with_reducible repeat (first | apply Kd.R_alloc | apply Kd.R_drewN | apply Kd.R_drew)); exact HO128.out))) (below_size (by repeat (first | (with_reducible first | exact HB.out | apply below_alloc | apply pw_below_drewN | apply below_drew1) | exact HB.out)))); have n2_ := Aside0.mk (below_step (by repeat (first | (with_reducible first | exact HB.out | apply below_alloc | apply pw_below_drewN | apply below_drew1) | exact HB.out)) hb); clear HO128; clear HB; have HO128 := n0_; have HO131 := n1_; have HB := n2_; clear n0_ n1_ n2_; (try clear hb); (try clear hb2); (try clear hk); (try clear hi); (try clear ho0)))
      (try simp only [Act.put, List.setIfInBounds_toArray, List.set_cons_zero, List.set_cons_succ])
      go_cut [28] (fun v28 wc => ∃ (kq : Nat) (x28_5 : Bool), v28 = .bool x28_5 ∧ Aside0 (overdublaw15_CellSizes.j0 kq t125 t129 x28_5 = some r) ∧ Aside0 (kq ≤ k) ∧ Aside0 (Kd.S k29 29 wc w.heap.size (fun _ => True) v130 t129) ∧ Aside0 (Below w.heap.size w wc))
      case first =>
        have H := HC6.out
        clear HC6
        by_cases c11 : t132 = 0
        · rw [if_pos c11] at H
          have c11b0 : (t132 == 0) = true := beq_iff_eq.mpr c11
          have c11b1 : (t132 != 0) = false := bne_eq_false_iff_eq.mpr c11
          clear c11
          (first | rw [c11b0] | (simp only [i64_w, i32_w]; rw [c11b0]) | skip)
          obtain ⟨ji12, hji12⟩ : ∃ j_ : Int, (mx (wrap64 (Int.tdiv (wrap64 ((wrap64 (t125 + 112)) - 1)) 112)) 1) = j_ := ⟨_, rfl⟩
          replace H : (overdublaw15_CellSizes.j0 k t125 t129 ((t129.length : Int) != (ji12))) = some r := by first | (rw [hji12] at H; exact H) | (simp only [hji12] at H ⊢; exact H)
          (try (have hji12l : 1 ≤ ji12 := by (rw [← hji12]; unfold mx; (repeat' split) <;> omega)))
          (try (have hji12m : 0 ≤ ji12 := by omega))
          have hji12_ : (if (wrap64 (Int.tdiv (wrap64 ((wrap64 (t125 + 112)) - 1)) 112)) < 1 then 1 else (wrap64 (Int.tdiv (wrap64 ((wrap64 (t125 + 112)) - 1)) 112))) = ji12 := hji12
          have H' := Aside0.mk H
          clear H
          obtain ⟨Ao13, co13, eo13⟩ := Kd.S_slice HO131.out
          subst eo13
          go_wp2
          go_meet
          case rel => exact ⟨_, (((t129.length : Int) != (ji12))), (by first | rfl | (simp; done) | (simp only [← hji12] <;> (first | rfl | simp)) | (simp [*]; done)), H', ⟨by first | omega | exact Nat.le_refl _⟩, ⟨by (with_reducible repeat (first | apply Kd.S_alloc | apply Kd.S_drewN | apply Kd.S_drew)); exact Kd.S_mono HO131.out (fun _ hk => trivial)⟩, ⟨by repeat (first | (with_reducible first | exact HB.out | apply below_alloc | apply pw_below_drewN | apply below_drew1) | exact HB.out)⟩⟩
        · rw [if_neg c11] at H
          have c11b0 : (t132 == 0) = false := beq_eq_false_iff_ne.mpr c11
          have c11b1 : (t132 != 0) = true := bne_iff_ne.mpr c11
          (first | rw [c11b0] | (simp only [i64_w, i32_w]; rw [c11b0]) | skip)
          have H' := Aside0.mk H
          clear H
          go_wp2
          go_meet
          case rel => exact ⟨_, (true), (by first | rfl | (simp; done) | (simp [*]; done)), H', ⟨by first | omega | exact Nat.le_refl _⟩, ⟨by (with_reducible repeat (first | apply Kd.S_alloc | apply Kd.S_drewN | apply Kd.S_drew)); exact Kd.S_mono HO131.out (fun _ hk => trivial)⟩, ⟨by repeat (first | (with_reducible first | exact HB.out | apply below_alloc | apply pw_below_drewN | apply below_drew1) | exact HB.out)⟩⟩
      case rest =>
        clear HC6
        try clear c1
        try clear p2
        try clear c3
        try clear c3b0
        try clear c3b1
        try clear c4
        try clear c4b0
        try clear c4b1
        try clear p6
        try clear c10
        try clear c11
        try clear c11b0
        try clear c11b1
        obtain ⟨kq, x28_5, rfl, HA, HJ5, HO_3, HB⟩ := hcut
        cases kq with
        | zero => exact absurd HA.out (by simp [overdublaw15_CellSizes.j0])
        | succ kj5 =>
          have H := HA.out
          clear HA
          simp only [overdublaw15_CellSizes.j0] at H
          by_cases c14 : x28_5 = true
          · subst c14
            have H1 : (some false) = some r := by rw [if_pos rfl] at H; exact H
            clear H
            have H := H1
            clear H1
            obtain rfl := Option.some.inj H
            go_wp2
            go_ret
            exact ⟨by first | rfl | (simp [errW_none, errW_some] <;> rfl) | (simp [*, errW_none, errW_some] <;> rfl), by repeat (first | (with_reducible first | exact HB.out | apply below_alloc | apply pw_below_drewN | apply below_drew1) | exact HB.out)⟩
          · replace c14 := Bool.eq_false_iff.mpr c14
            subst c14
            have H1 : (overdublaw15_CellSizes.l0 kj5 t125 t129 0 (t129.length : Int) 0) = some r := by rw [if_neg (show ¬ (false = true) by decide)] at H; exact H
            clear H
            have H := H1
            clear H1
            have H' := Aside0.mk H
            clear H
            obtain ⟨Ao15, co15, eo15⟩ := Kd.S_slice HO_3.out
            subst eo15
            go_wp2
            go_loopg [5, 31] kj5 (fun kq v5 v31 w' => ∃ (x5_2 : Int) (x31_2 : Int), v5 = .int .i64 x5_2 ∧ v31 = .int .i64 x31_2 ∧ Aside0 (overdublaw15_CellSizes.l0 kq t125 t129 x5_2 (t129.length : Int) x31_2 = some r) ∧ Aside0 (kq ≤ kj5) ∧ Aside0 (Kd.S k29 29 w' w.heap.size (fun _ => True) (.slice Ao15 t129.length co15) t129) ∧ Aside0 (Below w.heap.size w w'))
            case atStart => exact ⟨(0), (0), (by first | rfl | (simp; done) | (simp [*]; done)), (by first | rfl | (simp; done) | (simp [*]; done)), H', ⟨Nat.le_refl _⟩, ⟨by (with_reducible repeat (first | apply Kd.S_alloc | apply Kd.S_drewN | apply Kd.S_drew)); exact HO_3.out⟩, ⟨by repeat (first | (with_reducible first | exact HB.out | apply below_alloc | apply pw_below_drewN | apply below_drew1) | exact HB.out)⟩⟩
            case round =>
              clear H'
              try clear c1
              try clear p2
              try clear c3
              try clear c3b0
              try clear c3b1
              try clear c4
              try clear c4b0
              try clear c4b1
              try clear p6
              try clear c10
              try clear c11
              try clear c11b0
              try clear c11b1
              try clear c14
              try clear p2
              try clear p6
              obtain ⟨x5_2, x31_2, rfl, rfl, HA, HK2, HO_3, HB⟩ := hrel
              cases gk with
              | zero => exact absurd HA.out (by simp [overdublaw15_CellSizes.l0])
              | succ k2 =>
                have H := HA.out
                clear HA
                simp only [overdublaw15_CellSizes.l0] at H
                by_cases c16 : x31_2 < (t129.length : Int)
                · rw [if_pos c16] at H
                  have c16b0 : decide (x31_2 < (t129.length : Int)) = true := decide_eq_true c16
                  clear c16
                  by_cases c17 : 0 ≤ x31_2
                  · rw [if_pos c17] at H
                    have c17b0 : decide (0 ≤ x31_2) = true := decide_eq_true c17
                    clear c17
                    by_cases c18 : x31_2 < (t129.length : Int)
                    · rw [if_pos c18] at H
                      have c18b0 : decide (x31_2 < (t129.length : Int)) = true := decide_eq_true c18
                      clear c18
                      by_cases c19 : ((rd_T29 t129 x31_2).f2) = x31_2
                      · rw [if_pos c19] at H
                        have c19b0 : (((rd_T29 t129 x31_2).f2) == x31_2) = true := beq_iff_eq.mpr c19
                        have c19b1 : (((rd_T29 t129 x31_2).f2) != x31_2) = false := bne_eq_false_iff_eq.mpr c19
                        clear c19
                        by_cases c20 : ((rd_T29 t129 x31_2).f3) = (t129.length : Int)
                        · rw [if_pos c20] at H
                          have c20b0 : (((rd_T29 t129 x31_2).f3) == (t129.length : Int)) = true := beq_iff_eq.mpr c20
                          have c20b1 : (((rd_T29 t129 x31_2).f3) != (t129.length : Int)) = false := bne_eq_false_iff_eq.mpr c20
                          clear c20
                          by_cases c21 : (wrap64 (x31_2 + 1)) < (t129.length : Int)
                          · rw [if_pos c21] at H
                            have c21b0 : decide ((wrap64 (x31_2 + 1)) < (t129.length : Int)) = true := decide_eq_true c21
                            clear c21
                            by_cases c22 : (((rd_T29 t129 x31_2).f4).length : Int) = 112
                            · rw [if_pos c22] at H
                              have c22b0 : ((((rd_T29 t129 x31_2).f4).length : Int) == 112) = true := beq_iff_eq.mpr c22
                              have c22b1 : ((((rd_T29 t129 x31_2).f4).length : Int) != 112) = false := bne_eq_false_iff_eq.mpr c22
                              clear c22
                              have H' := Aside0.mk H
                              clear H
                              have p133 : 0 ≤ (x31_2 : Int) := of_decide_eq_true (by first | (with_reducible assumption) | assumption)
                              have q133 : x31_2 < (t129.length : Int) := of_decide_eq_true (by first | (with_reducible assumption) | assumption)
                              obtain ⟨ad133, A133_4, c133_4, e133, hx133_0, hx133_1, hx133_2, hx133_3, hx133_4, hl133_4, hi133_4⟩ := at_T29 (Kd.S_reads' HO_3.out).2.2 x31_2 p133 q133
                              cases e133
                              obtain ⟨ce133, hce133, hMe133, hcc133⟩ := Kd.S_get HO_3.out z29 x31_2 p133 (by first | exact q133 | exact of_decide_eq_true (by first | (with_reducible assumption) | assumption) | (have e_ := (Kd.S_reads' HO_3.out).1; omega))
                              obtain ⟨ve133_4, rfl, ge133_4⟩ := k29_openM hMe133
                              have hv133_4 := hcc133 4 _ rfl
                              rw [add_field _ _ 4 (by omega)] at hv133_4
                              replace hv133_4 := Option.some.inj (hv133_4.symm.trans hx133_4)
                              rw [hv133_4] at ge133_4
                              have HL133_4 := Aside0.mk (show Kd.R (Kd.int .u8) 5 _ _ _ _ ((rd_T29 t129 x31_2).f4) from ge133_4)
                              clear hv133_4 ge133_4
                              clear hcc133 hce133
                              have HR133_4 := Aside0.mk hi133_4
                              have HC133_4 := Aside0.mk hl133_4
                              clear hi133_4 hl133_4
                              replace p133 := eq_true p133
                              replace q133 := eq_true q133
                              have p134 : 0 ≤ (x31_2 : Int) := of_decide_eq_true (by first | (with_reducible assumption) | assumption)
                              have q134 : x31_2 < (t129.length : Int) := of_decide_eq_true (by first | (with_reducible assumption) | assumption)
                              obtain ⟨ad134, A134_4, c134_4, e134, hx134_0, hx134_1, hx134_2, hx134_3, hx134_4, hl134_4, hi134_4⟩ := at_T29 (Kd.S_reads' HO_3.out).2.2 x31_2 p134 q134
                              obtain rfl : ad133 = ad134 := (by injection e134)
                              obtain ⟨ce134, hce134, hMe134, hcc134⟩ := Kd.S_get HO_3.out z29 x31_2 p134 (by first | exact q134 | exact of_decide_eq_true (by first | (with_reducible assumption) | assumption) | (have e_ := (Kd.S_reads' HO_3.out).1; omega))
                              obtain ⟨ve134_4, rfl, ge134_4⟩ := k29_openM hMe134
                              have hv134_4 := hcc134 4 _ rfl
                              rw [add_field _ _ 4 (by omega)] at hv134_4
                              replace hv134_4 := Option.some.inj (hv134_4.symm.trans hx134_4)
                              rw [hv134_4] at ge134_4
                              have HL134_4 := Aside0.mk (show Kd.R (Kd.int .u8) 5 _ _ _ _ ((rd_T29 t129 x31_2).f4) from ge134_4)
                              clear hv134_4 ge134_4
                              clear hcc134 hce134
                              have HR134_4 := Aside0.mk hi134_4
                              have HC134_4 := Aside0.mk hl134_4
                              clear hi134_4 hl134_4
                              replace p134 := eq_true p134
                              replace q134 := eq_true q134
                              have ea_ := Option.some.inj (hx133_4.symm.trans hx134_4)
                              injection ea_ with ea_ en_ ec_
                              subst ea_
                              subst ec_
                              clear en_
                              have p135 : 0 ≤ (x31_2 : Int) := of_decide_eq_true (by first | (with_reducible assumption) | assumption)
                              have q135 : x31_2 < (t129.length : Int) := of_decide_eq_true (by first | (with_reducible assumption) | assumption)
                              obtain ⟨ad135, A135_4, c135_4, e135, hx135_0, hx135_1, hx135_2, hx135_3, hx135_4, hl135_4, hi135_4⟩ := at_T29 (Kd.S_reads' HO_3.out).2.2 x31_2 p135 q135
                              obtain rfl : ad133 = ad135 := (by injection e135)
                              obtain ⟨ce135, hce135, hMe135, hcc135⟩ := Kd.S_get HO_3.out z29 x31_2 p135 (by first | exact q135 | exact of_decide_eq_true (by first | (with_reducible assumption) | assumption) | (have e_ := (Kd.S_reads' HO_3.out).1; omega))
                              obtain ⟨ve135_4, rfl, ge135_4⟩ := k29_openM hMe135
                              have hv135_4 := hcc135 4 _ rfl
                              rw [add_field _ _ 4 (by omega)] at hv135_4
                              replace hv135_4 := Option.some.inj (hv135_4.symm.trans hx135_4)
                              rw [hv135_4] at ge135_4
                              have HL135_4 := Aside0.mk (show Kd.R (Kd.int .u8) 5 _ _ _ _ ((rd_T29 t129 x31_2).f4) from ge135_4)
                              clear hv135_4 ge135_4
                              clear hcc135 hce135
                              have HR135_4 := Aside0.mk hi135_4
                              have HC135_4 := Aside0.mk hl135_4
                              clear hi135_4 hl135_4
                              replace p135 := eq_true p135
                              replace q135 := eq_true q135
                              have ea_ := Option.some.inj (hx133_4.symm.trans hx135_4)
                              injection ea_ with ea_ en_ ec_
                              subst ea_
                              subst ec_
                              clear en_
                              have p136 : 0 ≤ (x31_2 : Int) := of_decide_eq_true (by first | (with_reducible assumption) | assumption)
                              have q136 : x31_2 < (t129.length : Int) := of_decide_eq_true (by first | (with_reducible assumption) | assumption)
                              obtain ⟨ad136, A136_4, c136_4, e136, hx136_0, hx136_1, hx136_2, hx136_3, hx136_4, hl136_4, hi136_4⟩ := at_T29 (Kd.S_reads' HO_3.out).2.2 x31_2 p136 q136
                              obtain rfl : ad133 = ad136 := (by injection e136)
                              obtain ⟨ce136, hce136, hMe136, hcc136⟩ := Kd.S_get HO_3.out z29 x31_2 p136 (by first | exact q136 | exact of_decide_eq_true (by first | (with_reducible assumption) | assumption) | (have e_ := (Kd.S_reads' HO_3.out).1; omega))
                              obtain ⟨ve136_4, rfl, ge136_4⟩ := k29_openM hMe136
                              have hv136_4 := hcc136 4 _ rfl
                              rw [add_field _ _ 4 (by omega)] at hv136_4
                              replace hv136_4 := Option.some.inj (hv136_4.symm.trans hx136_4)
                              rw [hv136_4] at ge136_4
                              have HL136_4 := Aside0.mk (show Kd.R (Kd.int .u8) 5 _ _ _ _ ((rd_T29 t129 x31_2).f4) from ge136_4)
                              clear hv136_4 ge136_4
                              clear hcc136 hce136
                              have HR136_4 := Aside0.mk hi136_4
                              have HC136_4 := Aside0.mk hl136_4
                              clear hi136_4 hl136_4
                              replace p136 := eq_true p136
                              replace q136 := eq_true q136
                              have ea_ := Option.some.inj (hx133_4.symm.trans hx136_4)
                              injection ea_ with ea_ en_ ec_
                              subst ea_
                              subst ec_
                              clear en_
                              go_wp2
                              go_roundg k2
                              case measure => have := HJ5.out; have := HK2.out; omega
                              case rel => exact ⟨(wrap64 (x5_2 + (((rd_T29 t129 x31_2).f4).length : Int))), (wrap64 (x31_2 + 1)), (by first | rfl | (simp; done) | (simp [*]; done)), (by first | rfl | (simp; done) | (simp [*]; done)), H', ⟨by have := HJ5.out; have := HK2.out; omega⟩, ⟨by (with_reducible repeat (first | apply Kd.S_alloc | apply Kd.S_drewN | apply Kd.S_drew)); exact HO_3.out⟩, ⟨by repeat (first | (with_reducible first | exact HB.out | apply below_alloc | apply pw_below_drewN | apply below_drew1) | exact HB.out)⟩⟩
                            · rw [if_neg c22] at H
                              have c22b0 : ((((rd_T29 t129 x31_2).f4).length : Int) == 112) = false := beq_eq_false_iff_ne.mpr c22
                              have c22b1 : ((((rd_T29 t129 x31_2).f4).length : Int) != 112) = true := bne_iff_ne.mpr c22
                              obtain rfl := Option.some.inj H
                              have p133 : 0 ≤ (x31_2 : Int) := of_decide_eq_true (by first | (with_reducible assumption) | assumption)
                              have q133 : x31_2 < (t129.length : Int) := of_decide_eq_true (by first | (with_reducible assumption) | assumption)
                              obtain ⟨ad133, A133_4, c133_4, e133, hx133_0, hx133_1, hx133_2, hx133_3, hx133_4, hl133_4, hi133_4⟩ := at_T29 (Kd.S_reads' HO_3.out).2.2 x31_2 p133 q133
                              cases e133
                              obtain ⟨ce133, hce133, hMe133, hcc133⟩ := Kd.S_get HO_3.out z29 x31_2 p133 (by first | exact q133 | exact of_decide_eq_true (by first | (with_reducible assumption) | assumption) | (have e_ := (Kd.S_reads' HO_3.out).1; omega))
                              obtain ⟨ve133_4, rfl, ge133_4⟩ := k29_openM hMe133
                              have hv133_4 := hcc133 4 _ rfl
                              rw [add_field _ _ 4 (by omega)] at hv133_4
                              replace hv133_4 := Option.some.inj (hv133_4.symm.trans hx133_4)
                              rw [hv133_4] at ge133_4
                              have HL133_4 := Aside0.mk (show Kd.R (Kd.int .u8) 5 _ _ _ _ ((rd_T29 t129 x31_2).f4) from ge133_4)
                              clear hv133_4 ge133_4
                              clear hcc133 hce133
                              have HR133_4 := Aside0.mk hi133_4
                              have HC133_4 := Aside0.mk hl133_4
                              clear hi133_4 hl133_4
                              replace p133 := eq_true p133
                              replace q133 := eq_true q133
                              have p134 : 0 ≤ (x31_2 : Int) := of_decide_eq_true (by first | (with_reducible assumption) | assumption)
                              have q134 : x31_2 < (t129.length : Int) := of_decide_eq_true (by first | (with_reducible assumption) | assumption)
                              obtain ⟨ad134, A134_4, c134_4, e134, hx134_0, hx134_1, hx134_2, hx134_3, hx134_4, hl134_4, hi134_4⟩ := at_T29 (Kd.S_reads' HO_3.out).2.2 x31_2 p134 q134
                              obtain rfl : ad133 = ad134 := (by injection e134)
                              obtain ⟨ce134, hce134, hMe134, hcc134⟩ := Kd.S_get HO_3.out z29 x31_2 p134 (by first | exact q134 | exact of_decide_eq_true (by first | (with_reducible assumption) | assumption) | (have e_ := (Kd.S_reads' HO_3.out).1; omega))
                              obtain ⟨ve134_4, rfl, ge134_4⟩ := k29_openM hMe134
                              have hv134_4 := hcc134 4 _ rfl
                              rw [add_field _ _ 4 (by omega)] at hv134_4
                              replace hv134_4 := Option.some.inj (hv134_4.symm.trans hx134_4)
                              rw [hv134_4] at ge134_4
                              have HL134_4 := Aside0.mk (show Kd.R (Kd.int .u8) 5 _ _ _ _ ((rd_T29 t129 x31_2).f4) from ge134_4)
                              clear hv134_4 ge134_4
                              clear hcc134 hce134
                              have HR134_4 := Aside0.mk hi134_4
                              have HC134_4 := Aside0.mk hl134_4
                              clear hi134_4 hl134_4
                              replace p134 := eq_true p134
                              replace q134 := eq_true q134
                              have ea_ := Option.some.inj (hx133_4.symm.trans hx134_4)
                              injection ea_ with ea_ en_ ec_
                              subst ea_
                              subst ec_
                              clear en_
                              have p135 : 0 ≤ (x31_2 : Int) := of_decide_eq_true (by first | (with_reducible assumption) | assumption)
                              have q135 : x31_2 < (t129.length : Int) := of_decide_eq_true (by first | (with_reducible assumption) | assumption)
                              obtain ⟨ad135, A135_4, c135_4, e135, hx135_0, hx135_1, hx135_2, hx135_3, hx135_4, hl135_4, hi135_4⟩ := at_T29 (Kd.S_reads' HO_3.out).2.2 x31_2 p135 q135
                              obtain rfl : ad133 = ad135 := (by injection e135)
                              obtain ⟨ce135, hce135, hMe135, hcc135⟩ := Kd.S_get HO_3.out z29 x31_2 p135 (by first | exact q135 | exact of_decide_eq_true (by first | (with_reducible assumption) | assumption) | (have e_ := (Kd.S_reads' HO_3.out).1; omega))
                              obtain ⟨ve135_4, rfl, ge135_4⟩ := k29_openM hMe135
                              have hv135_4 := hcc135 4 _ rfl
                              rw [add_field _ _ 4 (by omega)] at hv135_4
                              replace hv135_4 := Option.some.inj (hv135_4.symm.trans hx135_4)
                              rw [hv135_4] at ge135_4
                              have HL135_4 := Aside0.mk (show Kd.R (Kd.int .u8) 5 _ _ _ _ ((rd_T29 t129 x31_2).f4) from ge135_4)
                              clear hv135_4 ge135_4
                              clear hcc135 hce135
                              have HR135_4 := Aside0.mk hi135_4
                              have HC135_4 := Aside0.mk hl135_4
                              clear hi135_4 hl135_4
                              replace p135 := eq_true p135
                              replace q135 := eq_true q135
                              have ea_ := Option.some.inj (hx133_4.symm.trans hx135_4)
                              injection ea_ with ea_ en_ ec_
                              subst ea_
                              subst ec_
                              clear en_
                              go_wp2
                              go_ret
                              exact ⟨by first | rfl | (simp [errW_none, errW_some] <;> rfl) | (simp [*, errW_none, errW_some] <;> rfl), by repeat (first | (with_reducible first | exact HB.out | apply below_alloc | apply pw_below_drewN | apply below_drew1) | exact HB.out)⟩
                          · rw [if_neg c21] at H
                            have c21b0 : decide ((wrap64 (x31_2 + 1)) < (t129.length : Int)) = false := decide_eq_false c21
                            clear c21
                            have H' := Aside0.mk H
                            clear H
                            have p133 : 0 ≤ (x31_2 : Int) := of_decide_eq_true (by first | (with_reducible assumption) | assumption)
                            have q133 : x31_2 < (t129.length : Int) := of_decide_eq_true (by first | (with_reducible assumption) | assumption)
                            obtain ⟨ad133, A133_4, c133_4, e133, hx133_0, hx133_1, hx133_2, hx133_3, hx133_4, hl133_4, hi133_4⟩ := at_T29 (Kd.S_reads' HO_3.out).2.2 x31_2 p133 q133
                            cases e133
                            obtain ⟨ce133, hce133, hMe133, hcc133⟩ := Kd.S_get HO_3.out z29 x31_2 p133 (by first | exact q133 | exact of_decide_eq_true (by first | (with_reducible assumption) | assumption) | (have e_ := (Kd.S_reads' HO_3.out).1; omega))
                            obtain ⟨ve133_4, rfl, ge133_4⟩ := k29_openM hMe133
                            have hv133_4 := hcc133 4 _ rfl
                            rw [add_field _ _ 4 (by omega)] at hv133_4
                            replace hv133_4 := Option.some.inj (hv133_4.symm.trans hx133_4)
                            rw [hv133_4] at ge133_4
                            have HL133_4 := Aside0.mk (show Kd.R (Kd.int .u8) 5 _ _ _ _ ((rd_T29 t129 x31_2).f4) from ge133_4)
                            clear hv133_4 ge133_4
                            clear hcc133 hce133
                            have HR133_4 := Aside0.mk hi133_4
                            have HC133_4 := Aside0.mk hl133_4
                            clear hi133_4 hl133_4
                            replace p133 := eq_true p133
                            replace q133 := eq_true q133
                            have p134 : 0 ≤ (x31_2 : Int) := of_decide_eq_true (by first | (with_reducible assumption) | assumption)
                            have q134 : x31_2 < (t129.length : Int) := of_decide_eq_true (by first | (with_reducible assumption) | assumption)
                            obtain ⟨ad134, A134_4, c134_4, e134, hx134_0, hx134_1, hx134_2, hx134_3, hx134_4, hl134_4, hi134_4⟩ := at_T29 (Kd.S_reads' HO_3.out).2.2 x31_2 p134 q134
                            obtain rfl : ad133 = ad134 := (by injection e134)
                            obtain ⟨ce134, hce134, hMe134, hcc134⟩ := Kd.S_get HO_3.out z29 x31_2 p134 (by first | exact q134 | exact of_decide_eq_true (by first | (with_reducible assumption) | assumption) | (have e_ := (Kd.S_reads' HO_3.out).1; omega))
                            obtain ⟨ve134_4, rfl, ge134_4⟩ := k29_openM hMe134
                            have hv134_4 := hcc134 4 _ rfl
                            rw [add_field _ _ 4 (by omega)] at hv134_4
                            replace hv134_4 := Option.some.inj (hv134_4.symm.trans hx134_4)
                            rw [hv134_4] at ge134_4
                            have HL134_4 := Aside0.mk (show Kd.R (Kd.int .u8) 5 _ _ _ _ ((rd_T29 t129 x31_2).f4) from ge134_4)
                            clear hv134_4 ge134_4
                            clear hcc134 hce134
                            have HR134_4 := Aside0.mk hi134_4
                            have HC134_4 := Aside0.mk hl134_4
                            clear hi134_4 hl134_4
                            replace p134 := eq_true p134
                            replace q134 := eq_true q134
                            have ea_ := Option.some.inj (hx133_4.symm.trans hx134_4)
                            injection ea_ with ea_ en_ ec_
                            subst ea_
                            subst ec_
                            clear en_
                            have p137 : 0 ≤ (x31_2 : Int) := of_decide_eq_true (by first | (with_reducible assumption) | assumption)
                            have q137 : x31_2 < (t129.length : Int) := of_decide_eq_true (by first | (with_reducible assumption) | assumption)
                            obtain ⟨ad137, A137_4, c137_4, e137, hx137_0, hx137_1, hx137_2, hx137_3, hx137_4, hl137_4, hi137_4⟩ := at_T29 (Kd.S_reads' HO_3.out).2.2 x31_2 p137 q137
                            obtain rfl : ad133 = ad137 := (by injection e137)
                            obtain ⟨ce137, hce137, hMe137, hcc137⟩ := Kd.S_get HO_3.out z29 x31_2 p137 (by first | exact q137 | exact of_decide_eq_true (by first | (with_reducible assumption) | assumption) | (have e_ := (Kd.S_reads' HO_3.out).1; omega))
                            obtain ⟨ve137_4, rfl, ge137_4⟩ := k29_openM hMe137
                            have hv137_4 := hcc137 4 _ rfl
                            rw [add_field _ _ 4 (by omega)] at hv137_4
                            replace hv137_4 := Option.some.inj (hv137_4.symm.trans hx137_4)
                            rw [hv137_4] at ge137_4
                            have HL137_4 := Aside0.mk (show Kd.R (Kd.int .u8) 5 _ _ _ _ ((rd_T29 t129 x31_2).f4) from ge137_4)
                            clear hv137_4 ge137_4
                            clear hcc137 hce137
                            have HR137_4 := Aside0.mk hi137_4
                            have HC137_4 := Aside0.mk hl137_4
                            clear hi137_4 hl137_4
                            replace p137 := eq_true p137
                            replace q137 := eq_true q137
                            have ea_ := Option.some.inj (hx133_4.symm.trans hx137_4)
                            injection ea_ with ea_ en_ ec_
                            subst ea_
                            subst ec_
                            clear en_
                            go_wp2
                            go_roundg k2
                            case measure => have := HJ5.out; have := HK2.out; omega
                            case rel => exact ⟨(wrap64 (x5_2 + (((rd_T29 t129 x31_2).f4).length : Int))), (wrap64 (x31_2 + 1)), (by first | rfl | (simp; done) | (simp [*]; done)), (by first | rfl | (simp; done) | (simp [*]; done)), H', ⟨by have := HJ5.out; have := HK2.out; omega⟩, ⟨by (with_reducible repeat (first | apply Kd.S_alloc | apply Kd.S_drewN | apply Kd.S_drew)); exact HO_3.out⟩, ⟨by repeat (first | (with_reducible first | exact HB.out | apply below_alloc | apply pw_below_drewN | apply below_drew1) | exact HB.out)⟩⟩
                        · rw [if_neg c20] at H
                          have c20b0 : (((rd_T29 t129 x31_2).f3) == (t129.length : Int)) = false := beq_eq_false_iff_ne.mpr c20
                          have c20b1 : (((rd_T29 t129 x31_2).f3) != (t129.length : Int)) = true := bne_iff_ne.mpr c20
                          obtain rfl := Option.some.inj H
                          have p133 : 0 ≤ (x31_2 : Int) := of_decide_eq_true (by first | (with_reducible assumption) | assumption)
                          have q133 : x31_2 < (t129.length : Int) := of_decide_eq_true (by first | (with_reducible assumption) | assumption)
                          obtain ⟨ad133, A133_4, c133_4, e133, hx133_0, hx133_1, hx133_2, hx133_3, hx133_4, hl133_4, hi133_4⟩ := at_T29 (Kd.S_reads' HO_3.out).2.2 x31_2 p133 q133
                          cases e133
                          obtain ⟨ce133, hce133, hMe133, hcc133⟩ := Kd.S_get HO_3.out z29 x31_2 p133 (by first | exact q133 | exact of_decide_eq_true (by first | (with_reducible assumption) | assumption) | (have e_ := (Kd.S_reads' HO_3.out).1; omega))
                          obtain ⟨ve133_4, rfl, ge133_4⟩ := k29_openM hMe133
                          have hv133_4 := hcc133 4 _ rfl
                          rw [add_field _ _ 4 (by omega)] at hv133_4
                          replace hv133_4 := Option.some.inj (hv133_4.symm.trans hx133_4)
                          rw [hv133_4] at ge133_4
                          have HL133_4 := Aside0.mk (show Kd.R (Kd.int .u8) 5 _ _ _ _ ((rd_T29 t129 x31_2).f4) from ge133_4)
                          clear hv133_4 ge133_4
                          clear hcc133 hce133
                          have HR133_4 := Aside0.mk hi133_4
                          have HC133_4 := Aside0.mk hl133_4
                          clear hi133_4 hl133_4
                          replace p133 := eq_true p133
                          replace q133 := eq_true q133
                          have p134 : 0 ≤ (x31_2 : Int) := of_decide_eq_true (by first | (with_reducible assumption) | assumption)
                          have q134 : x31_2 < (t129.length : Int) := of_decide_eq_true (by first | (with_reducible assumption) | assumption)
                          obtain ⟨ad134, A134_4, c134_4, e134, hx134_0, hx134_1, hx134_2, hx134_3, hx134_4, hl134_4, hi134_4⟩ := at_T29 (Kd.S_reads' HO_3.out).2.2 x31_2 p134 q134
                          obtain rfl : ad133 = ad134 := (by injection e134)
                          obtain ⟨ce134, hce134, hMe134, hcc134⟩ := Kd.S_get HO_3.out z29 x31_2 p134 (by first | exact q134 | exact of_decide_eq_true (by first | (with_reducible assumption) | assumption) | (have e_ := (Kd.S_reads' HO_3.out).1; omega))
                          obtain ⟨ve134_4, rfl, ge134_4⟩ := k29_openM hMe134
                          have hv134_4 := hcc134 4 _ rfl
                          rw [add_field _ _ 4 (by omega)] at hv134_4
                          replace hv134_4 := Option.some.inj (hv134_4.symm.trans hx134_4)
                          rw [hv134_4] at ge134_4
                          have HL134_4 := Aside0.mk (show Kd.R (Kd.int .u8) 5 _ _ _ _ ((rd_T29 t129 x31_2).f4) from ge134_4)
                          clear hv134_4 ge134_4
                          clear hcc134 hce134
                          have HR134_4 := Aside0.mk hi134_4
                          have HC134_4 := Aside0.mk hl134_4
                          clear hi134_4 hl134_4
                          replace p134 := eq_true p134
                          replace q134 := eq_true q134
                          have ea_ := Option.some.inj (hx133_4.symm.trans hx134_4)
                          injection ea_ with ea_ en_ ec_
                          subst ea_
                          subst ec_
                          clear en_
                          go_wp2
                          go_ret
                          exact ⟨by first | rfl | (simp [errW_none, errW_some] <;> rfl) | (simp [*, errW_none, errW_some] <;> rfl), by repeat (first | (with_reducible first | exact HB.out | apply below_alloc | apply pw_below_drewN | apply below_drew1) | exact HB.out)⟩
                      · rw [if_neg c19] at H
                        have c19b0 : (((rd_T29 t129 x31_2).f2) == x31_2) = false := beq_eq_false_iff_ne.mpr c19
                        have c19b1 : (((rd_T29 t129 x31_2).f2) != x31_2) = true := bne_iff_ne.mpr c19
                        obtain rfl := Option.some.inj H
                        have p133 : 0 ≤ (x31_2 : Int) := of_decide_eq_true (by first | (with_reducible assumption) | assumption)
                        have q133 : x31_2 < (t129.length : Int) := of_decide_eq_true (by first | (with_reducible assumption) | assumption)
                        obtain ⟨ad133, A133_4, c133_4, e133, hx133_0, hx133_1, hx133_2, hx133_3, hx133_4, hl133_4, hi133_4⟩ := at_T29 (Kd.S_reads' HO_3.out).2.2 x31_2 p133 q133
                        cases e133
                        obtain ⟨ce133, hce133, hMe133, hcc133⟩ := Kd.S_get HO_3.out z29 x31_2 p133 (by first | exact q133 | exact of_decide_eq_true (by first | (with_reducible assumption) | assumption) | (have e_ := (Kd.S_reads' HO_3.out).1; omega))
                        obtain ⟨ve133_4, rfl, ge133_4⟩ := k29_openM hMe133
                        have hv133_4 := hcc133 4 _ rfl
                        rw [add_field _ _ 4 (by omega)] at hv133_4
                        replace hv133_4 := Option.some.inj (hv133_4.symm.trans hx133_4)
                        rw [hv133_4] at ge133_4
                        have HL133_4 := Aside0.mk (show Kd.R (Kd.int .u8) 5 _ _ _ _ ((rd_T29 t129 x31_2).f4) from ge133_4)
                        clear hv133_4 ge133_4
                        clear hcc133 hce133
                        have HR133_4 := Aside0.mk hi133_4
                        have HC133_4 := Aside0.mk hl133_4
                        clear hi133_4 hl133_4
                        replace p133 := eq_true p133
                        replace q133 := eq_true q133
                        go_wp2
                        go_ret
                        exact ⟨by first | rfl | (simp [errW_none, errW_some] <;> rfl) | (simp [*, errW_none, errW_some] <;> rfl), by repeat (first | (with_reducible first | exact HB.out | apply below_alloc | apply pw_below_drewN | apply below_drew1) | exact HB.out)⟩
                    · rw [if_neg c18] at H
                      exact absurd H (by simp)
                  · rw [if_neg c17] at H
                    exact absurd H (by simp)
                · rw [if_neg c16] at H
                  have c16b0 : decide (x31_2 < (t129.length : Int)) = false := decide_eq_false c16
                  clear c16
                  by_cases c23 : 7169 ≤ 281474976710656
                  · rw [if_pos c23] at H
                    have c23b0 := eq_true c23
                    have c23b1 : decide (7169 ≤ 281474976710656) = true := decide_eq_true c23
                    clear c23
                    obtain ⟨y138, hy138⟩ : ∃ y_ : List Int, y_ = (List.replicate 7169 0) := ⟨_, rfl⟩
                    replace H : ((cells_Split.f k2 1 1 y138).bind fun bt141 => (if x5_2 = t125 then (if bt141.2 = 4 then ((overdublaw15_wakes.f k2).bind fun t145 => (some t145)) else (some false)) else (some false))) = some r := by first | (rw [hy138]; with_reducible exact H) | (have H2_ := (Option.bind_some _ _).symm.trans H; rw [hy138]; with_reducible exact H2_) | (have H2_ := (Option.bind_some _ _).symm.trans H; with_reducible exact H2_) | with_reducible exact H | (rw [hy138]; exact H) | exact H
                    have Ny138 := Aside0.mk hy138
                    clear hy138
                    replace H := Option.bind_eq_some_iff.mp H
                    obtain ⟨⟨t141, t144⟩, A240, H⟩ := H
                    replace H : (if x5_2 = t125 then (if t144 = 4 then ((overdublaw15_wakes.f k2).bind fun t145 => (some t145)) else (some false)) else (some false)) = some r := H
                    have A24 := Aside0.mk A240
                    clear A240
                    by_cases c25 : x5_2 = t125
                    · rw [if_pos c25] at H
                      have c25b0 : (x5_2 == t125) = true := beq_iff_eq.mpr c25
                      have c25b1 : (x5_2 != t125) = false := bne_eq_false_iff_eq.mpr c25
                      clear c25
                      by_cases c26 : t144 = 4
                      · rw [if_pos c26] at H
                        have c26b0 : (t144 == 4) = true := beq_iff_eq.mpr c26
                        have c26b1 : (t144 != 4) = false := bne_eq_false_iff_eq.mpr c26
                        clear c26
                        replace H := Option.bind_eq_some_iff.mp H
                        obtain ⟨t145, A270, H⟩ := H
                        replace H : (some t145) = some r := H
                        have A27 := Aside0.mk A270
                        clear A270
                        obtain rfl := Option.some.inj H
                        go_wp2_with (first | ((with_reducible refine gate_dst (N := 77) rfl ?_); (try (refine gate_guard (by rfl) ?_; dsimp only)); refine Kd.R_make (Kd.int .u8) _ 5 rfl (N := 77) rfl 27 _ _ rfl 7169 rfl rfl Try.underlying27 (.int .u8 0) 1 info5 rfl (by decide) (by omega) 0 (ok := fun _ => True) (okp := fun _ => True) rfl (fun _ hk => hk) trivial (by omega) (by omega) (Below.refl _ _) (Nat.le_refl _) ?_; intro v139 w28 ho29 hb hg_ hnew_; clear hg_ hnew_; (first | rw [← Ny138.out] at ho29 | (simp only [Int.reduceToNat] at ho29; rw [← Ny138.out] at ho29)); have n0_ := Aside0.mk (Kd.S_elder' (by (with_reducible repeat (first | apply Kd.S_alloc | apply Kd.S_drewN | apply Kd.S_drew)); exact HO_3.out) (Kd.R_base ho29) hb); have n1_ := Aside0.mk (Kd.R_lower ho29 (below_size (by repeat (first | (with_reducible first | exact HB.out | apply below_alloc | apply pw_below_drewN | apply below_drew1) | exact HB.out)))); have n2_ := Aside0.mk (below_step (by repeat (first | (with_reducible first | exact HB.out | apply below_alloc | apply pw_below_drewN | apply below_drew1) | exact HB.out)) hb); clear HO_3; clear HB; have HO_3 := n0_; have HO140 := n1_; have HB := n2_; clear n0_ n1_ n2_; clear hb ho29; obtain ⟨Ao30, co30, eo30⟩ := Kd.R_slice HO140.out; subst eo30) | ((with_reducible refine gate_callee (f := 11) rfl ?_); refine goesL_ (some 78) rfl rfl Try.func11 (by kernel_rfl) rfl #[.int .i64 1, .int .i64 1, .slice Ao30 y138.length co30] rfl (by (try simp only [List.map_toArray, List.map_cons, List.map_nil]); first | done | rfl | (simp only [List.length_drop, List.length_take]; rfl)) ?_; (with_reducible refine (cells_Split.calls k2 1 1 (fun k_ => some k_ = (.slice Ao30 y138.length co30 : Value).ownBlock) _ _ y138 t141 t144 _ ?side1 A24.out).mono ?_); (case side1 => exact Kd.R_V (Kd.R_tight rfl (Kd.R_apart' (HO140.out) (Kd.S_typed HO_3.out) (by decide)))); rintro e w31 ⟨v142, rfl, ho0, hb⟩; refine ⟨_, rfl, ?_⟩; have n0_ := Aside0.mk (Kd.S_elder' (by (with_reducible repeat (first | apply Kd.S_alloc | apply Kd.S_drewN | apply Kd.S_drew)); exact HO_3.out) (Kd.S_base ho0) hb); have n1_ := Aside0.mk (Kd.R_below (by (with_reducible repeat (first | apply Kd.R_alloc | apply Kd.R_drewN | apply Kd.R_drew)); exact HO140.out) hb); have n2_ := Aside0.mk (Kd.S_lower (Kd.S_new' (Kd.S_new' (Kd.S_mono (ok' := fun k_ => True) ho0 (fun _ hk_ => trivial)) (Kd.S_lt (by (with_reducible repeat (first | apply Kd.S_alloc | apply Kd.S_drewN | apply Kd.S_drew)); exact HO_3.out))) (Kd.R_lt (by (with_reducible repeat (first | apply Kd.R_alloc | apply Kd.R_drewN | apply Kd.R_drew)); exact HO140.out))) (below_size (by repeat (first | (with_reducible first | exact HB.out | apply below_alloc | apply pw_below_drewN | apply below_drew1) | exact HB.out)))); have n3_ := Aside0.mk (below_step (by repeat (first | (with_reducible first | exact HB.out | apply below_alloc | apply pw_below_drewN | apply below_drew1) | exact HB.out)) hb); clear HO_3; clear HO140; clear HB; have HO_3 := n0_; have HO140 := n1_; have HO143 := n2_; have HB := n3_; clear n0_ n1_ n2_ n3_; (try clear hb); (try clear hb2); (try clear hk); (try clear hi); (try clear ho0)) | (go_at_call 12; (with_reducible refine (overdublaw15_wakes.calls k2  t145 _ A27.out).mono ?_); rintro e w32 ⟨rfl, hb⟩; have n0_ := Aside0.mk (Kd.S_below (by (with_reducible repeat (first | apply Kd.S_alloc | apply Kd.S_drewN | apply Kd.S_drew)); exact HO_3.out) hb); have n1_ := Aside0.mk (Kd.R_below (by (with_reducible repeat (first | apply Kd.R_alloc | apply Kd.R_drewN | apply Kd.R_drew)); exact HO140.out) hb); have n2_ := Aside0.mk (Kd.S_below (by (with_reducible repeat (first | apply Kd.S_alloc | apply Kd.S_drewN | apply Kd.S_drew)); exact HO143.out) hb); have n3_ := Aside0.mk (below_step (by repeat (first | (with_reducible first | exact HB.out | apply below_alloc | apply pw_below_drewN | apply below_drew1) | exact HB.out)) hb); clear HO_3; clear HO140; clear HO143; clear HB; have HO_3 := n0_; have HO140 := n1_; have HO143 := n2_; have HB := n3_; clear n0_ n1_ n2_ n3_; (try clear hb); (try clear hb2); (try clear hk); (try clear hi)))
                        go_ret
                        exact ⟨by first | rfl | (simp [errW_none, errW_some] <;> rfl) | (simp [*, errW_none, errW_some] <;> rfl), by repeat (first | (with_reducible first | exact HB.out | apply below_alloc | apply pw_below_drewN | apply below_drew1) | exact HB.out)⟩
                      · rw [if_neg c26] at H
                        have c26b0 : (t144 == 4) = false := beq_eq_false_iff_ne.mpr c26
                        have c26b1 : (t144 != 4) = true := bne_iff_ne.mpr c26
                        obtain rfl := Option.some.inj H
                        go_wp2_with (first | ((with_reducible refine gate_dst (N := 77) rfl ?_); (try (refine gate_guard (by rfl) ?_; dsimp only)); refine Kd.R_make (Kd.int .u8) _ 5 rfl (N := 77) rfl 27 _ _ rfl 7169 rfl rfl Try.underlying27 (.int .u8 0) 1 info5 rfl (by decide) (by omega) 0 (ok := fun _ => True) (okp := fun _ => True) rfl (fun _ hk => hk) trivial (by omega) (by omega) (Below.refl _ _) (Nat.le_refl _) ?_; intro v139 w33 ho34 hb hg_ hnew_; clear hg_ hnew_; (first | rw [← Ny138.out] at ho34 | (simp only [Int.reduceToNat] at ho34; rw [← Ny138.out] at ho34)); have n0_ := Aside0.mk (Kd.S_elder' (by (with_reducible repeat (first | apply Kd.S_alloc | apply Kd.S_drewN | apply Kd.S_drew)); exact HO_3.out) (Kd.R_base ho34) hb); have n1_ := Aside0.mk (Kd.R_lower ho34 (below_size (by repeat (first | (with_reducible first | exact HB.out | apply below_alloc | apply pw_below_drewN | apply below_drew1) | exact HB.out)))); have n2_ := Aside0.mk (below_step (by repeat (first | (with_reducible first | exact HB.out | apply below_alloc | apply pw_below_drewN | apply below_drew1) | exact HB.out)) hb); clear HO_3; clear HB; have HO_3 := n0_; have HO140 := n1_; have HB := n2_; clear n0_ n1_ n2_; clear hb ho34; obtain ⟨Ao35, co35, eo35⟩ := Kd.R_slice HO140.out; subst eo35) | ((with_reducible refine gate_callee (f := 11) rfl ?_); refine goesL_ (some 78) rfl rfl Try.func11 (by kernel_rfl) rfl #[.int .i64 1, .int .i64 1, .slice Ao35 y138.length co35] rfl (by (try simp only [List.map_toArray, List.map_cons, List.map_nil]); first | done | rfl | (simp only [List.length_drop, List.length_take]; rfl)) ?_; (with_reducible refine (cells_Split.calls k2 1 1 (fun k_ => some k_ = (.slice Ao35 y138.length co35 : Value).ownBlock) _ _ y138 t141 t144 _ ?side1 A24.out).mono ?_); (case side1 => exact Kd.R_V (Kd.R_tight rfl (Kd.R_apart' (HO140.out) (Kd.S_typed HO_3.out) (by decide)))); rintro e w36 ⟨v142, rfl, ho0, hb⟩; refine ⟨_, rfl, ?_⟩; have n0_ := Aside0.mk (Kd.S_elder' (by (with_reducible repeat (first | apply Kd.S_alloc | apply Kd.S_drewN | apply Kd.S_drew)); exact HO_3.out) (Kd.S_base ho0) hb); have n1_ := Aside0.mk (Kd.R_below (by (with_reducible repeat (first | apply Kd.R_alloc | apply Kd.R_drewN | apply Kd.R_drew)); exact HO140.out) hb); have n2_ := Aside0.mk (Kd.S_lower (Kd.S_new' (Kd.S_new' (Kd.S_mono (ok' := fun k_ => True) ho0 (fun _ hk_ => trivial)) (Kd.S_lt (by (with_reducible repeat (first | apply Kd.S_alloc | apply Kd.S_drewN | apply Kd.S_drew)); exact HO_3.out))) (Kd.R_lt (by (with_reducible repeat (first | apply Kd.R_alloc | apply Kd.R_drewN | apply Kd.R_drew)); exact HO140.out))) (below_size (by repeat (first | (with_reducible first | exact HB.out | apply below_alloc | apply pw_below_drewN | apply below_drew1) | exact HB.out)))); have n3_ := Aside0.mk (below_step (by repeat (first | (with_reducible first | exact HB.out | apply below_alloc | apply pw_below_drewN | apply below_drew1) | exact HB.out)) hb); clear HO_3; clear HO140; clear HB; have HO_3 := n0_; have HO140 := n1_; have HO143 := n2_; have HB := n3_; clear n0_ n1_ n2_ n3_; (try clear hb); (try clear hb2); (try clear hk); (try clear hi); (try clear ho0)))
                        go_ret
                        exact ⟨by first | rfl | (simp [errW_none, errW_some] <;> rfl) | (simp [*, errW_none, errW_some] <;> rfl), by repeat (first | (with_reducible first | exact HB.out | apply below_alloc | apply pw_below_drewN | apply below_drew1) | exact HB.out)⟩
                    · rw [if_neg c25] at H
                      have c25b0 : (x5_2 == t125) = false := beq_eq_false_iff_ne.mpr c25
                      have c25b1 : (x5_2 != t125) = true := bne_iff_ne.mpr c25
                      obtain rfl := Option.some.inj H
                      go_wp2_with (first | ((with_reducible refine gate_dst (N := 77) rfl ?_); (try (refine gate_guard (by rfl) ?_; dsimp only)); refine Kd.R_make (Kd.int .u8) _ 5 rfl (N := 77) rfl 27 _ _ rfl 7169 rfl rfl Try.underlying27 (.int .u8 0) 1 info5 rfl (by decide) (by omega) 0 (ok := fun _ => True) (okp := fun _ => True) rfl (fun _ hk => hk) trivial (by omega) (by omega) (Below.refl _ _) (Nat.le_refl _) ?_; intro v139 w37 ho38 hb hg_ hnew_; clear hg_ hnew_; (first | rw [← Ny138.out] at ho38 | (simp only [Int.reduceToNat] at ho38; rw [← Ny138.out] at ho38)); have n0_ := Aside0.mk (Kd.S_elder' (by (with_reducible repeat (first | apply Kd.S_alloc | apply Kd.S_drewN | apply Kd.S_drew)); exact HO_3.out) (Kd.R_base ho38) hb); have n1_ := Aside0.mk (Kd.R_lower ho38 (below_size (by repeat (first | (with_reducible first | exact HB.out | apply below_alloc | apply pw_below_drewN | apply below_drew1) | exact HB.out)))); have n2_ := Aside0.mk (below_step (by repeat (first | (with_reducible first | exact HB.out | apply below_alloc | apply pw_below_drewN | apply below_drew1) | exact HB.out)) hb); clear HO_3; clear HB; have HO_3 := n0_; have HO140 := n1_; have HB := n2_; clear n0_ n1_ n2_; clear hb ho38; obtain ⟨Ao39, co39, eo39⟩ := Kd.R_slice HO140.out; subst eo39) | ((with_reducible refine gate_callee (f := 11) rfl ?_); refine goesL_ (some 78) rfl rfl Try.func11 (by kernel_rfl) rfl #[.int .i64 1, .int .i64 1, .slice Ao39 y138.length co39] rfl (by (try simp only [List.map_toArray, List.map_cons, List.map_nil]); first | done | rfl | (simp only [List.length_drop, List.length_take]; rfl)) ?_; (with_reducible refine (cells_Split.calls k2 1 1 (fun k_ => some k_ = (.slice Ao39 y138.length co39 : Value).ownBlock) _ _ y138 t141 t144 _ ?side1 A24.out).mono ?_); (case side1 => exact Kd.R_V (Kd.R_tight rfl (Kd.R_apart' (HO140.out) (Kd.S_typed HO_3.out) (by decide)))); rintro e w40 ⟨v142, rfl, ho0, hb⟩; refine ⟨_, rfl, ?_⟩; have n0_ := Aside0.mk (Kd.S_elder' (by (with_reducible repeat (first | apply Kd.S_alloc | apply Kd.S_drewN | apply Kd.S_drew)); exact HO_3.out) (Kd.S_base ho0) hb); have n1_ := Aside0.mk (Kd.R_below (by (with_reducible repeat (first | apply Kd.R_alloc | apply Kd.R_drewN | apply Kd.R_drew)); exact HO140.out) hb); have n2_ := Aside0.mk (Kd.S_lower (Kd.S_new' (Kd.S_new' (Kd.S_mono (ok' := fun k_ => True) ho0 (fun _ hk_ => trivial)) (Kd.S_lt (by (with_reducible repeat (first | apply Kd.S_alloc | apply Kd.S_drewN | apply Kd.S_drew)); exact HO_3.out))) (Kd.R_lt (by (with_reducible repeat (first | apply Kd.R_alloc | apply Kd.R_drewN | apply Kd.R_drew)); exact HO140.out))) (below_size (by repeat (first | (with_reducible first | exact HB.out | apply below_alloc | apply pw_below_drewN | apply below_drew1) | exact HB.out)))); have n3_ := Aside0.mk (below_step (by repeat (first | (with_reducible first | exact HB.out | apply below_alloc | apply pw_below_drewN | apply below_drew1) | exact HB.out)) hb); clear HO_3; clear HO140; clear HB; have HO_3 := n0_; have HO140 := n1_; have HO143 := n2_; have HB := n3_; clear n0_ n1_ n2_ n3_; (try clear hb); (try clear hb2); (try clear hk); (try clear hi); (try clear ho0)))
                      go_ret
                      exact ⟨by first | rfl | (simp [errW_none, errW_some] <;> rfl) | (simp [*, errW_none, errW_some] <;> rfl), by repeat (first | (with_reducible first | exact HB.out | apply below_alloc | apply pw_below_drewN | apply below_drew1) | exact HB.out)⟩
                  · rw [if_neg c23] at H
                    exact absurd H (by simp)
    · rw [if_neg c4] at H
      exact absurd H (by simp)
  · rw [if_neg c3] at H
    exact absurd H (by simp)

/-- THE ONE PURE STATEMENT of overdublaw15_CellSizes: yours. -/
def overdublaw15_CellSizes.Pure : Prop := ∀ (a0 : Int), (Lit.int .i64 a0).wf = true → ∃ k, overdublaw15_CellSizes.f k a0 = some true
theorem overdublaw15_CellSizes.walk (P : overdublaw15_CellSizes.Pure) (a0 : Int) (w : World) (w0 : (Lit.int .i64 a0).wf = true) :
    Calls Try.prog 3 #[.int .i64 a0] w fun e w' => e = .returned (.bool true) ∧ Below w.heap.size w w' := by
  obtain ⟨k, h⟩ := P a0 w0
  refine (overdublaw15_CellSizes.calls k a0 true w h).mono ?_
  rintro e w' ⟨rfl, hd⟩
  exact ⟨rfl, hd⟩

/-! ### overdubkeep_Cut_byte: function 16 -/
def overdubkeep_Cut_byte.f (l0 : List Int) (a1 : Int) : Option (List Int) := if 0 ≤ (mn (l0.length : Int) a1) then (if (mn (l0.length : Int) a1) ≤ (l0.length : Int) then (some (l0.take ((mn (l0.length : Int) a1) : Int).toNat)) else (none)) else (none)
set_option maxHeartbeats 8000000 in
set_option maxRecDepth 100000 in
theorem overdubkeep_Cut_byte.calls (P0_ : Nat → Prop) (u9000_ : Value) (l0 : List Int) (a1 : Int) (r : List Int) (w0 w : World) (hB : Below w0.heap.size w0 w) (ho0 : Kd.R (Kd.int .u8) 5 w w0.heap.size P0_ u9000_ l0) (h : overdubkeep_Cut_byte.f l0 a1 = some r) :
    Calls Try.prog 16 #[u9000_, .int .i64 a1] w fun e w' => ∃ v0_ : Value, e = .returned (v0_) ∧ Kd.R (Kd.int .u8) 5 w' w0.heap.size (fun k_ => (P0_ k_ ∨ w.heap.size ≤ k_)) v0_ r ∧ Below w0.heap.size w0 w' ∧ Kept w w' (fun k_ => P0_ k_) := by
  have HO0 := Aside0.mk (show Kd.R (Kd.int .u8) 5 w w0.heap.size (fun k_ => (P0_ k_ ∨ w.heap.size ≤ k_)) u9000_ l0 from Kd.R_mono ho0 (fun k_ hk => (.inl hk)))
  have HK := Aside0.mk (Kept.refl w (fun k_ => P0_ k_))
  have HW0 := Aside0.mk hB.size
  have HB := Aside0.mk hB
  clear hB
  have H : (if 0 ≤ (mn (l0.length : Int) a1) then (if (mn (l0.length : Int) a1) ≤ (l0.length : Int) then (some (l0.take ((mn (l0.length : Int) a1) : Int).toNat)) else (none)) else (none)) = some r := h
  clear h
  obtain ⟨ji3, hji3⟩ : ∃ j_ : Int, (mn (l0.length : Int) a1) = j_ := ⟨_, rfl⟩
  replace H : (if 0 ≤ (ji3) then (if (ji3) ≤ (l0.length : Int) then (some (l0.take ((ji3) : Int).toNat)) else (none)) else (none)) = some r := by first | (rw [hji3] at H; exact H) | (simp only [hji3] at H ⊢; exact H)
  have hji3_ : (if a1 < (l0.length : Int) then a1 else (l0.length : Int)) = ji3 := hji3
  by_cases c4 : 0 ≤ (ji3)
  · rw [if_pos c4] at H
    have c4b0 := eq_true c4
    have c4b1 : decide (0 ≤ (ji3)) = true := decide_eq_true c4
    clear c4
    by_cases c5 : (ji3) ≤ (l0.length : Int)
    · rw [if_pos c5] at H
      have c5b0 := eq_true c5
      have c5b1 : decide ((ji3) ≤ (l0.length : Int)) = true := decide_eq_true c5
      clear c5
      obtain ⟨y146, hy146⟩ : ∃ y_ : List Int, y_ = (l0.take ((ji3) : Int).toNat) := ⟨_, rfl⟩
      replace H : (some y146) = some r := by first | (rw [hy146]; with_reducible exact H) | (have H2_ := (Option.bind_some _ _).symm.trans H; rw [hy146]; with_reducible exact H2_) | (have H2_ := (Option.bind_some _ _).symm.trans H; with_reducible exact H2_) | with_reducible exact H | (rw [hy146]; exact H) | exact H
      have Ny146 := Aside0.mk hy146
      clear hy146
      obtain rfl := Option.some.inj H
      obtain ⟨Ao6, co6, eo6⟩ := Kd.R_slice HO0.out
      subst eo6
      have q7 : ((ji3) : Int) ≤ ((l0.length : Int) : Int) := of_decide_eq_true (by first | (with_reducible assumption) | assumption)
      obtain ⟨i07, hi07, _, hsz7, _⟩ := info_parts info5
      have hcut7 := cut_to (P := Try.prog) 27 5 .i64 Try.underlying27 hi07 Ao6 l0.length co6 (ji3) (of_decide_eq_true (by first | (with_reducible assumption) | assumption)) q7 (Kd.R_reads' HO0.out).2.1
      have hr7 := Kd.R_take (m := ((ji3) : Int).toNat) HO0.out (by omega)
      have hy7 : y146.length = ((ji3) : Int).toNat := (by rw [Ny146.out, List.length_take]; omega)
      rw [← Ny146.out] at hr7
      rw [← hy7] at hr7 hcut7
      clear hy7 hi07 hsz7 HO0
      have HO148 := Aside0.mk hr7
      clear hr7
      replace q7 := eq_true q7
      go_enter Try.func16, Try.ntmps16
      go_wp2
      go_ret
      exact ⟨_, by first | rfl | (simp [errW_none, errW_some] <;> rfl) | (simp only [← hji3]; first | rfl | (simp [errW_none, errW_some] <;> rfl)) | (simp [*, errW_none, errW_some] <;> rfl), by (with_reducible repeat (first | apply Kd.R_alloc | apply Kd.R_drewN | apply Kd.R_drew)); exact HO148.out, by repeat (first | (with_reducible first | exact HB.out | apply below_alloc | apply pw_below_drewN | apply below_drew1) | exact HB.out), by repeat (first | (with_reducible first | exact HK.out | apply Kept.alloc | apply Kept.drewN | apply Kept.drew) | exact HK.out)⟩
    · rw [if_neg c5] at H
      exact absurd H (by simp)
  · rw [if_neg c4] at H
    exact absurd H (by simp)

set_option maxHeartbeats 8000000 in
theorem overdubkeep_Cut_byte.reads (A0 : Option Addr) (n c : Nat) (a1 m : Int) (k : Nat) (w : World) (hk : (m : Int).toNat = k) (h0 : 0 ≤ m) (h1 : m ≤ (n : Int)) (hm : mn (n : Int) a1 = m) (hc : n ≤ c) :
    Calls Try.prog 16 #[.slice A0 n c, .int .i64 a1] w fun e w' => e = .returned (.slice A0 k c) ∧ Drawn0 w w' := by
  subst hk
  have hm_ : (if a1 < (n : Int) then a1 else (n : Int)) = m := hm
  obtain ⟨i0, hi0, _, _, _⟩ := info_parts info5
  have hcut := cut_to (P := Try.prog) 27 5 .i64 Try.underlying27 hi0 A0 n c m h0 h1 hc
  have b0 := eq_true h0
  have b1 := decide_eq_true h0
  have b2 := eq_true h1
  have b3 := decide_eq_true h1
  clear hm h0 h1
  go_enter Try.func16, Try.ntmps16
  go_wp2
  go_ret
  exact ⟨rfl, Drawn0.refl _⟩

/-! ### overdubkeep_Copy_byte: function 23 -/
def overdubkeep_Copy_byte.f (l0 : List Int) : Option (List Int) := if ([] : List Int).length + l0.length < 140737488355328 then (some (([] : List Int) ++ l0)) else (none)
set_option maxHeartbeats 8000000 in
set_option maxRecDepth 100000 in
theorem overdubkeep_Copy_byte.calls (A0 : Option Addr) (c0 : Nat) (l0 : List Int) (r : List Int) (w : World) (hr0 : Kd.C (Kd.int .u8) w A0 l0.length l0) (hc0 : l0.length ≤ c0) (h : overdubkeep_Copy_byte.f l0 = some r) :
    Calls Try.prog 23 #[.slice A0 l0.length c0] w fun e w' => ∃ v0_ : Value, e = .returned (v0_) ∧ Kd.R (Kd.int .u8) 5 w' w.heap.size (fun _ => True) v0_ r ∧ Below w.heap.size w w' := by
  have HR0 := Aside0.mk hr0
  have HC0 := Aside0.mk hc0
  clear hr0 hc0
  have HB := Aside0.mk (Below.refl w.heap.size w)
  have H : (if ([] : List Int).length + l0.length < 140737488355328 then (some (([] : List Int) ++ l0)) else (none)) = some r := h
  clear h
  by_cases c2 : ([] : List Int).length + l0.length < 140737488355328
  · rw [if_pos c2] at H
    have LMc2 := Aside0.mk c2
    clear c2
    obtain ⟨y149, hy149⟩ : ∃ y_ : List Int, y_ = (([] : List Int) ++ l0) := ⟨_, rfl⟩
    replace H : (some y149) = some r := by first | (rw [hy149]; with_reducible exact H) | (have H2_ := (Option.bind_some _ _).symm.trans H; rw [hy149]; with_reducible exact H2_) | (have H2_ := (Option.bind_some _ _).symm.trans H; with_reducible exact H2_) | with_reducible exact H | (rw [hy149]; exact H) | exact H
    have Ny149 := Aside0.mk hy149
    clear hy149
    obtain rfl := Option.some.inj H
    go_enter Try.func23, Try.ntmps23
    go_wp2_with (first | ((with_reducible refine gate_builtin (b := .append) (xs := #[.const (.slice none 0 0), .tmp 3]) rfl ?_); at_builtin; refine Kd.R_append_rows (Kd.int .u8) (w0 := w) w.heap.size rfl (.const (.slice none 0 0)) (.tmp 3) 27 5 (.int .u8 0) 1 rfl Try.underlying27 info5 rfl (by decide) (by omega) (.slice none 0 0) ([] : List Int) l0 _ _ _ (fun _ => True) (fun _ => False) rfl rfl ?aO ?aR (fun _ _ h => h) (fun _ h => h.elim) ?aF ?aB ?aS ?aL ?_; (case aR => repeat (first | exact HR0.out | (with_reducible refine Kd.C_alloc ?_ _) | (with_reducible refine Kd.C_drewN ?_ _) | (with_reducible refine Kd.C_drew ?_))); (case aB => exact (by repeat (first | (with_reducible first | exact HB.out | apply below_alloc | apply pw_below_drewN | apply below_drew1) | exact HB.out))); (case aF => exact (fun _ _ => trivial)); (case aO => exact ((Kd.R_nil _ _ _ _ (fun _ => True)))); (case aS => exact (below_size (by repeat (first | (with_reducible first | exact HB.out | apply below_alloc | apply pw_below_drewN | apply below_drew1) | exact HB.out)))); (case aL => have := LMc2.out; omega); intro v150 w3 ho hb hg hat; rw [← Ny149.out] at ho; have n0_ := Aside0.mk (hb); have n1_ := Aside0.mk (ho); clear HB; have HB := n0_; have HO151 := n1_; clear n0_ n1_; clear ho hb hg hat))
    go_ret
    exact ⟨_, by first | rfl | (simp [errW_none, errW_some] <;> rfl) | (simp [*, errW_none, errW_some] <;> rfl), by (with_reducible repeat (first | apply Kd.R_alloc | apply Kd.R_drewN | apply Kd.R_drew)); exact HO151.out, by repeat (first | (with_reducible first | exact HB.out | apply below_alloc | apply pw_below_drewN | apply below_drew1) | exact HB.out)⟩
  · rw [if_neg c2] at H
    exact absurd H (by simp)

/-! ### overdubkeep_CutCopy_byte: function 13 -/
def overdubkeep_CutCopy_byte.f (l0 : List Int) (a1 : Int) : Option (List Int) := if 0 ≤ (mn (l0.length : Int) a1) then (if (mn (l0.length : Int) a1) ≤ (l0.length : Int) then ((overdubkeep_Copy_byte.f (l0.take ((mn (l0.length : Int) a1) : Int).toNat)).bind fun t157 => (some t157)) else (none)) else (none)
set_option maxHeartbeats 8000000 in
set_option maxRecDepth 100000 in
theorem overdubkeep_CutCopy_byte.calls (A0 : Option Addr) (c0 : Nat) (l0 : List Int) (a1 : Int) (r : List Int) (w : World) (hr0 : Kd.C (Kd.int .u8) w A0 l0.length l0) (hc0 : l0.length ≤ c0) (h : overdubkeep_CutCopy_byte.f l0 a1 = some r) :
    Calls Try.prog 13 #[.slice A0 l0.length c0, .int .i64 a1] w fun e w' => ∃ v0_ : Value, e = .returned (v0_) ∧ Kd.R (Kd.int .u8) 5 w' w.heap.size (fun _ => True) v0_ r ∧ Below w.heap.size w w' := by
  have HR0 := Aside0.mk hr0
  have HC0 := Aside0.mk hc0
  clear hr0 hc0
  have HB := Aside0.mk (Below.refl w.heap.size w)
  have H : (if 0 ≤ (mn (l0.length : Int) a1) then (if (mn (l0.length : Int) a1) ≤ (l0.length : Int) then ((overdubkeep_Copy_byte.f (l0.take ((mn (l0.length : Int) a1) : Int).toNat)).bind fun t157 => (some t157)) else (none)) else (none)) = some r := h
  clear h
  obtain ⟨ji3, hji3⟩ : ∃ j_ : Int, (mn (l0.length : Int) a1) = j_ := ⟨_, rfl⟩
  replace H : (if 0 ≤ (ji3) then (if (ji3) ≤ (l0.length : Int) then ((overdubkeep_Copy_byte.f (l0.take ((ji3) : Int).toNat)).bind fun t157 => (some t157)) else (none)) else (none)) = some r := by first | (rw [hji3] at H; exact H) | (simp only [hji3] at H ⊢; exact H)
  have hji3_ : (if a1 < (l0.length : Int) then a1 else (l0.length : Int)) = ji3 := hji3
  by_cases c4 : 0 ≤ (ji3)
  · rw [if_pos c4] at H
    have c4b0 := eq_true c4
    have c4b1 : decide (0 ≤ (ji3)) = true := decide_eq_true c4
    clear c4
    by_cases c5 : (ji3) ≤ (l0.length : Int)
    · rw [if_pos c5] at H
      have c5b0 := eq_true c5
      have c5b1 : decide ((ji3) ≤ (l0.length : Int)) = true := decide_eq_true c5
      clear c5
      obtain ⟨y152, hy152⟩ : ∃ y_ : List Int, y_ = (l0.take ((ji3) : Int).toNat) := ⟨_, rfl⟩
      replace H : ((overdubkeep_Copy_byte.f y152).bind fun t157 => (some t157)) = some r := by first | (rw [hy152]; with_reducible exact H) | (have H2_ := (Option.bind_some _ _).symm.trans H; rw [hy152]; with_reducible exact H2_) | (have H2_ := (Option.bind_some _ _).symm.trans H; with_reducible exact H2_) | with_reducible exact H | (rw [hy152]; exact H) | exact H
      have Ny152 := Aside0.mk hy152
      clear hy152
      replace H := Option.bind_eq_some_iff.mp H
      obtain ⟨t157, A60, H⟩ := H
      replace H : (some t157) = some r := H
      have A6 := Aside0.mk A60
      clear A60
      obtain rfl := Option.some.inj H
      have q7 : ((ji3) : Int) ≤ ((l0.length : Int) : Int) := of_decide_eq_true (by first | (with_reducible assumption) | assumption)
      obtain ⟨i07, hi07, _, hsz7, _⟩ := info_parts info5
      have hroom7 : l0.length ≤ c0 := HC0.out
      have hC7 : Kd.C (Kd.int .u8) _ A0 l0.length l0 := HR0.out
      have hcut7 := cut_to (P := Try.prog) 27 5 .i64 Try.underlying27 hi07 A0 l0.length c0 (ji3) (of_decide_eq_true (by first | (with_reducible assumption) | assumption)) q7 hroom7
      have hr7 := Kd.C_take (m := ((ji3) : Int).toNat) hC7 (by omega)
      have hy7 : y152.length = ((ji3) : Int).toNat := (by rw [Ny152.out, List.length_take]; omega)
      rw [← Ny152.out] at hr7
      rw [← hy7] at hcut7
      have HR155 := Aside0.mk hr7
      have HC155 := Aside0.mk (show y152.length ≤ c0 from by omega)
      clear hr7 hC7 hroom7 hi07 hsz7
      have KY7 := Aside0.mk hy7
      clear hy7
      replace q7 := eq_true q7
      go_enter Try.func13, Try.ntmps13
      go_wp2_with (first | ((with_reducible refine gate_callee (f := 16) rfl ?_); refine goesL_ (some 7) rfl rfl Try.func16 (by kernel_rfl) rfl #[.slice A0 l0.length c0, .int .i64 a1] rfl (by (try simp only [List.map_toArray, List.map_cons, List.map_nil]); first | done | rfl | (simp only [List.length_drop, List.length_take]; rfl)) ?_; (with_reducible refine (overdubkeep_Cut_byte.reads A0 l0.length c0 a1 (ji3) y152.length _ (by have := KY7.out; omega) (of_decide_eq_true (by first | (with_reducible assumption) | assumption)) (of_decide_eq_true (by first | (with_reducible assumption) | assumption)) (by first | (with_reducible assumption) | assumption) HC0.out).mono ?_); rintro e w' ⟨rfl, ⟨nd, rfl⟩⟩; refine ⟨_, rfl, ?_⟩) | ((with_reducible refine gate_callee (f := 23) rfl ?_); refine goesL_ (some 8) rfl rfl Try.func23 (by kernel_rfl) rfl #[.slice A0 y152.length c0] rfl (by (try simp only [List.map_toArray, List.map_cons, List.map_nil]); first | done | rfl | (simp only [List.length_drop, List.length_take]; rfl)) ?_; (with_reducible refine (overdubkeep_Copy_byte.calls _ _ y152 t157 _ ?side1 ?side2 A6.out).mono ?_); (case side1 => repeat (first | exact HR155.out | (with_reducible refine Kd.C_alloc ?_ _) | (with_reducible refine Kd.C_drewN ?_ _) | (with_reducible refine Kd.C_drew ?_))); (case side2 => exact HC155.out); rintro e w8 ⟨v158, rfl, ho0, hb⟩; refine ⟨_, rfl, ?_⟩; have n0_ := Aside0.mk (Kd.R_lower ho0 (below_size (by repeat (first | (with_reducible first | exact HB.out | apply below_alloc | apply pw_below_drewN | apply below_drew1) | exact HB.out)))); have n1_ := Aside0.mk (below_step (by repeat (first | (with_reducible first | exact HB.out | apply below_alloc | apply pw_below_drewN | apply below_drew1) | exact HB.out)) hb); clear HB; have HO159 := n0_; have HB := n1_; clear n0_ n1_; (try clear hb); (try clear hb2); (try clear hk); (try clear hi); (try clear ho0)))
      go_ret
      exact ⟨_, by first | rfl | (simp [errW_none, errW_some] <;> rfl) | (simp only [← hji3]; first | rfl | (simp [errW_none, errW_some] <;> rfl)) | (simp [*, errW_none, errW_some] <;> rfl), by (with_reducible repeat (first | apply Kd.R_alloc | apply Kd.R_drewN | apply Kd.R_drew)); exact HO159.out, by repeat (first | (with_reducible first | exact HB.out | apply below_alloc | apply pw_below_drewN | apply below_drew1) | exact HB.out)⟩
    · rw [if_neg c5] at H
      exact absurd H (by simp)
  · rw [if_neg c4] at H
    exact absurd H (by simp)

end Go.Proofs.Ytaiaackeljlbfaa.QA
