-- written by the session's turned print (NOTES.md, 'The tool')
import Derived.Test.YtgijagbneapcfaaQAx0
import Derived.Test.YtgijagbneapcfaaQAx1
import Derived.Test.YtgijagbneapcfaaQAx2
namespace Go.Proofs.Ytgijagbneapcfaa.QA
open Go.RowKit Go.Proofs.YtgijagbneapcfaaW.PrintWords Go.Proofs.YtgijagbneapcfaaW.PrintLast Go.Proofs.YtgijagbneapcfaaW.PrintMore
attribute [local go_sem] max2_int min2_int max_two min_two max_three min_three max_four min_four   -- for this text's walks alone
set_option linter.unusedVariables false
set_option linter.unusedSimpArgs false

/-! ### overdublaw04_FieldBytes: function 4 -/
def overdublaw04_FieldBytes.j0 : Nat → Int → Int → List Int → Bool → Option (Bool)
  | 0, _, _, _, _ => none
  | k + 1, x0, x1, x5, x52 => if x52 = true then (some false) else ((field_Get.f k x5).bind fun bt160 => (if bt160.2 = true then (if 0 ≤ (IntKind.u64.wrap (wrap64 (8 * x1))) then (if bt160.1 = (Go.bits .and .i64 x0 (wrap64 ((shl .i64 1 (IntKind.u64.wrap (wrap64 (8 * x1)))) - 1))) then ((field_Put.f k x0 (-1)).bind fun t162 => (if (t162.length : Int) = 0 then ((field_Put.f k x0 20).bind fun t165 => (if (t165.length : Int) = 8 then ((overdublaw04_wakes.f k).bind fun t168 => (some t168)) else (some false))) else (some false))) else (some false)) else (none)) else (some false)))
def overdublaw04_FieldBytes.f (k : Nat) (a0 : Int) (a1 : Int) : Option (Bool) := (overdubkeep_Within.f a0 72057594037927936).bind fun t146 => ((overdubkeep_Within.f a1 7).bind fun t147 => ((field_Put.f k t146 t147).bind fun t148 => ((field_Put.f k t146 (wrap64 (t147 + 1))).bind fun t151 => (if (t148.length : Int) = t147 then (if (t151.length : Int) = (wrap64 (t147 + 1)) then (if 0 ≤ t147 then (if t147 ≤ (t151.length : Int) then ((overdubkeep_Same_byte.f k (t151.take (t147 : Int).toNat) t148).bind fun t158 => (if t158 = true then (if t147 < (t151.length : Int) then (if 0 ≤ (IntKind.u64.wrap (wrap64 (8 * t147))) then (overdublaw04_FieldBytes.j0 k t146 t147 t148 ((wrap64 (rd t151 t147)) != (Go.bits .and .i64 (shr .i64 t146 (IntKind.u64.wrap (wrap64 (8 * t147)))) 255))) else (none)) else (none)) else (overdublaw04_FieldBytes.j0 k t146 t147 t148 true))) else (none)) else (none)) else (overdublaw04_FieldBytes.j0 k t146 t147 t148 true)) else (overdublaw04_FieldBytes.j0 k t146 t147 t148 true)))))
theorem overdublaw04_FieldBytes.mono_l : ∀ k, (∀ y0 y1 y2 y3, LeO (overdublaw04_FieldBytes.j0 k y0 y1 y2 y3) (overdublaw04_FieldBytes.j0 (k + 1) y0 y1 y2 y3))
  | 0 => fun _ _ _ _ r h => by simp [overdublaw04_FieldBytes.j0] at h
  | k + 1 => by
    have ih0 := overdublaw04_FieldBytes.mono_l k
    · intro y0 y1 y2 y3
      unfold overdublaw04_FieldBytes.j0
      repeat' first
      | (with_reducible exact ih0 _ _ _ _)
      | (with_reducible exact field_Get.mono _ _)
      | (with_reducible exact field_Put.mono _ _ _)
      | (with_reducible exact overdubkeep_Same_byte.mono _ _ _)
      | (with_reducible exact overdublaw04_wakes.mono _)
      | (with_reducible exact LeO.refl _)
      | (with_reducible exact LeO.none _)
      | (with_reducible refine LeO.ite ?_ ?_)
      | (with_reducible refine LeO.bind ?_ (fun _ => ?_))
      | exact ih0 _ _ _ _
      | exact field_Get.mono _ _
      | exact field_Put.mono _ _ _
      | exact overdubkeep_Same_byte.mono _ _ _
      | exact overdublaw04_wakes.mono _
      | exact LeO.none _
      | refine LeO.ite ?_ ?_
      | refine LeO.bind ?_ (fun _ => ?_)
theorem overdublaw04_FieldBytes.mono : ∀ a0 a1 k, LeO (overdublaw04_FieldBytes.f k a0 a1) (overdublaw04_FieldBytes.f (k + 1) a0 a1) := by
  intro a0 a1 k
  have ih0 := overdublaw04_FieldBytes.mono_l k
  unfold overdublaw04_FieldBytes.f
  repeat' first
      | (with_reducible exact ih0 _ _ _ _)
      | (with_reducible exact field_Get.mono _ _)
      | (with_reducible exact field_Put.mono _ _ _)
      | (with_reducible exact overdubkeep_Same_byte.mono _ _ _)
      | (with_reducible exact overdublaw04_wakes.mono _)
      | (with_reducible exact LeO.refl _)
      | (with_reducible exact LeO.none _)
      | (with_reducible refine LeO.ite ?_ ?_)
      | (with_reducible refine LeO.bind ?_ (fun _ => ?_))
      | exact ih0 _ _ _ _
      | exact field_Get.mono _ _
      | exact field_Put.mono _ _ _
      | exact overdubkeep_Same_byte.mono _ _ _
      | exact overdublaw04_wakes.mono _
      | exact LeO.none _
      | refine LeO.ite ?_ ?_
      | refine LeO.bind ?_ (fun _ => ?_)
set_option maxHeartbeats 8000000 in
set_option maxRecDepth 100000 in
theorem overdublaw04_FieldBytes.calls (k : Nat) (a0 : Int) (a1 : Int) (r : Bool) (w : World) (h : overdublaw04_FieldBytes.f k a0 a1 = some r) :
    Calls Try.prog 4 #[.int .i64 a0, .int .i64 a1] w fun e w' => e = .returned (.bool r) ∧ Below w.heap.size w w' := by
  have HB := Aside0.mk (Below.refl w.heap.size w)
  have H : ((overdubkeep_Within.f a0 72057594037927936).bind fun t146 => ((overdubkeep_Within.f a1 7).bind fun t147 => ((field_Put.f k t146 t147).bind fun t148 => ((field_Put.f k t146 (wrap64 (t147 + 1))).bind fun t151 => (if (t148.length : Int) = t147 then (if (t151.length : Int) = (wrap64 (t147 + 1)) then (if 0 ≤ t147 then (if t147 ≤ (t151.length : Int) then ((overdubkeep_Same_byte.f k (t151.take (t147 : Int).toNat) t148).bind fun t158 => (if t158 = true then (if t147 < (t151.length : Int) then (if 0 ≤ (IntKind.u64.wrap (wrap64 (8 * t147))) then (overdublaw04_FieldBytes.j0 k t146 t147 t148 ((wrap64 (rd t151 t147)) != (Go.bits .and .i64 (shr .i64 t146 (IntKind.u64.wrap (wrap64 (8 * t147)))) 255))) else (none)) else (none)) else (overdublaw04_FieldBytes.j0 k t146 t147 t148 true))) else (none)) else (none)) else (overdublaw04_FieldBytes.j0 k t146 t147 t148 true)) else (overdublaw04_FieldBytes.j0 k t146 t147 t148 true)))))) = some r := h
  clear h
  replace H := Option.bind_eq_some_iff.mp H
  obtain ⟨t146, A30, H⟩ := H
  replace H : ((overdubkeep_Within.f a1 7).bind fun t147 => ((field_Put.f k t146 t147).bind fun t148 => ((field_Put.f k t146 (wrap64 (t147 + 1))).bind fun t151 => (if (t148.length : Int) = t147 then (if (t151.length : Int) = (wrap64 (t147 + 1)) then (if 0 ≤ t147 then (if t147 ≤ (t151.length : Int) then ((overdubkeep_Same_byte.f k (t151.take (t147 : Int).toNat) t148).bind fun t158 => (if t158 = true then (if t147 < (t151.length : Int) then (if 0 ≤ (IntKind.u64.wrap (wrap64 (8 * t147))) then (overdublaw04_FieldBytes.j0 k t146 t147 t148 ((wrap64 (rd t151 t147)) != (Go.bits .and .i64 (shr .i64 t146 (IntKind.u64.wrap (wrap64 (8 * t147)))) 255))) else (none)) else (none)) else (overdublaw04_FieldBytes.j0 k t146 t147 t148 true))) else (none)) else (none)) else (overdublaw04_FieldBytes.j0 k t146 t147 t148 true)) else (overdublaw04_FieldBytes.j0 k t146 t147 t148 true))))) = some r := H
  have A3 := Aside0.mk A30
  clear A30
  replace H := Option.bind_eq_some_iff.mp H
  obtain ⟨t147, A40, H⟩ := H
  replace H : ((field_Put.f k t146 t147).bind fun t148 => ((field_Put.f k t146 (wrap64 (t147 + 1))).bind fun t151 => (if (t148.length : Int) = t147 then (if (t151.length : Int) = (wrap64 (t147 + 1)) then (if 0 ≤ t147 then (if t147 ≤ (t151.length : Int) then ((overdubkeep_Same_byte.f k (t151.take (t147 : Int).toNat) t148).bind fun t158 => (if t158 = true then (if t147 < (t151.length : Int) then (if 0 ≤ (IntKind.u64.wrap (wrap64 (8 * t147))) then (overdublaw04_FieldBytes.j0 k t146 t147 t148 ((wrap64 (rd t151 t147)) != (Go.bits .and .i64 (shr .i64 t146 (IntKind.u64.wrap (wrap64 (8 * t147)))) 255))) else (none)) else (none)) else (overdublaw04_FieldBytes.j0 k t146 t147 t148 true))) else (none)) else (none)) else (overdublaw04_FieldBytes.j0 k t146 t147 t148 true)) else (overdublaw04_FieldBytes.j0 k t146 t147 t148 true)))) = some r := H
  have A4 := Aside0.mk A40
  clear A40
  replace H := Option.bind_eq_some_iff.mp H
  obtain ⟨t148, A50, H⟩ := H
  replace H : ((field_Put.f k t146 (wrap64 (t147 + 1))).bind fun t151 => (if (t148.length : Int) = t147 then (if (t151.length : Int) = (wrap64 (t147 + 1)) then (if 0 ≤ t147 then (if t147 ≤ (t151.length : Int) then ((overdubkeep_Same_byte.f k (t151.take (t147 : Int).toNat) t148).bind fun t158 => (if t158 = true then (if t147 < (t151.length : Int) then (if 0 ≤ (IntKind.u64.wrap (wrap64 (8 * t147))) then (overdublaw04_FieldBytes.j0 k t146 t147 t148 ((wrap64 (rd t151 t147)) != (Go.bits .and .i64 (shr .i64 t146 (IntKind.u64.wrap (wrap64 (8 * t147)))) 255))) else (none)) else (none)) else (overdublaw04_FieldBytes.j0 k t146 t147 t148 true))) else (none)) else (none)) else (overdublaw04_FieldBytes.j0 k t146 t147 t148 true)) else (overdublaw04_FieldBytes.j0 k t146 t147 t148 true))) = some r := H
  have A5 := Aside0.mk A50
  clear A50
  replace H := Option.bind_eq_some_iff.mp H
  obtain ⟨t151, A60, H⟩ := H
  replace H : (if (t148.length : Int) = t147 then (if (t151.length : Int) = (wrap64 (t147 + 1)) then (if 0 ≤ t147 then (if t147 ≤ (t151.length : Int) then ((overdubkeep_Same_byte.f k (t151.take (t147 : Int).toNat) t148).bind fun t158 => (if t158 = true then (if t147 < (t151.length : Int) then (if 0 ≤ (IntKind.u64.wrap (wrap64 (8 * t147))) then (overdublaw04_FieldBytes.j0 k t146 t147 t148 ((wrap64 (rd t151 t147)) != (Go.bits .and .i64 (shr .i64 t146 (IntKind.u64.wrap (wrap64 (8 * t147)))) 255))) else (none)) else (none)) else (overdublaw04_FieldBytes.j0 k t146 t147 t148 true))) else (none)) else (none)) else (overdublaw04_FieldBytes.j0 k t146 t147 t148 true)) else (overdublaw04_FieldBytes.j0 k t146 t147 t148 true)) = some r := H
  have A6 := Aside0.mk A60
  clear A60
  have HC7 := Aside0.mk H
  clear H
  go_enter Try.func4, Try.ntmps4
  go_upto_region 3 with (first | ((with_reducible refine gate_callee (f := 9) rfl ?_); refine goesL_ (some 10) rfl rfl Try.func9 (by kernel_rfl) rfl #[.int .i64 a0, .int .i64 72057594037927936] rfl (by (try simp only [List.map_toArray, List.map_cons, List.map_nil]); first | done | rfl | (simp only [List.length_drop, List.length_take]; rfl)) ?_; (with_reducible refine (overdubkeep_Within.calls a0 72057594037927936 t146 _ A3.out).mono ?_); rintro e w' ⟨rfl, ⟨nd, rfl⟩⟩; refine ⟨_, rfl, ?_⟩) | ((with_reducible refine gate_callee (f := 9) rfl ?_); refine goesL_ (some 12) rfl rfl Try.func9 (by kernel_rfl) rfl #[.int .i64 a1, .int .i64 7] rfl (by (try simp only [List.map_toArray, List.map_cons, List.map_nil]); first | done | rfl | (simp only [List.length_drop, List.length_take]; rfl)) ?_; (with_reducible refine (overdubkeep_Within.calls a1 7 t147 _ A4.out).mono ?_); rintro e w' ⟨rfl, ⟨nd, rfl⟩⟩; refine ⟨_, rfl, ?_⟩) | ((with_reducible refine gate_callee (f := 10) rfl ?_); refine goesL_ (some 15) rfl rfl Try.func10 (by kernel_rfl) rfl #[.int .i64 t146, .int .i64 t147] rfl (by (try simp only [List.map_toArray, List.map_cons, List.map_nil]); first | done | rfl | (simp only [List.length_drop, List.length_take]; rfl)) ?_; (with_reducible refine (field_Put.calls k t146 t147 t148 _ A5.out).mono ?_); rintro e w8 ⟨v149, rfl, ho0, hb⟩; refine ⟨_, rfl, ?_⟩; have n0_ := Aside0.mk (Kd.R_lower ho0 (below_size (by repeat (first | (with_reducible first | exact HB.out | apply below_alloc | apply pw_below_drewN | apply below_drew1) | exact HB.out)))); have n1_ := Aside0.mk (below_step (by repeat (first | (with_reducible first | exact HB.out | apply below_alloc | apply pw_below_drewN | apply below_drew1) | exact HB.out)) hb); clear HB; have HO150 := n0_; have HB := n1_; clear n0_ n1_; (try clear hb); (try clear hb2); (try clear hk); (try clear hi); (try clear ho0)) | ((with_reducible refine gate_callee (f := 10) rfl ?_); refine goesL_ (some 19) rfl rfl Try.func10 (by kernel_rfl) rfl #[.int .i64 t146, .int .i64 (wrap64 (t147 + 1))] rfl (by (try simp only [List.map_toArray, List.map_cons, List.map_nil]); first | done | rfl | (simp only [List.length_drop, List.length_take]; rfl)) ?_; (with_reducible refine (field_Put.calls k t146 (wrap64 (t147 + 1)) t151 _ A6.out).mono ?_); rintro e w9 ⟨v152, rfl, ho0, hb⟩; refine ⟨_, rfl, ?_⟩; have n0_ := Aside0.mk (Kd.R_elder' (by (with_reducible repeat (first | apply Kd.R_alloc | apply Kd.R_drewN | apply Kd.R_drew)); exact HO150.out) (Kd.R_base ho0) hb); have n1_ := Aside0.mk (Kd.R_lower (Kd.R_new' ho0 (Kd.R_lt (by (with_reducible repeat (first | apply Kd.R_alloc | apply Kd.R_drewN | apply Kd.R_drew)); exact HO150.out))) (below_size (by repeat (first | (with_reducible first | exact HB.out | apply below_alloc | apply pw_below_drewN | apply below_drew1) | exact HB.out)))); have n2_ := Aside0.mk (below_step (by repeat (first | (with_reducible first | exact HB.out | apply below_alloc | apply pw_below_drewN | apply below_drew1) | exact HB.out)) hb); clear HO150; clear HB; have HO150 := n0_; have HO153 := n1_; have HB := n2_; clear n0_ n1_ n2_; (try clear hb); (try clear hb2); (try clear hk); (try clear hi); (try clear ho0)))
  (try simp only [Act.put, List.setIfInBounds_toArray, List.set_cons_zero, List.set_cons_succ])
  go_cut [52] (fun v52 wc => ∃ (kq : Nat) (x52_6 : Bool), v52 = .bool x52_6 ∧ Aside0 (overdublaw04_FieldBytes.j0 kq t146 t147 t148 x52_6 = some r) ∧ Aside0 (kq ≤ k) ∧ Aside0 (Kd.R (Kd.int .u8) 5 wc w.heap.size (fun _ => True) v149 t148) ∧ Aside0 (Below w.heap.size w wc))
  case first =>
    have H := HC7.out
    clear HC7
    by_cases c10 : (t148.length : Int) = t147
    · rw [if_pos c10] at H
      have c10b0 : ((t148.length : Int) == t147) = true := beq_iff_eq.mpr c10
      have c10b1 : ((t148.length : Int) != t147) = false := bne_eq_false_iff_eq.mpr c10
      clear c10
      (first | rw [c10b0] | (simp only [i64_w, i32_w]; rw [c10b0]) | skip)
      by_cases c11 : (t151.length : Int) = (wrap64 (t147 + 1))
      · rw [if_pos c11] at H
        have c11b0 : ((t151.length : Int) == (wrap64 (t147 + 1))) = true := beq_iff_eq.mpr c11
        have c11b1 : ((t151.length : Int) != (wrap64 (t147 + 1))) = false := bne_eq_false_iff_eq.mpr c11
        clear c11
        by_cases c12 : 0 ≤ t147
        · rw [if_pos c12] at H
          have c12b0 := eq_true c12
          have c12b1 : decide (0 ≤ t147) = true := decide_eq_true c12
          clear c12
          by_cases c13 : t147 ≤ (t151.length : Int)
          · rw [if_pos c13] at H
            have c13b0 := eq_true c13
            have c13b1 : decide (t147 ≤ (t151.length : Int)) = true := decide_eq_true c13
            clear c13
            obtain ⟨y154, hy154⟩ : ∃ y_ : List Int, y_ = (t151.take (t147 : Int).toNat) := ⟨_, rfl⟩
            replace H : ((overdubkeep_Same_byte.f k y154 t148).bind fun t158 => (if t158 = true then (if t147 < (t151.length : Int) then (if 0 ≤ (IntKind.u64.wrap (wrap64 (8 * t147))) then (overdublaw04_FieldBytes.j0 k t146 t147 t148 ((wrap64 (rd t151 t147)) != (Go.bits .and .i64 (shr .i64 t146 (IntKind.u64.wrap (wrap64 (8 * t147)))) 255))) else (none)) else (none)) else (overdublaw04_FieldBytes.j0 k t146 t147 t148 true))) = some r := by first | (rw [hy154]; with_reducible exact H) | (have H2_ := (Option.bind_some _ _).symm.trans H; rw [hy154]; with_reducible exact H2_) | (have H2_ := (Option.bind_some _ _).symm.trans H; with_reducible exact H2_) | with_reducible exact H | (rw [hy154]; exact H) | exact H
            have Ny154 := Aside0.mk hy154
            clear hy154
            replace H := Option.bind_eq_some_iff.mp H
            obtain ⟨t158, A140, H⟩ := H
            replace H : (if t158 = true then (if t147 < (t151.length : Int) then (if 0 ≤ (IntKind.u64.wrap (wrap64 (8 * t147))) then (overdublaw04_FieldBytes.j0 k t146 t147 t148 ((wrap64 (rd t151 t147)) != (Go.bits .and .i64 (shr .i64 t146 (IntKind.u64.wrap (wrap64 (8 * t147)))) 255))) else (none)) else (none)) else (overdublaw04_FieldBytes.j0 k t146 t147 t148 true)) = some r := H
            have A14 := Aside0.mk A140
            clear A140
            by_cases c15 : t158 = true
            · subst c15
              have H1 : (if t147 < (t151.length : Int) then (if 0 ≤ (IntKind.u64.wrap (wrap64 (8 * t147))) then (overdublaw04_FieldBytes.j0 k t146 t147 t148 ((wrap64 (rd t151 t147)) != (Go.bits .and .i64 (shr .i64 t146 (IntKind.u64.wrap (wrap64 (8 * t147)))) 255))) else (none)) else (none)) = some r := by rw [if_pos rfl] at H; exact H
              clear H
              have H := H1
              clear H1
              by_cases c16 : t147 < (t151.length : Int)
              · rw [if_pos c16] at H
                have c16b0 : decide (t147 < (t151.length : Int)) = true := decide_eq_true c16
                clear c16
                obtain ⟨ji17, hji17⟩ : ∃ j_ : Int, (IntKind.u64.wrap (wrap64 (8 * t147))) = j_ := ⟨_, rfl⟩
                replace H : (if 0 ≤ (ji17) then (overdublaw04_FieldBytes.j0 k t146 t147 t148 ((wrap64 (rd t151 t147)) != (Go.bits .and .i64 (shr .i64 t146 (ji17)) 255))) else (none)) = some r := by first | (rw [hji17] at H; exact H) | (simp only [hji17] at H ⊢; exact H)
                (try rw [hji17] at A14)
                by_cases c18 : 0 ≤ (ji17)
                · rw [if_pos c18] at H
                  have c18b0 := eq_true c18
                  have c18b1 : decide (0 ≤ (ji17)) = true := decide_eq_true c18
                  clear c18
                  obtain ⟨ji19, hji19⟩ : ∃ j_ : Int, (shr .i64 t146 (ji17)) = j_ := ⟨_, rfl⟩
                  replace H : (overdublaw04_FieldBytes.j0 k t146 t147 t148 ((wrap64 (rd t151 t147)) != (Go.bits .and .i64 (ji19) 255))) = some r := by first | (rw [hji19] at H; exact H) | (simp only [hji19] at H ⊢; exact H)
                  (try rw [hji19] at A14)
                  have hji19_ : (t146 / 2 ^ min (ji17).toNat 64) = ji19 := hji19
                  have hji19z : (ji17) ≤ 64 → (t146 / 2 ^ (ji17).toNat) = ji19 := shr_small hji19
                  have H' := Aside0.mk H
                  clear H
                  obtain ⟨Ao20, co20, eo20⟩ := Kd.R_slice HO150.out
                  subst eo20
                  obtain ⟨Ao21, co21, eo21⟩ := Kd.R_slice HO153.out
                  subst eo21
                  have q22 : (t147 : Int) ≤ ((t151.length : Int) : Int) := of_decide_eq_true (by first | (with_reducible assumption) | assumption)
                  obtain ⟨i022, hi022, _, hsz22, _⟩ := info_parts info5
                  have hroom22 : t151.length ≤ co21 := (Kd.R_reads' HO153.out).2.1
                  have hC22 : Kd.C (Kd.int .u8) _ Ao21 t151.length t151 := (Kd.R_reads' HO153.out).2.2
                  have hcut22 := cut_to (P := Try.prog) 24 5 .i64 Try.underlying24 hi022 Ao21 t151.length co21 t147 (of_decide_eq_true (by first | (with_reducible assumption) | assumption)) q22 hroom22
                  have hr22 := Kd.C_take (m := (t147 : Int).toNat) hC22 (by omega)
                  have hy22 : y154.length = (t147 : Int).toNat := (by rw [Ny154.out, List.length_take]; omega)
                  rw [← Ny154.out] at hr22
                  rw [← hy22] at hcut22
                  have HR157 := Aside0.mk hr22
                  have HC157 := Aside0.mk (show y154.length ≤ co21 from by omega)
                  clear hr22 hC22 hroom22 hi022 hsz22
                  have KY22 := Aside0.mk hy22
                  clear hy22
                  have KL22 := Aside0.mk (show (t147 : Int).toNat ≤ t151.length from by omega)
                  replace q22 := eq_true q22
                  go_wp2_with (first | (go_at_call 13; (with_reducible refine (overdubkeep_Same_byte.calls k _ _ y154 _ _ t148 true _ ?side1 ?side2 ?side3 ?side4 A14.out).mono ?_); (case side1 => repeat (first | exact (by repeat (first | (with_reducible exact HR157.out) | (with_reducible refine Kd.C_alloc ?_ _) | (with_reducible refine Kd.C_drewN ?_ _) | (with_reducible refine Kd.C_drew ?_) | exact HR157.out)) | (with_reducible refine Kd.C_alloc ?_ _) | (with_reducible refine Kd.C_drewN ?_ _) | (with_reducible refine Kd.C_drew ?_))); (case side2 => exact HC157.out); (case side3 => repeat (first | exact (Kd.R_reads' HO150.out).2.2 | (with_reducible refine Kd.C_alloc ?_ _) | (with_reducible refine Kd.C_drewN ?_ _) | (with_reducible refine Kd.C_drew ?_))); (case side4 => exact (Kd.R_reads' HO150.out).2.1); rintro e w' ⟨rfl, ⟨nd, rfl⟩⟩; have p159 : 0 ≤ (t147 : Int) := of_decide_eq_true (by first | (with_reducible assumption) | assumption); have q159 : t147 < (t151.length : Int) := of_decide_eq_true (by first | (with_reducible assumption) | assumption); obtain ⟨ad159, e159, hx159_0⟩ := Kd.at_int (Kd.R_reads' HO153.out).2.2 t147 p159 q159; cases e159; replace p159 := eq_true p159; replace q159 := eq_true q159))
                  go_meet
                  case rel => exact ⟨_, (((wrap64 (rd t151 t147)) != (Go.bits .and .i64 (ji19) 255))), (by first | rfl | (simp; done) | (simp only [← hji19] <;> (first | rfl | simp)) | (simp [*]; done)), H', ⟨by first | omega | exact Nat.le_refl _⟩, ⟨by (with_reducible repeat (first | apply Kd.R_alloc | apply Kd.R_drewN | apply Kd.R_drew)); exact Kd.R_mono HO150.out (fun _ hk => trivial)⟩, ⟨by repeat (first | (with_reducible first | exact HB.out | apply below_alloc | apply pw_below_drewN | apply below_drew1) | exact HB.out)⟩⟩
                · rw [if_neg c18] at H
                  exact absurd H (by simp)
              · rw [if_neg c16] at H
                exact absurd H (by simp)
            · replace c15 := Bool.eq_false_iff.mpr c15
              subst c15
              have H1 : (overdublaw04_FieldBytes.j0 k t146 t147 t148 true) = some r := by rw [if_neg (show ¬ (false = true) by decide)] at H; exact H
              clear H
              have H := H1
              clear H1
              have H' := Aside0.mk H
              clear H
              obtain ⟨Ao23, co23, eo23⟩ := Kd.R_slice HO150.out
              subst eo23
              obtain ⟨Ao24, co24, eo24⟩ := Kd.R_slice HO153.out
              subst eo24
              have q25 : (t147 : Int) ≤ ((t151.length : Int) : Int) := of_decide_eq_true (by first | (with_reducible assumption) | assumption)
              obtain ⟨i025, hi025, _, hsz25, _⟩ := info_parts info5
              have hroom25 : t151.length ≤ co24 := (Kd.R_reads' HO153.out).2.1
              have hC25 : Kd.C (Kd.int .u8) _ Ao24 t151.length t151 := (Kd.R_reads' HO153.out).2.2
              have hcut25 := cut_to (P := Try.prog) 24 5 .i64 Try.underlying24 hi025 Ao24 t151.length co24 t147 (of_decide_eq_true (by first | (with_reducible assumption) | assumption)) q25 hroom25
              have hr25 := Kd.C_take (m := (t147 : Int).toNat) hC25 (by omega)
              have hy25 : y154.length = (t147 : Int).toNat := (by rw [Ny154.out, List.length_take]; omega)
              rw [← Ny154.out] at hr25
              rw [← hy25] at hcut25
              have HR157 := Aside0.mk hr25
              have HC157 := Aside0.mk (show y154.length ≤ co24 from by omega)
              clear hr25 hC25 hroom25 hi025 hsz25
              have KY25 := Aside0.mk hy25
              clear hy25
              have KL25 := Aside0.mk (show (t147 : Int).toNat ≤ t151.length from by omega)
              replace q25 := eq_true q25
              go_wp2_with (first | (go_at_call 13; (with_reducible refine (overdubkeep_Same_byte.calls k _ _ y154 _ _ t148 false _ ?side1 ?side2 ?side3 ?side4 A14.out).mono ?_); (case side1 => repeat (first | exact (by repeat (first | (with_reducible exact HR157.out) | (with_reducible refine Kd.C_alloc ?_ _) | (with_reducible refine Kd.C_drewN ?_ _) | (with_reducible refine Kd.C_drew ?_) | exact HR157.out)) | (with_reducible refine Kd.C_alloc ?_ _) | (with_reducible refine Kd.C_drewN ?_ _) | (with_reducible refine Kd.C_drew ?_))); (case side2 => exact HC157.out); (case side3 => repeat (first | exact (Kd.R_reads' HO150.out).2.2 | (with_reducible refine Kd.C_alloc ?_ _) | (with_reducible refine Kd.C_drewN ?_ _) | (with_reducible refine Kd.C_drew ?_))); (case side4 => exact (Kd.R_reads' HO150.out).2.1); rintro e w' ⟨rfl, ⟨nd, rfl⟩⟩))
              go_meet
              case rel => exact ⟨_, (true), (by first | rfl | (simp; done) | (simp [*]; done)), H', ⟨by first | omega | exact Nat.le_refl _⟩, ⟨by (with_reducible repeat (first | apply Kd.R_alloc | apply Kd.R_drewN | apply Kd.R_drew)); exact Kd.R_mono HO150.out (fun _ hk => trivial)⟩, ⟨by repeat (first | (with_reducible first | exact HB.out | apply below_alloc | apply pw_below_drewN | apply below_drew1) | exact HB.out)⟩⟩
          · rw [if_neg c13] at H
            exact absurd H (by simp)
        · rw [if_neg c12] at H
          exact absurd H (by simp)
      · rw [if_neg c11] at H
        have c11b0 : ((t151.length : Int) == (wrap64 (t147 + 1))) = false := beq_eq_false_iff_ne.mpr c11
        have c11b1 : ((t151.length : Int) != (wrap64 (t147 + 1))) = true := bne_iff_ne.mpr c11
        have H' := Aside0.mk H
        clear H
        obtain ⟨Ao26, co26, eo26⟩ := Kd.R_slice HO150.out
        subst eo26
        obtain ⟨Ao27, co27, eo27⟩ := Kd.R_slice HO153.out
        subst eo27
        go_wp2
        go_meet
        case rel => exact ⟨_, (true), (by first | rfl | (simp; done) | (simp [*]; done)), H', ⟨by first | omega | exact Nat.le_refl _⟩, ⟨by (with_reducible repeat (first | apply Kd.R_alloc | apply Kd.R_drewN | apply Kd.R_drew)); exact Kd.R_mono HO150.out (fun _ hk => trivial)⟩, ⟨by repeat (first | (with_reducible first | exact HB.out | apply below_alloc | apply pw_below_drewN | apply below_drew1) | exact HB.out)⟩⟩
    · rw [if_neg c10] at H
      have c10b0 : ((t148.length : Int) == t147) = false := beq_eq_false_iff_ne.mpr c10
      have c10b1 : ((t148.length : Int) != t147) = true := bne_iff_ne.mpr c10
      (first | rw [c10b0] | (simp only [i64_w, i32_w]; rw [c10b0]) | skip)
      have H' := Aside0.mk H
      clear H
      obtain ⟨Ao28, co28, eo28⟩ := Kd.R_slice HO150.out
      subst eo28
      go_wp2
      go_meet
      case rel => exact ⟨_, (true), (by first | rfl | (simp; done) | (simp [*]; done)), H', ⟨by first | omega | exact Nat.le_refl _⟩, ⟨by (with_reducible repeat (first | apply Kd.R_alloc | apply Kd.R_drewN | apply Kd.R_drew)); exact Kd.R_mono HO150.out (fun _ hk => trivial)⟩, ⟨by repeat (first | (with_reducible first | exact HB.out | apply below_alloc | apply pw_below_drewN | apply below_drew1) | exact HB.out)⟩⟩
  case rest =>
    clear HC7
    try clear c1
    try clear p1
    try clear q1
    try clear hx1
    try clear p2
    try clear q2
    try clear c4
    try clear p6
    try clear c9
    try clear c10
    try clear c10b0
    try clear c10b1
    try clear c11
    try clear c11b0
    try clear c11b1
    try clear c12
    try clear c12b0
    try clear c12b1
    try clear c13
    try clear c13b0
    try clear c13b1
    try clear c15
    try clear p15
    try clear q15
    try clear hx15
    try clear c16
    try clear c16b0
    try clear c18
    try clear c18b0
    try clear c18b1
    try clear q22
    try clear q25
    try clear hx159_0
    try clear p159
    try clear q159
    try clear q22
    try clear q25
    obtain ⟨kq, x52_6, rfl, HA, HJ6, HO_5, HB⟩ := hcut
    cases kq with
    | zero => exact absurd HA.out (by simp [overdublaw04_FieldBytes.j0])
    | succ kj6 =>
      have H := HA.out
      clear HA
      simp only [overdublaw04_FieldBytes.j0] at H
      by_cases c29 : x52_6 = true
      · subst c29
        have H1 : (some false) = some r := by rw [if_pos rfl] at H; exact H
        clear H
        have H := H1
        clear H1
        obtain rfl := Option.some.inj H
        go_wp2
        go_ret
        exact ⟨by first | rfl | (simp [errW_none, errW_some] <;> rfl) | (simp [*, errW_none, errW_some] <;> rfl), by repeat (first | (with_reducible first | exact HB.out | apply below_alloc | apply pw_below_drewN | apply below_drew1) | exact HB.out)⟩
      · replace c29 := Bool.eq_false_iff.mpr c29
        subst c29
        have H1 : ((field_Get.f kj6 t148).bind fun bt160 => (if bt160.2 = true then (if 0 ≤ (IntKind.u64.wrap (wrap64 (8 * t147))) then (if bt160.1 = (Go.bits .and .i64 t146 (wrap64 ((shl .i64 1 (IntKind.u64.wrap (wrap64 (8 * t147)))) - 1))) then ((field_Put.f kj6 t146 (-1)).bind fun t162 => (if (t162.length : Int) = 0 then ((field_Put.f kj6 t146 20).bind fun t165 => (if (t165.length : Int) = 8 then ((overdublaw04_wakes.f kj6).bind fun t168 => (some t168)) else (some false))) else (some false))) else (some false)) else (none)) else (some false))) = some r := by rw [if_neg (show ¬ (false = true) by decide)] at H; exact H
        clear H
        have H := H1
        clear H1
        replace H := Option.bind_eq_some_iff.mp H
        obtain ⟨⟨t160, t161⟩, A300, H⟩ := H
        replace H : (if t161 = true then (if 0 ≤ (IntKind.u64.wrap (wrap64 (8 * t147))) then (if t160 = (Go.bits .and .i64 t146 (wrap64 ((shl .i64 1 (IntKind.u64.wrap (wrap64 (8 * t147)))) - 1))) then ((field_Put.f kj6 t146 (-1)).bind fun t162 => (if (t162.length : Int) = 0 then ((field_Put.f kj6 t146 20).bind fun t165 => (if (t165.length : Int) = 8 then ((overdublaw04_wakes.f kj6).bind fun t168 => (some t168)) else (some false))) else (some false))) else (some false)) else (none)) else (some false)) = some r := H
        have A30 := Aside0.mk A300
        clear A300
        by_cases c31 : t161 = true
        · subst c31
          have H1 : (if 0 ≤ (IntKind.u64.wrap (wrap64 (8 * t147))) then (if t160 = (Go.bits .and .i64 t146 (wrap64 ((shl .i64 1 (IntKind.u64.wrap (wrap64 (8 * t147)))) - 1))) then ((field_Put.f kj6 t146 (-1)).bind fun t162 => (if (t162.length : Int) = 0 then ((field_Put.f kj6 t146 20).bind fun t165 => (if (t165.length : Int) = 8 then ((overdublaw04_wakes.f kj6).bind fun t168 => (some t168)) else (some false))) else (some false))) else (some false)) else (none)) = some r := by rw [if_pos rfl] at H; exact H
          clear H
          have H := H1
          clear H1
          obtain ⟨ji32, hji32⟩ : ∃ j_ : Int, (IntKind.u64.wrap (wrap64 (8 * t147))) = j_ := ⟨_, rfl⟩
          replace H : (if 0 ≤ (ji32) then (if t160 = (Go.bits .and .i64 t146 (wrap64 ((shl .i64 1 (ji32)) - 1))) then ((field_Put.f kj6 t146 (-1)).bind fun t162 => (if (t162.length : Int) = 0 then ((field_Put.f kj6 t146 20).bind fun t165 => (if (t165.length : Int) = 8 then ((overdublaw04_wakes.f kj6).bind fun t168 => (some t168)) else (some false))) else (some false))) else (some false)) else (none)) = some r := by first | (rw [hji32] at H; exact H) | (simp only [hji32] at H ⊢; exact H)
          (try rw [hji32] at A30)
          by_cases c33 : 0 ≤ (ji32)
          · rw [if_pos c33] at H
            have c33b0 := eq_true c33
            have c33b1 : decide (0 ≤ (ji32)) = true := decide_eq_true c33
            clear c33
            obtain ⟨ji34, hji34⟩ : ∃ j_ : Int, (shl .i64 1 (ji32)) = j_ := ⟨_, rfl⟩
            replace H : (if t160 = (Go.bits .and .i64 t146 (wrap64 ((ji34) - 1))) then ((field_Put.f kj6 t146 (-1)).bind fun t162 => (if (t162.length : Int) = 0 then ((field_Put.f kj6 t146 20).bind fun t165 => (if (t165.length : Int) = 8 then ((overdublaw04_wakes.f kj6).bind fun t168 => (some t168)) else (some false))) else (some false))) else (some false)) = some r := by first | (rw [hji34] at H; exact H) | (simp only [hji34] at H ⊢; exact H)
            (try rw [hji34] at A30)
            have hji34_ : (IntKind.i64.wrap (1 * 2 ^ min (ji32).toNat 64)) = ji34 := hji34
            have hji34z : (ji32) ≤ 64 → (IntKind.i64.wrap (1 * 2 ^ (ji32).toNat)) = ji34 := shl_small hji34
            have hji34u : (IntKind.i64.wrap (2 ^ min (ji32).toNat 64)) = ji34 := by have h_ := hji34_; rw [Int.one_mul] at h_; exact h_
            have hji34v : (ji32) ≤ 64 → (IntKind.i64.wrap (2 ^ (ji32).toNat)) = ji34 := fun hle_ => by have h_ := hji34z hle_; rw [Int.one_mul] at h_; exact h_
            have hji34y : (wrap64 (1 * 2 ^ min (ji32).toNat 64)) = ji34 := (i64_w _).symm.trans hji34_
            have hji34x : (ji32) ≤ 64 → (wrap64 (1 * 2 ^ (ji32).toNat)) = ji34 := fun h_ => (i64_w _).symm.trans (hji34z h_)
            by_cases c35 : t160 = (Go.bits .and .i64 t146 (wrap64 ((ji34) - 1)))
            · rw [if_pos c35] at H
              have c35b0 : (t160 == (Go.bits .and .i64 t146 (wrap64 ((ji34) - 1)))) = true := beq_iff_eq.mpr c35
              have c35b1 : (t160 != (Go.bits .and .i64 t146 (wrap64 ((ji34) - 1)))) = false := bne_eq_false_iff_eq.mpr c35
              clear c35
              replace H := Option.bind_eq_some_iff.mp H
              obtain ⟨t162, A360, H⟩ := H
              replace H : (if (t162.length : Int) = 0 then ((field_Put.f kj6 t146 20).bind fun t165 => (if (t165.length : Int) = 8 then ((overdublaw04_wakes.f kj6).bind fun t168 => (some t168)) else (some false))) else (some false)) = some r := H
              have A36 := Aside0.mk A360
              clear A360
              by_cases c37 : (t162.length : Int) = 0
              · rw [if_pos c37] at H
                have c37b0 : ((t162.length : Int) == 0) = true := beq_iff_eq.mpr c37
                have c37b1 : ((t162.length : Int) != 0) = false := bne_eq_false_iff_eq.mpr c37
                clear c37
                replace H := Option.bind_eq_some_iff.mp H
                obtain ⟨t165, A380, H⟩ := H
                replace H : (if (t165.length : Int) = 8 then ((overdublaw04_wakes.f kj6).bind fun t168 => (some t168)) else (some false)) = some r := H
                have A38 := Aside0.mk A380
                clear A380
                by_cases c39 : (t165.length : Int) = 8
                · rw [if_pos c39] at H
                  have c39b0 : ((t165.length : Int) == 8) = true := beq_iff_eq.mpr c39
                  have c39b1 : ((t165.length : Int) != 8) = false := bne_eq_false_iff_eq.mpr c39
                  clear c39
                  replace H := Option.bind_eq_some_iff.mp H
                  obtain ⟨t168, A400, H⟩ := H
                  replace H : (some t168) = some r := H
                  have A40 := Aside0.mk A400
                  clear A400
                  obtain rfl := Option.some.inj H
                  obtain ⟨Ao41, co41, eo41⟩ := Kd.R_slice HO_5.out
                  subst eo41
                  go_wp2_with (first | ((with_reducible refine gate_callee (f := 14) rfl ?_); refine goesL_ (some 55) rfl rfl Try.func14 (by kernel_rfl) rfl #[.slice Ao41 t148.length co41] rfl (by (try simp only [List.map_toArray, List.map_cons, List.map_nil]); first | done | rfl | (simp only [List.length_drop, List.length_take]; rfl)) ?_; (with_reducible refine (field_Get.calls kj6 _ _ t148 t160 true _ ?side1 ?side2 A30.out).mono ?_); (case side1 => repeat (first | exact (Kd.R_reads' HO_5.out).2.2 | (with_reducible refine Kd.C_alloc ?_ _) | (with_reducible refine Kd.C_drewN ?_ _) | (with_reducible refine Kd.C_drew ?_))); (case side2 => exact (Kd.R_reads' HO_5.out).2.1); rintro e w' ⟨rfl, ⟨nd, rfl⟩⟩; refine ⟨_, rfl, ?_⟩) | (go_at_call 10; (with_reducible refine (field_Put.calls kj6 t146 (-1) t162 _ A36.out).mono ?_); rintro e w42 ⟨v163, rfl, ho0, hb⟩; have n0_ := Aside0.mk (Kd.R_elder' (by (with_reducible repeat (first | apply Kd.R_alloc | apply Kd.R_drewN | apply Kd.R_drew)); exact HO_5.out) (Kd.R_base ho0) hb); have n1_ := Aside0.mk (Kd.R_lower (Kd.R_new' ho0 (Kd.R_lt (by (with_reducible repeat (first | apply Kd.R_alloc | apply Kd.R_drewN | apply Kd.R_drew)); exact HO_5.out))) (below_size (by repeat (first | (with_reducible first | exact HB.out | apply below_alloc | apply pw_below_drewN | apply below_drew1) | exact HB.out)))); have n2_ := Aside0.mk (below_step (by repeat (first | (with_reducible first | exact HB.out | apply below_alloc | apply pw_below_drewN | apply below_drew1) | exact HB.out)) hb); clear HO_5; clear HB; have HO_5 := n0_; have HO164 := n1_; have HB := n2_; clear n0_ n1_ n2_; (try clear hb); (try clear hb2); (try clear hk); (try clear hi); (try clear ho0); obtain ⟨Ao43, co43, eo43⟩ := Kd.R_slice HO164.out; subst eo43) | (go_at_call 10; (with_reducible refine (field_Put.calls kj6 t146 20 t165 _ A38.out).mono ?_); rintro e w44 ⟨v166, rfl, ho0, hb⟩; have n0_ := Aside0.mk (Kd.R_elder' (by (with_reducible repeat (first | apply Kd.R_alloc | apply Kd.R_drewN | apply Kd.R_drew)); exact HO_5.out) (Kd.R_base ho0) hb); have n1_ := Aside0.mk (Kd.R_elder' (by (with_reducible repeat (first | apply Kd.R_alloc | apply Kd.R_drewN | apply Kd.R_drew)); exact HO164.out) (Kd.R_base ho0) hb); have n2_ := Aside0.mk (Kd.R_lower (Kd.R_new' (Kd.R_new' ho0 (Kd.R_lt (by (with_reducible repeat (first | apply Kd.R_alloc | apply Kd.R_drewN | apply Kd.R_drew)); exact HO_5.out))) (Kd.R_lt (by (with_reducible repeat (first | apply Kd.R_alloc | apply Kd.R_drewN | apply Kd.R_drew)); exact HO164.out))) (below_size (by repeat (first | (with_reducible first | exact HB.out | apply below_alloc | apply pw_below_drewN | apply below_drew1) | exact HB.out)))); have n3_ := Aside0.mk (below_step (by repeat (first | (with_reducible first | exact HB.out | apply below_alloc | apply pw_below_drewN | apply below_drew1) | exact HB.out)) hb); clear HO_5; clear HO164; clear HB; have HO_5 := n0_; have HO164 := n1_; have HO167 := n2_; have HB := n3_; clear n0_ n1_ n2_ n3_; (try clear hb); (try clear hb2); (try clear hk); (try clear hi); (try clear ho0); obtain ⟨Ao45, co45, eo45⟩ := Kd.R_slice HO167.out; subst eo45) | (go_at_call 12; (with_reducible refine (overdublaw04_wakes.calls kj6  t168 _ A40.out).mono ?_); rintro e w46 ⟨rfl, hb⟩; have n0_ := Aside0.mk (Kd.R_below (by (with_reducible repeat (first | apply Kd.R_alloc | apply Kd.R_drewN | apply Kd.R_drew)); exact HO_5.out) hb); have n1_ := Aside0.mk (Kd.R_below (by (with_reducible repeat (first | apply Kd.R_alloc | apply Kd.R_drewN | apply Kd.R_drew)); exact HO164.out) hb); have n2_ := Aside0.mk (Kd.R_below (by (with_reducible repeat (first | apply Kd.R_alloc | apply Kd.R_drewN | apply Kd.R_drew)); exact HO167.out) hb); have n3_ := Aside0.mk (below_step (by repeat (first | (with_reducible first | exact HB.out | apply below_alloc | apply pw_below_drewN | apply below_drew1) | exact HB.out)) hb); clear HO_5; clear HO164; clear HO167; clear HB; have HO_5 := n0_; have HO164 := n1_; have HO167 := n2_; have HB := n3_; clear n0_ n1_ n2_ n3_; (try clear hb); (try clear hb2); (try clear hk); (try clear hi)))
                  go_ret
                  exact ⟨by first | rfl | (simp [errW_none, errW_some] <;> rfl) | (simp only [← hji32, ← hji34]; first | rfl | (simp [errW_none, errW_some] <;> rfl)) | (simp [*, errW_none, errW_some] <;> rfl), by repeat (first | (with_reducible first | exact HB.out | apply below_alloc | apply pw_below_drewN | apply below_drew1) | exact HB.out)⟩
                · rw [if_neg c39] at H
                  have c39b0 : ((t165.length : Int) == 8) = false := beq_eq_false_iff_ne.mpr c39
                  have c39b1 : ((t165.length : Int) != 8) = true := bne_iff_ne.mpr c39
                  obtain rfl := Option.some.inj H
                  obtain ⟨Ao47, co47, eo47⟩ := Kd.R_slice HO_5.out
                  subst eo47
                  go_wp2_with (first | ((with_reducible refine gate_callee (f := 14) rfl ?_); refine goesL_ (some 55) rfl rfl Try.func14 (by kernel_rfl) rfl #[.slice Ao47 t148.length co47] rfl (by (try simp only [List.map_toArray, List.map_cons, List.map_nil]); first | done | rfl | (simp only [List.length_drop, List.length_take]; rfl)) ?_; (with_reducible refine (field_Get.calls kj6 _ _ t148 t160 true _ ?side1 ?side2 A30.out).mono ?_); (case side1 => repeat (first | exact (Kd.R_reads' HO_5.out).2.2 | (with_reducible refine Kd.C_alloc ?_ _) | (with_reducible refine Kd.C_drewN ?_ _) | (with_reducible refine Kd.C_drew ?_))); (case side2 => exact (Kd.R_reads' HO_5.out).2.1); rintro e w' ⟨rfl, ⟨nd, rfl⟩⟩; refine ⟨_, rfl, ?_⟩) | (go_at_call 10; (with_reducible refine (field_Put.calls kj6 t146 (-1) t162 _ A36.out).mono ?_); rintro e w48 ⟨v163, rfl, ho0, hb⟩; have n0_ := Aside0.mk (Kd.R_elder' (by (with_reducible repeat (first | apply Kd.R_alloc | apply Kd.R_drewN | apply Kd.R_drew)); exact HO_5.out) (Kd.R_base ho0) hb); have n1_ := Aside0.mk (Kd.R_lower (Kd.R_new' ho0 (Kd.R_lt (by (with_reducible repeat (first | apply Kd.R_alloc | apply Kd.R_drewN | apply Kd.R_drew)); exact HO_5.out))) (below_size (by repeat (first | (with_reducible first | exact HB.out | apply below_alloc | apply pw_below_drewN | apply below_drew1) | exact HB.out)))); have n2_ := Aside0.mk (below_step (by repeat (first | (with_reducible first | exact HB.out | apply below_alloc | apply pw_below_drewN | apply below_drew1) | exact HB.out)) hb); clear HO_5; clear HB; have HO_5 := n0_; have HO164 := n1_; have HB := n2_; clear n0_ n1_ n2_; (try clear hb); (try clear hb2); (try clear hk); (try clear hi); (try clear ho0); obtain ⟨Ao49, co49, eo49⟩ := Kd.R_slice HO164.out; subst eo49) | (go_at_call 10; (with_reducible refine (field_Put.calls kj6 t146 20 t165 _ A38.out).mono ?_); rintro e w50 ⟨v166, rfl, ho0, hb⟩; have n0_ := Aside0.mk (Kd.R_elder' (by (with_reducible repeat (first | apply Kd.R_alloc | apply Kd.R_drewN | apply Kd.R_drew)); exact HO_5.out) (Kd.R_base ho0) hb); have n1_ := Aside0.mk (Kd.R_elder' (by (with_reducible repeat (first | apply Kd.R_alloc | apply Kd.R_drewN | apply Kd.R_drew)); exact HO164.out) (Kd.R_base ho0) hb); have n2_ := Aside0.mk (Kd.R_lower (Kd.R_new' (Kd.R_new' ho0 (Kd.R_lt (by (with_reducible repeat (first | apply Kd.R_alloc | apply Kd.R_drewN | apply Kd.R_drew)); exact HO_5.out))) (Kd.R_lt (by (with_reducible repeat (first | apply Kd.R_alloc | apply Kd.R_drewN | apply Kd.R_drew)); exact HO164.out))) (below_size (by repeat (first | (with_reducible first | exact HB.out | apply below_alloc | apply pw_below_drewN | apply below_drew1) | exact HB.out)))); have n3_ := Aside0.mk (below_step (by repeat (first | (with_reducible first | exact HB.out | apply below_alloc | apply pw_below_drewN | apply below_drew1) | exact HB.out)) hb); clear HO_5; clear HO164; clear HB; have HO_5 := n0_; have HO164 := n1_; have HO167 := n2_; have HB := n3_; clear n0_ n1_ n2_ n3_; (try clear hb); (try clear hb2); (try clear hk); (try clear hi); (try clear ho0); obtain ⟨Ao51, co51, eo51⟩ := Kd.R_slice HO167.out; subst eo51))
                  go_ret
                  exact ⟨by first | rfl | (simp [errW_none, errW_some] <;> rfl) | (simp only [← hji32, ← hji34]; first | rfl | (simp [errW_none, errW_some] <;> rfl)) | (simp [*, errW_none, errW_some] <;> rfl), by repeat (first | (with_reducible first | exact HB.out | apply below_alloc | apply pw_below_drewN | apply below_drew1) | exact HB.out)⟩
              · rw [if_neg c37] at H
                have c37b0 : ((t162.length : Int) == 0) = false := beq_eq_false_iff_ne.mpr c37
                have c37b1 : ((t162.length : Int) != 0) = true := bne_iff_ne.mpr c37
                have c37b2 : ¬ (t162 = []) := fun h_ => c37 (by rw [h_]; rfl)
                obtain rfl := Option.some.inj H
                obtain ⟨Ao52, co52, eo52⟩ := Kd.R_slice HO_5.out
                subst eo52
                go_wp2_with (first | ((with_reducible refine gate_callee (f := 14) rfl ?_); refine goesL_ (some 55) rfl rfl Try.func14 (by kernel_rfl) rfl #[.slice Ao52 t148.length co52] rfl (by (try simp only [List.map_toArray, List.map_cons, List.map_nil]); first | done | rfl | (simp only [List.length_drop, List.length_take]; rfl)) ?_; (with_reducible refine (field_Get.calls kj6 _ _ t148 t160 true _ ?side1 ?side2 A30.out).mono ?_); (case side1 => repeat (first | exact (Kd.R_reads' HO_5.out).2.2 | (with_reducible refine Kd.C_alloc ?_ _) | (with_reducible refine Kd.C_drewN ?_ _) | (with_reducible refine Kd.C_drew ?_))); (case side2 => exact (Kd.R_reads' HO_5.out).2.1); rintro e w' ⟨rfl, ⟨nd, rfl⟩⟩; refine ⟨_, rfl, ?_⟩) | (go_at_call 10; (with_reducible refine (field_Put.calls kj6 t146 (-1) t162 _ A36.out).mono ?_); rintro e w53 ⟨v163, rfl, ho0, hb⟩; have n0_ := Aside0.mk (Kd.R_elder' (by (with_reducible repeat (first | apply Kd.R_alloc | apply Kd.R_drewN | apply Kd.R_drew)); exact HO_5.out) (Kd.R_base ho0) hb); have n1_ := Aside0.mk (Kd.R_lower (Kd.R_new' ho0 (Kd.R_lt (by (with_reducible repeat (first | apply Kd.R_alloc | apply Kd.R_drewN | apply Kd.R_drew)); exact HO_5.out))) (below_size (by repeat (first | (with_reducible first | exact HB.out | apply below_alloc | apply pw_below_drewN | apply below_drew1) | exact HB.out)))); have n2_ := Aside0.mk (below_step (by repeat (first | (with_reducible first | exact HB.out | apply below_alloc | apply pw_below_drewN | apply below_drew1) | exact HB.out)) hb); clear HO_5; clear HB; have HO_5 := n0_; have HO164 := n1_; have HB := n2_; clear n0_ n1_ n2_; (try clear hb); (try clear hb2); (try clear hk); (try clear hi); (try clear ho0); obtain ⟨Ao54, co54, eo54⟩ := Kd.R_slice HO164.out; subst eo54))
                go_ret
                exact ⟨by first | rfl | (simp [errW_none, errW_some] <;> rfl) | (simp only [← hji32, ← hji34]; first | rfl | (simp [errW_none, errW_some] <;> rfl)) | (simp [*, errW_none, errW_some] <;> rfl), by repeat (first | (with_reducible first | exact HB.out | apply below_alloc | apply pw_below_drewN | apply below_drew1) | exact HB.out)⟩
            · rw [if_neg c35] at H
              have c35b0 : (t160 == (Go.bits .and .i64 t146 (wrap64 ((ji34) - 1)))) = false := beq_eq_false_iff_ne.mpr c35
              have c35b1 : (t160 != (Go.bits .and .i64 t146 (wrap64 ((ji34) - 1)))) = true := bne_iff_ne.mpr c35
              obtain rfl := Option.some.inj H
              obtain ⟨Ao55, co55, eo55⟩ := Kd.R_slice HO_5.out
              subst eo55
              go_wp2_with (first | ((with_reducible refine gate_callee (f := 14) rfl ?_); refine goesL_ (some 55) rfl rfl Try.func14 (by kernel_rfl) rfl #[.slice Ao55 t148.length co55] rfl (by (try simp only [List.map_toArray, List.map_cons, List.map_nil]); first | done | rfl | (simp only [List.length_drop, List.length_take]; rfl)) ?_; (with_reducible refine (field_Get.calls kj6 _ _ t148 t160 true _ ?side1 ?side2 A30.out).mono ?_); (case side1 => repeat (first | exact (Kd.R_reads' HO_5.out).2.2 | (with_reducible refine Kd.C_alloc ?_ _) | (with_reducible refine Kd.C_drewN ?_ _) | (with_reducible refine Kd.C_drew ?_))); (case side2 => exact (Kd.R_reads' HO_5.out).2.1); rintro e w' ⟨rfl, ⟨nd, rfl⟩⟩; refine ⟨_, rfl, ?_⟩))
              go_ret
              exact ⟨by first | rfl | (simp [errW_none, errW_some] <;> rfl) | (simp only [← hji32, ← hji34]; first | rfl | (simp [errW_none, errW_some] <;> rfl)) | (simp [*, errW_none, errW_some] <;> rfl), by repeat (first | (with_reducible first | exact HB.out | apply below_alloc | apply pw_below_drewN | apply below_drew1) | exact HB.out)⟩
          · rw [if_neg c33] at H
            exact absurd H (by simp)
        · replace c31 := Bool.eq_false_iff.mpr c31
          subst c31
          have H1 : (some false) = some r := by rw [if_neg (show ¬ (false = true) by decide)] at H; exact H
          clear H
          have H := H1
          clear H1
          obtain rfl := Option.some.inj H
          obtain ⟨Ao56, co56, eo56⟩ := Kd.R_slice HO_5.out
          subst eo56
          go_wp2_with (first | ((with_reducible refine gate_callee (f := 14) rfl ?_); refine goesL_ (some 55) rfl rfl Try.func14 (by kernel_rfl) rfl #[.slice Ao56 t148.length co56] rfl (by (try simp only [List.map_toArray, List.map_cons, List.map_nil]); first | done | rfl | (simp only [List.length_drop, List.length_take]; rfl)) ?_; (with_reducible refine (field_Get.calls kj6 _ _ t148 t160 false _ ?side1 ?side2 A30.out).mono ?_); (case side1 => repeat (first | exact (Kd.R_reads' HO_5.out).2.2 | (with_reducible refine Kd.C_alloc ?_ _) | (with_reducible refine Kd.C_drewN ?_ _) | (with_reducible refine Kd.C_drew ?_))); (case side2 => exact (Kd.R_reads' HO_5.out).2.1); rintro e w' ⟨rfl, ⟨nd, rfl⟩⟩; refine ⟨_, rfl, ?_⟩))
          go_ret
          exact ⟨by first | rfl | (simp [errW_none, errW_some] <;> rfl) | (simp [*, errW_none, errW_some] <;> rfl), by repeat (first | (with_reducible first | exact HB.out | apply below_alloc | apply pw_below_drewN | apply below_drew1) | exact HB.out)⟩

/-- THE ONE PURE STATEMENT of overdublaw04_FieldBytes: yours. -/
def overdublaw04_FieldBytes.Pure : Prop := ∀ (a0 : Int) (a1 : Int), (Lit.int .i64 a0).wf = true → (Lit.int .i64 a1).wf = true → ∃ k, overdublaw04_FieldBytes.f k a0 a1 = some true
theorem overdublaw04_FieldBytes.walk (P : overdublaw04_FieldBytes.Pure) (a0 : Int) (a1 : Int) (w : World) (w0 : (Lit.int .i64 a0).wf = true) (w1 : (Lit.int .i64 a1).wf = true) :
    Calls Try.prog 4 #[.int .i64 a0, .int .i64 a1] w fun e w' => e = .returned (.bool true) ∧ Below w.heap.size w w' := by
  obtain ⟨k, h⟩ := P a0 a1 w0 w1
  refine (overdublaw04_FieldBytes.calls k a0 a1 true w h).mono ?_
  rintro e w' ⟨rfl, hd⟩
  exact ⟨rfl, hd⟩

/-! ### overdubkeep_Cut_byte: function 15 -/
def overdubkeep_Cut_byte.f (l0 : List Int) (a1 : Int) : Option (List Int) := if 0 ≤ (mn (l0.length : Int) a1) then (if (mn (l0.length : Int) a1) ≤ (l0.length : Int) then (some (l0.take ((mn (l0.length : Int) a1) : Int).toNat)) else (none)) else (none)
set_option maxHeartbeats 8000000 in
set_option maxRecDepth 100000 in
theorem overdubkeep_Cut_byte.calls (P0_ : Nat → Prop) (u9000_ : Value) (l0 : List Int) (a1 : Int) (r : List Int) (w0 w : World) (hB : Below w0.heap.size w0 w) (ho0 : Kd.R (Kd.int .u8) 5 w w0.heap.size P0_ u9000_ l0) (h : overdubkeep_Cut_byte.f l0 a1 = some r) :
    Calls Try.prog 15 #[u9000_, .int .i64 a1] w fun e w' => ∃ v0_ : Value, e = .returned (v0_) ∧ Kd.R (Kd.int .u8) 5 w' w0.heap.size (fun k_ => (P0_ k_ ∨ w.heap.size ≤ k_)) v0_ r ∧ Below w0.heap.size w0 w' ∧ Kept w w' (fun k_ => P0_ k_) := by
  have HO0 := Aside0.mk (show Kd.R (Kd.int .u8) 5 w w0.heap.size (fun k_ => (P0_ k_ ∨ w.heap.size ≤ k_)) u9000_ l0 from Kd.R_mono ho0 (fun k_ hk => (.inl hk)))
  have HK := Aside0.mk (Kept.refl w (fun k_ => P0_ k_))
  have HW0 := Aside0.mk hB.size
  have HB := Aside0.mk hB
  clear hB
  have H : (if 0 ≤ (mn (l0.length : Int) a1) then (if (mn (l0.length : Int) a1) ≤ (l0.length : Int) then (some (l0.take ((mn (l0.length : Int) a1) : Int).toNat)) else (none)) else (none)) = some r := h
  clear h
  obtain ⟨ji3, hji3⟩ : ∃ j_ : Int, (mn (l0.length : Int) a1) = j_ := ⟨_, rfl⟩
  replace H : (if 0 ≤ (ji3) then (if (ji3) ≤ (l0.length : Int) then (some (l0.take ((ji3) : Int).toNat)) else (none)) else (none)) = some r := by first | (rw [hji3] at H; exact H) | (simp only [hji3] at H ⊢; exact H)
  have hji3_ : (if a1 < (l0.length : Int) then a1 else (l0.length : Int)) = ji3 := hji3
  by_cases c4 : 0 ≤ (ji3)
  · rw [if_pos c4] at H
    have c4b0 := eq_true c4
    have c4b1 : decide (0 ≤ (ji3)) = true := decide_eq_true c4
    clear c4
    by_cases c5 : (ji3) ≤ (l0.length : Int)
    · rw [if_pos c5] at H
      have c5b0 := eq_true c5
      have c5b1 : decide ((ji3) ≤ (l0.length : Int)) = true := decide_eq_true c5
      clear c5
      obtain ⟨y169, hy169⟩ : ∃ y_ : List Int, y_ = (l0.take ((ji3) : Int).toNat) := ⟨_, rfl⟩
      replace H : (some y169) = some r := by first | (rw [hy169]; with_reducible exact H) | (have H2_ := (Option.bind_some _ _).symm.trans H; rw [hy169]; with_reducible exact H2_) | (have H2_ := (Option.bind_some _ _).symm.trans H; with_reducible exact H2_) | with_reducible exact H | (rw [hy169]; exact H) | exact H
      have Ny169 := Aside0.mk hy169
      clear hy169
      obtain rfl := Option.some.inj H
      obtain ⟨Ao6, co6, eo6⟩ := Kd.R_slice HO0.out
      subst eo6
      have q7 : ((ji3) : Int) ≤ ((l0.length : Int) : Int) := of_decide_eq_true (by first | (with_reducible assumption) | assumption)
      obtain ⟨i07, hi07, _, hsz7, _⟩ := info_parts info5
      have hcut7 := cut_to (P := Try.prog) 24 5 .i64 Try.underlying24 hi07 Ao6 l0.length co6 (ji3) (of_decide_eq_true (by first | (with_reducible assumption) | assumption)) q7 (Kd.R_reads' HO0.out).2.1
      have hr7 := Kd.R_take (m := ((ji3) : Int).toNat) HO0.out (by omega)
      have hy7 : y169.length = ((ji3) : Int).toNat := (by rw [Ny169.out, List.length_take]; omega)
      rw [← Ny169.out] at hr7
      rw [← hy7] at hr7 hcut7
      clear hy7 hi07 hsz7 HO0
      have HO171 := Aside0.mk hr7
      clear hr7
      replace q7 := eq_true q7
      go_enter Try.func15, Try.ntmps15
      go_wp2
      go_ret
      exact ⟨_, by first | rfl | (simp [errW_none, errW_some] <;> rfl) | (simp only [← hji3]; first | rfl | (simp [errW_none, errW_some] <;> rfl)) | (simp [*, errW_none, errW_some] <;> rfl), by (with_reducible repeat (first | apply Kd.R_alloc | apply Kd.R_drewN | apply Kd.R_drew)); exact HO171.out, by repeat (first | (with_reducible first | exact HB.out | apply below_alloc | apply pw_below_drewN | apply below_drew1) | exact HB.out), by repeat (first | (with_reducible first | exact HK.out | apply Kept.alloc | apply Kept.drewN | apply Kept.drew) | exact HK.out)⟩
    · rw [if_neg c5] at H
      exact absurd H (by simp)
  · rw [if_neg c4] at H
    exact absurd H (by simp)

set_option maxHeartbeats 8000000 in
theorem overdubkeep_Cut_byte.reads (A0 : Option Addr) (n c : Nat) (a1 m : Int) (k : Nat) (w : World) (hk : (m : Int).toNat = k) (h0 : 0 ≤ m) (h1 : m ≤ (n : Int)) (hm : mn (n : Int) a1 = m) (hc : n ≤ c) :
    Calls Try.prog 15 #[.slice A0 n c, .int .i64 a1] w fun e w' => e = .returned (.slice A0 k c) ∧ Drawn0 w w' := by
  subst hk
  have hm_ : (if a1 < (n : Int) then a1 else (n : Int)) = m := hm
  obtain ⟨i0, hi0, _, _, _⟩ := info_parts info5
  have hcut := cut_to (P := Try.prog) 24 5 .i64 Try.underlying24 hi0 A0 n c m h0 h1 hc
  have b0 := eq_true h0
  have b1 := decide_eq_true h0
  have b2 := eq_true h1
  have b3 := decide_eq_true h1
  clear hm h0 h1
  go_enter Try.func15, Try.ntmps15
  go_wp2
  go_ret
  exact ⟨rfl, Drawn0.refl _⟩

/-! ### overdubref01_Get: function 16 -/
def overdubref01_Get.l0 : Nat → List Int → Int → Int → Option (Int × Bool)
  | 0, _, _, _ => none
  | k + 1, x0, x4, x5 => if x5 ≥ 0 then (if 0 ≤ x5 then (if x5 < (x0.length : Int) then (overdubref01_Get.l0 k x0 (wrap64 ((wrap64 (256 * x4)) + (wrap64 (rd x0 x5)))) (wrap64 (x5 - 1))) else (none)) else (none)) else (some (x4, true))
def overdubref01_Get.f (k : Nat) (l0 : List Int) : Option (Int × Bool) := if (l0.length : Int) > 7 then (some (0, false)) else (overdubref01_Get.l0 k l0 0 (wrap64 ((l0.length : Int) - 1)))
theorem overdubref01_Get.mono_l : ∀ k, (∀ y0 y1 y2, LeO (overdubref01_Get.l0 k y0 y1 y2) (overdubref01_Get.l0 (k + 1) y0 y1 y2))
  | 0 => fun _ _ _ r h => by simp [overdubref01_Get.l0] at h
  | k + 1 => by
    have ih0 := overdubref01_Get.mono_l k
    · intro y0 y1 y2
      unfold overdubref01_Get.l0
      repeat' first
      | (with_reducible exact ih0 _ _ _)
      | (with_reducible exact LeO.refl _)
      | (with_reducible exact LeO.none _)
      | (with_reducible refine LeO.ite ?_ ?_)
      | (with_reducible refine LeO.bind ?_ (fun _ => ?_))
      | exact ih0 _ _ _
      | exact LeO.none _
      | refine LeO.ite ?_ ?_
      | refine LeO.bind ?_ (fun _ => ?_)
theorem overdubref01_Get.mono : ∀ a0 k, LeO (overdubref01_Get.f k a0) (overdubref01_Get.f (k + 1) a0) := by
  intro a0 k
  have ih0 := overdubref01_Get.mono_l k
  unfold overdubref01_Get.f
  repeat' first
      | (with_reducible exact ih0 _ _ _)
      | (with_reducible exact LeO.refl _)
      | (with_reducible exact LeO.none _)
      | (with_reducible refine LeO.ite ?_ ?_)
      | (with_reducible refine LeO.bind ?_ (fun _ => ?_))
      | exact ih0 _ _ _
      | exact LeO.none _
      | refine LeO.ite ?_ ?_
      | refine LeO.bind ?_ (fun _ => ?_)
set_option maxHeartbeats 8000000 in
set_option maxRecDepth 100000 in
theorem overdubref01_Get.calls (k : Nat) (A0 : Option Addr) (c0 : Nat) (l0 : List Int) (r1 : Int) (r2 : Bool) (w : World) (hr0 : Kd.C (Kd.int .u8) w A0 l0.length l0) (hc0 : l0.length ≤ c0) (h : overdubref01_Get.f k l0 = some (r1, r2)) :
    Calls Try.prog 16 #[.slice A0 l0.length c0] w fun e w' => e = .returned (.tuple #[.int .i64 r1, .bool r2]) ∧ Drawn0 w w' := by
  have HR0 := Aside0.mk hr0
  have HC0 := Aside0.mk hc0
  clear hr0 hc0
  have H : (if (l0.length : Int) > 7 then (some (0, false)) else (overdubref01_Get.l0 k l0 0 (wrap64 ((l0.length : Int) - 1)))) = some (r1, r2) := h
  clear h
  by_cases c2 : (l0.length : Int) > 7
  · rw [if_pos c2] at H
    have c2b0 : decide (7 < (l0.length : Int)) = true := decide_eq_true c2
    have c2b1 : decide (7 < l0.length) = true := decide_eq_true (by omega)
    clear c2
    simp only [Option.some.injEq, Prod.mk.injEq] at H
    obtain ⟨rfl, rfl⟩ := H
    go_enter Try.func16, Try.ntmps16
    go_wp2
    go_ret2
    exact ⟨by first | rfl | (simp; done) | (simp [*]; done), by repeat (first | exact Drawn0.refl _ | apply Drawn0.step)⟩
  · rw [if_neg c2] at H
    have c2b0 : decide (7 < (l0.length : Int)) = false := decide_eq_false c2
    have c2b1 : decide (7 < l0.length) = false := decide_eq_false (by omega)
    clear c2
    have H' := Aside0.mk H
    clear H
    go_enter Try.func16, Try.ntmps16
    go_wp2
    go_loopg [4, 5] k (fun kq v4 v5 w' => ∃ (x4_1 : Int) (x5_1 : Int), v4 = .int .i64 x4_1 ∧ v5 = .int .i64 x5_1 ∧ Aside0 (overdubref01_Get.l0 kq l0 x4_1 x5_1 = some (r1, r2)) ∧ Aside0 (kq ≤ k) ∧ Drawn0 w w')
    case atStart => exact ⟨(0), (wrap64 ((l0.length : Int) - 1)), (by first | rfl | (simp; done) | (simp [*]; done)), (by first | rfl | (simp; done) | (simp [*]; done)), H', ⟨Nat.le_refl _⟩, by repeat (first | exact Drawn0.refl _ | apply Drawn0.step)⟩
    case round =>
      clear H'
      try clear c1
      try clear c2
      try clear c2b0
      try clear c2b1
      try clear p2
      obtain ⟨x4_1, x5_1, rfl, rfl, HA, HK1, ⟨m1, rfl⟩⟩ := hrel
      cases gk with
      | zero => exact absurd HA.out (by simp [overdubref01_Get.l0])
      | succ k1 =>
        have H := HA.out
        clear HA
        simp only [overdubref01_Get.l0] at H
        by_cases c3 : x5_1 ≥ 0
        · rw [if_pos c3] at H
          have c3b0 : decide (0 ≤ x5_1) = true := decide_eq_true c3
          clear c3
          by_cases c4 : 0 ≤ x5_1
          · rw [if_pos c4] at H
            have c4b0 : decide (0 ≤ x5_1) = true := decide_eq_true c4
            clear c4
            by_cases c5 : x5_1 < (l0.length : Int)
            · rw [if_pos c5] at H
              have c5b0 : decide (x5_1 < (l0.length : Int)) = true := decide_eq_true c5
              clear c5
              have H' := Aside0.mk H
              clear H
              have p172 : 0 ≤ (x5_1 : Int) := of_decide_eq_true (by first | (with_reducible assumption) | assumption)
              have q172 : x5_1 < (l0.length : Int) := of_decide_eq_true (by first | (with_reducible assumption) | assumption)
              obtain ⟨ad172, e172, hx172_0⟩ := Kd.at_int HR0.out x5_1 p172 q172
              cases e172
              replace p172 := eq_true p172
              replace q172 := eq_true q172
              go_wp2
              go_roundg k1
              case measure => have := HK1.out; omega
              case rel => exact ⟨(wrap64 ((wrap64 (256 * x4_1)) + (wrap64 (rd l0 x5_1)))), (wrap64 (x5_1 - 1)), (by first | rfl | (simp; done) | (simp [*]; done)), (by first | rfl | (simp; done) | (simp [*]; done)), H', ⟨by have := HK1.out; omega⟩, by repeat (first | exact Drawn0.refl _ | apply Drawn0.step)⟩
            · rw [if_neg c5] at H
              exact absurd H (by simp)
          · rw [if_neg c4] at H
            exact absurd H (by simp)
        · rw [if_neg c3] at H
          have c3b0 : decide (0 ≤ x5_1) = false := decide_eq_false c3
          clear c3
          simp only [Option.some.injEq, Prod.mk.injEq] at H
          obtain ⟨rfl, rfl⟩ := H
          go_wp2
          go_ret2
          exact ⟨by first | rfl | (simp; done) | (simp [*]; done), by repeat (first | exact Drawn0.refl _ | apply Drawn0.step)⟩

/-! ### overdubref01_Put: function 17 -/
def overdubref01_Put.l0 : Nat → Int → List Int → Int → Int → Option (List Int)
  | 0, _, _, _, _ => none
  | k + 1, x0, x5, x15, x16 => if x16 < x15 then (if 0 ≤ x16 then (if x16 < (x5.length : Int) then (overdubref01_Put.l0 k (wrap64 (Int.tdiv x0 256)) (x5.set (x16 : Int).toNat ((Int.tmod x0 256) % 256)) x15 (wrap64 (x16 + 1))) else (none)) else (none)) else (some x5)
def overdubref01_Put.f (k : Nat) (a0 : Int) (a1 : Int) : Option (List Int) := if 0 ≤ (mn (mx a1 0) 8) then (if (mn (mx a1 0) 8 : Int).toNat ≤ 281474976710656 then ((some (List.replicate (mn (mx a1 0) 8 : Int).toNat 0 : List Int)).bind fun y173 => (overdubref01_Put.l0 k (mx a0 0) y173 (y173.length : Int) 0)) else (none)) else (none)
theorem overdubref01_Put.mono_l : ∀ k, (∀ y0 y1 y2 y3, LeO (overdubref01_Put.l0 k y0 y1 y2 y3) (overdubref01_Put.l0 (k + 1) y0 y1 y2 y3))
  | 0 => fun _ _ _ _ r h => by simp [overdubref01_Put.l0] at h
  | k + 1 => by
    have ih0 := overdubref01_Put.mono_l k
    · intro y0 y1 y2 y3
      unfold overdubref01_Put.l0
      repeat' first
      | (with_reducible exact ih0 _ _ _ _)
      | (with_reducible exact LeO.refl _)
      | (with_reducible exact LeO.none _)
      | (with_reducible refine LeO.ite ?_ ?_)
      | (with_reducible refine LeO.bind ?_ (fun _ => ?_))
      | exact ih0 _ _ _ _
      | exact LeO.none _
      | refine LeO.ite ?_ ?_
      | refine LeO.bind ?_ (fun _ => ?_)
theorem overdubref01_Put.mono : ∀ a0 a1 k, LeO (overdubref01_Put.f k a0 a1) (overdubref01_Put.f (k + 1) a0 a1) := by
  intro a0 a1 k
  have ih0 := overdubref01_Put.mono_l k
  unfold overdubref01_Put.f
  repeat' first
      | (with_reducible exact ih0 _ _ _ _)
      | (with_reducible exact LeO.refl _)
      | (with_reducible exact LeO.none _)
      | (with_reducible refine LeO.ite ?_ ?_)
      | (with_reducible refine LeO.bind ?_ (fun _ => ?_))
      | exact ih0 _ _ _ _
      | exact LeO.none _
      | refine LeO.ite ?_ ?_
      | refine LeO.bind ?_ (fun _ => ?_)
set_option maxHeartbeats 8000000 in
set_option maxRecDepth 100000 in
theorem overdubref01_Put.calls (k : Nat) (a0 : Int) (a1 : Int) (r : List Int) (w : World) (h : overdubref01_Put.f k a0 a1 = some r) :
    Calls Try.prog 17 #[.int .i64 a0, .int .i64 a1] w fun e w' => ∃ v0_ : Value, e = .returned (v0_) ∧ Kd.R (Kd.int .u8) 5 w' w.heap.size (fun _ => True) v0_ r ∧ Below w.heap.size w w' := by
  have HB := Aside0.mk (Below.refl w.heap.size w)
  have H : (if 0 ≤ (mn (mx a1 0) 8) then (if (mn (mx a1 0) 8 : Int).toNat ≤ 281474976710656 then ((some (List.replicate (mn (mx a1 0) 8 : Int).toNat 0 : List Int)).bind fun y173 => (overdubref01_Put.l0 k (mx a0 0) y173 (y173.length : Int) 0)) else (none)) else (none)) = some r := h
  clear h
  obtain ⟨ji3, hji3⟩ : ∃ j_ : Int, (mx a0 0) = j_ := ⟨_, rfl⟩
  replace H : (if 0 ≤ (mn (mx a1 0) 8) then (if (mn (mx a1 0) 8 : Int).toNat ≤ 281474976710656 then ((some (List.replicate (mn (mx a1 0) 8 : Int).toNat 0 : List Int)).bind fun y173 => (overdubref01_Put.l0 k ji3 y173 (y173.length : Int) 0)) else (none)) else (none)) = some r := by first | (rw [hji3] at H; exact H) | (simp only [hji3] at H ⊢; exact H)
  (try (have hji3l : 0 ≤ ji3 := by (rw [← hji3]; unfold mx; (repeat' split) <;> omega)))
  (try (have hji3m : 0 ≤ ji3 := by omega))
  have hji3_ : (if a0 < 0 then 0 else a0) = ji3 := hji3
  obtain ⟨ji4, hji4⟩ : ∃ j_ : Int, (mx a1 0) = j_ := ⟨_, rfl⟩
  replace H : (if 0 ≤ (mn (ji4) 8) then (if (mn (ji4) 8 : Int).toNat ≤ 281474976710656 then ((some (List.replicate (mn (ji4) 8 : Int).toNat 0 : List Int)).bind fun y173 => (overdubref01_Put.l0 k ji3 y173 (y173.length : Int) 0)) else (none)) else (none)) = some r := by first | (rw [hji4] at H; exact H) | (simp only [hji4] at H ⊢; exact H)
  (try (have hji4l : 0 ≤ ji4 := by (rw [← hji4]; unfold mx; (repeat' split) <;> omega)))
  (try (have hji4m : 0 ≤ ji4 := by omega))
  have hji4_ : (if a1 < 0 then 0 else a1) = ji4 := hji4
  obtain ⟨ji5, hji5⟩ : ∃ j_ : Int, (mn (ji4) 8) = j_ := ⟨_, rfl⟩
  replace H : (if 0 ≤ (ji5) then (if (ji5 : Int).toNat ≤ 281474976710656 then ((some (List.replicate (ji5 : Int).toNat 0 : List Int)).bind fun y173 => (overdubref01_Put.l0 k ji3 y173 (y173.length : Int) 0)) else (none)) else (none)) = some r := by first | (rw [hji5] at H; exact H) | (simp only [hji5] at H ⊢; exact H)
  have hji5_ : (if 8 < (ji4) then 8 else (ji4)) = ji5 := hji5
  by_cases c6 : 0 ≤ (ji5)
  · rw [if_pos c6] at H
    have c6b0 := eq_true c6
    have c6b1 : decide (0 ≤ (ji5)) = true := decide_eq_true c6
    clear c6
    by_cases c7 : (ji5 : Int).toNat ≤ 281474976710656
    · rw [if_pos c7] at H
      have c7b0 := eq_true c7
      have c7b1 : decide ((ji5 : Int).toNat ≤ 281474976710656) = true := decide_eq_true c7
      clear c7
      obtain ⟨y173, hy173⟩ : ∃ y_ : List Int, y_ = (List.replicate (ji5 : Int).toNat 0) := ⟨_, rfl⟩
      replace H : (overdubref01_Put.l0 k ji3 y173 (y173.length : Int) 0) = some r := by first | (rw [hy173]; with_reducible exact H) | (have H2_ := (Option.bind_some _ _).symm.trans H; rw [hy173]; with_reducible exact H2_) | (have H2_ := (Option.bind_some _ _).symm.trans H; with_reducible exact H2_) | with_reducible exact H | (rw [hy173]; exact H) | exact H
      have Ny173 := Aside0.mk hy173
      clear hy173
      have H' := Aside0.mk H
      clear H
      go_enter Try.func17, Try.ntmps17
      go_wp2_with (first | ((with_reducible refine gate_dst (N := 13) rfl ?_); refine Kd.R_make (Kd.int .u8) _ 5 rfl (N := 13) rfl 24 _ _ rfl ji5 rfl rfl Try.underlying24 (.int .u8 0) 1 info5 rfl (by decide) (by omega) 0 (ok := fun _ => True) (okp := fun _ => True) rfl (fun _ hk => hk) trivial (of_decide_eq_true (by first | (with_reducible assumption) | assumption)) (Nat.le_trans (Nat.mul_le_mul_right _ (of_decide_eq_true (by first | (with_reducible assumption) | assumption) : ji5.toNat ≤ 281474976710656)) (by omega)) (Below.refl _ _) (Nat.le_refl _) ?_; intro v174 w8 ho9 hb hg_ hnew_; clear hg_ hnew_; (first | rw [← Ny173.out] at ho9 | (simp only [Int.reduceToNat] at ho9; rw [← Ny173.out] at ho9)); have n0_ := Aside0.mk (Kd.R_lower ho9 (below_size (by repeat (first | (with_reducible first | exact HB.out | apply below_alloc | apply pw_below_drewN | apply below_drew1) | exact HB.out)))); have n1_ := Aside0.mk (below_step (by repeat (first | (with_reducible first | exact HB.out | apply below_alloc | apply pw_below_drewN | apply below_drew1) | exact HB.out)) hb); clear HB; have HO175 := n0_; have HB := n1_; clear n0_ n1_; clear hb ho9; obtain ⟨Ao10, co10, eo10⟩ := Kd.R_slice HO175.out; subst eo10))
      go_loopg [0, 16] k (fun kq v0 v16 w' => ∃ (x0_1 : Int) (x5_1 : List Int) (x16_1 : Int), v0 = .int .i64 x0_1 ∧ v16 = .int .i64 x16_1 ∧ Aside0 (overdubref01_Put.l0 kq x0_1 x5_1 (y173.length : Int) x16_1 = some r) ∧ Aside0 (kq ≤ k) ∧ Aside0 (Kd.R (Kd.int .u8) 5 w' w.heap.size (fun _ => True) (.slice Ao10 y173.length co10) x5_1) ∧ Aside0 (Below w.heap.size w w'))
      case atStart => exact ⟨(ji3), (y173), (0), (by first | rfl | (simp; done) | (simp only [← hji3] <;> (first | rfl | simp)) | (simp [*]; done)), (by first | rfl | (simp; done) | (simp [*]; done)), H', ⟨Nat.le_refl _⟩, ⟨by (with_reducible repeat (first | apply Kd.R_alloc | apply Kd.R_drewN | apply Kd.R_drew)); exact HO175.out⟩, ⟨by repeat (first | (with_reducible first | exact HB.out | apply below_alloc | apply pw_below_drewN | apply below_drew1) | exact HB.out)⟩⟩
      case round =>
        clear H'
        try clear c1
        try clear p2
        try clear c6
        try clear c6b0
        try clear c6b1
        try clear c7
        try clear c7b0
        try clear c7b1
        obtain ⟨x0_1, x5_1, x16_1, rfl, rfl, HA, HK1, HO_5, HB⟩ := hrel
        have hl5_1 := (Kd.R_reads' HO_5.out).1
        rw [hl5_1] at HO_5
        (try simp only [hl5_1])
        cases gk with
        | zero => exact absurd HA.out (by simp [overdubref01_Put.l0])
        | succ k1 =>
          have H := HA.out
          clear HA
          simp only [overdubref01_Put.l0] at H
          by_cases c11 : x16_1 < (y173.length : Int)
          · rw [if_pos c11] at H
            have c11b0 : decide (x16_1 < (y173.length : Int)) = true := decide_eq_true c11
            (try (have c11z0_0 := c11b0; simp only [hl5_1] at c11z0_0))
            clear c11
            by_cases c12 : 0 ≤ x16_1
            · rw [if_pos c12] at H
              have c12b0 : decide (0 ≤ x16_1) = true := decide_eq_true c12
              clear c12
              by_cases c13 : x16_1 < (x5_1.length : Int)
              · rw [if_pos c13] at H
                have c13b0 : decide (x16_1 < (x5_1.length : Int)) = true := decide_eq_true c13
                (try (have c13z0_0 := c13b0; simp only [hl5_1] at c13z0_0))
                clear c13
                obtain ⟨y176, hy176⟩ : ∃ y_ : List Int, y_ = (x5_1.set (x16_1 : Int).toNat ((Int.tmod x0_1 256) % 256)) := ⟨_, rfl⟩
                replace H : (overdubref01_Put.l0 k1 (wrap64 (Int.tdiv x0_1 256)) y176 (y173.length : Int) (wrap64 (x16_1 + 1))) = some r := by first | (rw [hy176]; with_reducible exact H) | (have H2_ := (Option.bind_some _ _).symm.trans H; rw [hy176]; with_reducible exact H2_) | (have H2_ := (Option.bind_some _ _).symm.trans H; with_reducible exact H2_) | with_reducible exact H | (rw [hy176]; exact H) | exact H
                have Ny176 := Aside0.mk hy176
                clear hy176
                have H' := Aside0.mk H
                clear H
                have p14 : 0 ≤ (x16_1 : Int) := of_decide_eq_true (by first | (with_reducible assumption) | assumption)
                have q14 : (x16_1 : Int) < ((x5_1.length : Int) : Int) := of_decide_eq_true (by first | (with_reducible assumption) | assumption)
                obtain ⟨go14, co14, eo14, gb14, gl14, cl14, HG14⟩ := Kd.R_form HO_5.out (by omega)
                (first | cases eo14 | (injection eo14 with ea_ en_ ec_; (first | subst ea_ | (injection ea_ with ea_; subst ea_)); subst ec_; clear en_))
                have GB14 := Aside0.mk gb14
                have GG14 := Aside0.mk HG14
                clear gb14 gl14 HG14
                obtain ⟨hx14_0, hf14_0⟩ := Kd.R_celln 0 HO_5.out (x16_1 : Int) p14 q14
                replace p14 := eq_true p14
                replace q14 := eq_true q14
                have HP15 := Kd.R_putg HO_5.out (x16_1 : Int) ((Int.tmod x0_1 256) % 256)
                go_wp2_with (first | ((with_reducible refine gate_store (t := 5) (p := 24) rfl ?_); refine store_event (t := 5) (p := 24) (v := ?vo_w16) (w1 := (wr.setCell ⟨go14, (x16_1 : Int).toNat, none⟩ (.int .u8 ((Int.tmod x0_1 256) % 256)))) ?hg ?ho ?hn ?hr ?_; (case ho => rfl); (case hg => rfl); (case hn => rfl); (case hr => first | (go_simp; done) | (go_simp; rfl)); intro w16 hw; have hg : wr.grownBy w16 (some go14) := (by rw [hw]; exact HP15.2); have hp_ : Kd.R (Kd.int .u8) 5 w16 w.heap.size (fun _ => True) (.slice (some ⟨go14, 0, none⟩) x5_1.length co10) y176 := (by rw [hw, Ny176.out]; exact HP15.1); clear HP15; have n0_ := Aside0.mk (hp_); have n1_ := Aside0.mk ((by rw [hw]; exact below_set (HB.out) GB14.out : Below w.heap.size w w16)); clear HO_5; clear HB; have HO_5 := n0_; have HB := n1_; clear n0_ n1_; clear hg hw hp_))
                (try simp only [← hl5_1])
                go_roundg k1
                case measure => have := HK1.out; omega
                case rel => exact ⟨(wrap64 (Int.tdiv x0_1 256)), (y176), (wrap64 (x16_1 + 1)), (by first | rfl | (simp; done) | (simp [*]; done)), (by first | rfl | (simp; done) | (simp [*]; done)), H', ⟨by have := HK1.out; omega⟩, ⟨by (try simp only [hl5_1]); (with_reducible repeat (first | apply Kd.R_alloc | apply Kd.R_drewN | apply Kd.R_drew)); exact HO_5.out⟩, ⟨by repeat (first | (with_reducible first | exact HB.out | apply below_alloc | apply pw_below_drewN | apply below_drew1) | exact HB.out)⟩⟩
              · rw [if_neg c13] at H
                exact absurd H (by simp)
            · rw [if_neg c12] at H
              exact absurd H (by simp)
          · rw [if_neg c11] at H
            have c11b0 : decide (x16_1 < (y173.length : Int)) = false := decide_eq_false c11
            (try (have c11z0_0 := c11b0; simp only [hl5_1] at c11z0_0))
            clear c11
            obtain rfl := Option.some.inj H
            go_wp2
            go_ret
            exact ⟨_, by first | rfl | (simp [errW_none, errW_some] <;> rfl) | (simp only [← hji3, ← hji4, ← hji5]; first | rfl | (simp [errW_none, errW_some] <;> rfl)) | (simp [*, errW_none, errW_some] <;> rfl), by (with_reducible repeat (first | apply Kd.R_alloc | apply Kd.R_drewN | apply Kd.R_drew)); exact HO_5.out, by repeat (first | (with_reducible first | exact HB.out | apply below_alloc | apply pw_below_drewN | apply below_drew1) | exact HB.out)⟩
    · rw [if_neg c7] at H
      exact absurd H (by simp)
  · rw [if_neg c6] at H
    exact absurd H (by simp)

end Go.Proofs.Ytgijagbneapcfaa.QA
