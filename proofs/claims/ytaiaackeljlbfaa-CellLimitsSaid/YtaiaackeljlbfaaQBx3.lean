-- written by the session's turned print (NOTES.md, 'The tool')
import Derived.Test.YtaiaackeljlbfaaQBx0
import Derived.Test.YtaiaackeljlbfaaQBx2
namespace Go.Proofs.Ytaiaackeljlbfaa.QB
open Go.RowKit Go.Proofs.YtaiaackeljlbfaaW.PrintWords Go.Proofs.YtaiaackeljlbfaaW.PrintLast Go.Proofs.YtaiaackeljlbfaaW.PrintMore Go.Proofs.Ytaiaackeljlbfaa.QC
attribute [local go_sem] max2_int min2_int max_two min_two max_three min_three max_four min_four   -- for this text's walks alone
set_option linter.unusedVariables false
set_option linter.unusedSimpArgs false

/-! ### cells_Pack: function 21 -/
def cells_Pack.j0 : Nat → Bool → Int → Int → Int → Int → List Int → Option (List Int × Bool)
  | 0, _, _, _, _, _, _ => none
  | k + 1, x49, x157000, x157001, x157002, x157003, x157004 => if x49 = true then (some (([] : List Int), false)) else ((field_Put.f k x157000 4).bind fun t157 => ((field_Put.f k x157001 4).bind fun t160 => ((field_Put.f k x157002 1).bind fun t163 => ((field_Put.f k x157003 1).bind fun t166 => ((field_Put.f k (x157004.length : Int) 1).bind fun t169 => ((field_Join.f k (([t157, t160, t163, t166, t169, (([206] : List Int)), x157004] : List (List Int)))).bind fun t178 => ((sealed_Seal.f t178).bind fun t181 => (some (t181, true)))))))))
def cells_Pack.f (k : Nat) (a0_0 : Int) (a0_1 : Int) (a0_2 : Int) (a0_3 : Int) (l0_4 : List Int) : Option (List Int × Bool) := if a0_0 < 1 then (cells_Pack.j0 k true a0_0 a0_1 a0_2 a0_3 l0_4) else (if a0_0 ≥ 2147483648 then (cells_Pack.j0 k true a0_0 a0_1 a0_2 a0_3 l0_4) else (if a0_1 < 1 then (cells_Pack.j0 k true a0_0 a0_1 a0_2 a0_3 l0_4) else (if a0_1 ≥ 2147483648 then (cells_Pack.j0 k true a0_0 a0_1 a0_2 a0_3 l0_4) else (if a0_3 < 1 then (cells_Pack.j0 k true a0_0 a0_1 a0_2 a0_3 l0_4) else (if a0_3 > 64 then (cells_Pack.j0 k true a0_0 a0_1 a0_2 a0_3 l0_4) else (if a0_2 < 0 then (cells_Pack.j0 k true a0_0 a0_1 a0_2 a0_3 l0_4) else (if a0_2 ≥ a0_3 then (cells_Pack.j0 k true a0_0 a0_1 a0_2 a0_3 l0_4) else (cells_Pack.j0 k (decide ((l0_4.length : Int) > 112)) a0_0 a0_1 a0_2 a0_3 l0_4))))))))
theorem cells_Pack.mono_l : ∀ k, (∀ y0 y1 y2 y3 y4 y5, LeO (cells_Pack.j0 k y0 y1 y2 y3 y4 y5) (cells_Pack.j0 (k + 1) y0 y1 y2 y3 y4 y5))
  | 0 => fun _ _ _ _ _ _ r h => by simp [cells_Pack.j0] at h
  | k + 1 => by
    have ih0 := cells_Pack.mono_l k
    · intro y0 y1 y2 y3 y4 y5
      unfold cells_Pack.j0
      repeat' first
      | (with_reducible exact ih0 _ _ _ _ _ _)
      | (with_reducible exact field_Join.mono _ _)
      | (with_reducible exact field_Put.mono _ _ _)
      | (with_reducible exact LeO.refl _)
      | (with_reducible exact LeO.none _)
      | (with_reducible refine LeO.ite ?_ ?_)
      | (with_reducible refine LeO.bind ?_ (fun _ => ?_))
      | exact ih0 _ _ _ _ _ _
      | exact field_Join.mono _ _
      | exact field_Put.mono _ _ _
      | exact LeO.none _
      | refine LeO.ite ?_ ?_
      | refine LeO.bind ?_ (fun _ => ?_)
theorem cells_Pack.mono : ∀ a0 a1 a2 a3 a4 k, LeO (cells_Pack.f k a0 a1 a2 a3 a4) (cells_Pack.f (k + 1) a0 a1 a2 a3 a4) := by
  intro a0 a1 a2 a3 a4 k
  have ih0 := cells_Pack.mono_l k
  unfold cells_Pack.f
  repeat' first
      | (with_reducible exact ih0 _ _ _ _ _ _)
      | (with_reducible exact field_Join.mono _ _)
      | (with_reducible exact field_Put.mono _ _ _)
      | (with_reducible exact LeO.refl _)
      | (with_reducible exact LeO.none _)
      | (with_reducible refine LeO.ite ?_ ?_)
      | (with_reducible refine LeO.bind ?_ (fun _ => ?_))
      | exact ih0 _ _ _ _ _ _
      | exact field_Join.mono _ _
      | exact field_Put.mono _ _ _
      | exact LeO.none _
      | refine LeO.ite ?_ ?_
      | refine LeO.bind ?_ (fun _ => ?_)
def cells_Pack.T3 : Bool × List (List Nat × List Nat) := (true, [([], []), ([0], [0]), ([1], [1]), ([], []), ([3], [3]), ([4, 2], [4]), ([], []), ([6], [6]), ([7, 5], [7]), ([], []), ([9], [9]), ([10, 8], [10]), ([], []), ([12], [12]), ([13], [13]), ([14, 11], [14]), ([], []), ([], []), ([17], [17]), ([2, 5, 8, 11, 15, 16, 18], [2, 5, 8, 11, 15, 16, 18]), ([19, 15], [19]), ([20, 20], [20]), ([21, 21, 0, 1, 2, 3, 4, 5, 6, 7, 8, 9, 10, 11, 12, 13, 14, 15, 16, 17, 18, 19, 20, 21], [21]), ([22, 0, 1, 2, 3, 4, 5, 6, 7, 8, 9, 10, 11, 12, 13, 14, 15, 16, 17, 18, 19, 20, 21, 22], [])])
def cells_Pack.B3 : List Nat := [0, 1, 3, 0, 8, 31, 0, 64, 255, 0, 512, 2047, 0, 4096, 12288, 32767, 0, 0, 131072, 524287, 1048575, 2097151, 4194303, 8388607]
theorem cells_Pack.tab3 : rtab .any (opsOf Try.f21 3) = cells_Pack.T3 := by kernel_rfl
theorem cells_Pack.bits3 : waitsOk cells_Pack.T3.2 cells_Pack.B3 = true := by kernel_rfl
set_option maxHeartbeats 8000000 in
set_option maxRecDepth 100000 in
theorem cells_Pack.calls (k : Nat) (a0_0 : Int) (a0_1 : Int) (a0_2 : Int) (a0_3 : Int) (P0_4_ : Nat → Prop) (A0_4 : Option Addr) (c0_4 : Nat) (l0_4 : List Int) (r1 : List Int) (r2 : Bool) (w : World) (hs0_4 : Kd.V (Kd.int .u8) 5 w w.heap.size (fun k_ => P0_4_ k_) (.slice A0_4 l0_4.length c0_4) l0_4) (h : cells_Pack.f k a0_0 a0_1 a0_2 a0_3 l0_4 = some (r1, r2)) :
    Calls Try.prog 21 #[.agg #[.int .i64 a0_0, .int .i64 a0_1, .int .i64 a0_2, .int .i64 a0_3, .slice A0_4 l0_4.length c0_4]] w fun e w' => ∃ v0_ : Value, e = .returned (.tuple #[v0_, .bool r2]) ∧ Kd.R (Kd.int .u8) 5 w' w.heap.size (fun k_ => (w.heap.size ≤ k_)) v0_ r1 ∧ Below w.heap.size w w' := by
  have hu29 := Try.underlying29
  have HO0_4 := am_ (show Kd.V (Kd.int .u8) 5 w w.heap.size (fun k_ => (P0_4_ k_ ∨ w.heap.size ≤ k_)) (.slice A0_4 l0_4.length c0_4) l0_4 from Kd.V_mono hs0_4 (fun k_ hk => .inl hk))
  have HB := am_ (Below.refl w.heap.size w)
  have H : (if a0_0 < 1 then (cells_Pack.j0 k true a0_0 a0_1 a0_2 a0_3 l0_4) else (if a0_0 ≥ 2147483648 then (cells_Pack.j0 k true a0_0 a0_1 a0_2 a0_3 l0_4) else (if a0_1 < 1 then (cells_Pack.j0 k true a0_0 a0_1 a0_2 a0_3 l0_4) else (if a0_1 ≥ 2147483648 then (cells_Pack.j0 k true a0_0 a0_1 a0_2 a0_3 l0_4) else (if a0_3 < 1 then (cells_Pack.j0 k true a0_0 a0_1 a0_2 a0_3 l0_4) else (if a0_3 > 64 then (cells_Pack.j0 k true a0_0 a0_1 a0_2 a0_3 l0_4) else (if a0_2 < 0 then (cells_Pack.j0 k true a0_0 a0_1 a0_2 a0_3 l0_4) else (if a0_2 ≥ a0_3 then (cells_Pack.j0 k true a0_0 a0_1 a0_2 a0_3 l0_4) else (cells_Pack.j0 k (decide ((l0_4.length : Int) > 112)) a0_0 a0_1 a0_2 a0_3 l0_4))))))))) = some (r1, r2) := h
  clear h
  have HC2 := am_ H
  clear H
  go_enter Try.func21, Try.ntmps21
  go_upto_region 1 with (first | ((with_reducible refine gate_dst (N := 1) rfl ?_); (try (refine gate_guard (by rfl) ?_; dsimp only)); refine box_event ?hg (N := 1) ?hd (cs := #[.int .i64 a0_0, .int .i64 a0_1, .int .i64 a0_2, .int .i64 a0_3, .slice A0_4 l0_4.length c0_4]) (t := 29) ?hr ?_; (case hd => rfl); (case hg => rfl); (case hr => first | (go_simp; done) | (go_simp; rfl)); intro gb156 hg w3 hbox hb; have n0_ := am_ (Kd.V_below (Kd.V_elderB (by (with_reducible repeat (first | apply va_ | apply vn_ | apply vd_)); exact HO0_4.out) gb156 (Nat.le_of_eq hg.symm)) hb); have n1_ := am_ (bt_ (by repeat (first | (with_reducible first | exact HB.out | apply ba_ | apply bn_ | apply bd_) | exact HB.out)) hb); have n2_ := am_ (hbox); have n3_ := am_ ((by rw [hg]; exact (bz_ (by repeat (first | (with_reducible first | exact HB.out | apply ba_ | apply bn_ | apply bd_) | exact HB.out))) : w.heap.size ≤ gb156)); have n4_ := am_ ((by rw [hg]; exact (bz_ (by repeat (first | (with_reducible first | exact HB.out | apply ba_ | apply bn_ | apply bd_) | exact HB.out))) : w.heap.size ≤ gb156)); clear HO0_4; clear HB; have HO0_4 := n0_; have HB := n1_; have BK156 := n2_; have GW156 := n3_; have GE156 := n4_; clear n0_ n1_ n2_ n3_ n4_; clear hb hbox hg))
  (try simp only [Act.put, List.setIfInBounds_toArray, List.set_cons_zero, List.set_cons_succ])
  go_cut [49] (fun v49 wc => ∃ (kq : Nat) (x49_1 : Bool), v49 = .bool x49_1 ∧ Aside0 (cells_Pack.j0 kq x49_1 a0_0 a0_1 a0_2 a0_3 l0_4 = some (r1, r2)) ∧ Aside0 (kq ≤ k) ∧ Aside0 (Kd.V (Kd.int .u8) 5 wc w.heap.size (fun k_ => (P0_4_ k_ ∨ w.heap.size ≤ k_) ∧ k_ ≠ gb156) (.slice A0_4 l0_4.length c0_4) l0_4) ∧ Aside0 (wc.heap[gb156]? = some (.cells #[.int .i64 a0_0, .int .i64 a0_1, .int .i64 a0_2, .int .i64 a0_3, (.slice A0_4 l0_4.length c0_4)] 29 (0, 0))) ∧ Aside0 (Below w.heap.size w wc))
  case first =>
    have H := HC2.out
    clear HC2
    by_cases c4 : a0_0 < 1
    · rw [if_pos c4] at H
      have c4b0 : decide (a0_0 < 1) = true := decide_eq_true c4
      clear c4
      (first | rw [c4b0] | (simp only [i64_w, i32_w]; rw [c4b0]) | skip)
      have H' := am_ H
      clear H
      have hcz5_0 : w3.cell? ⟨gb156, 0, none⟩ = some (.int .i64 a0_0) := (blk_cell BK156.out 0).trans rfl
      have hcz5_1 : w3.cell? ⟨gb156, 1, none⟩ = some (.int .i64 a0_1) := (blk_cell BK156.out 1).trans rfl
      have hcz5_2 : w3.cell? ⟨gb156, 2, none⟩ = some (.int .i64 a0_2) := (blk_cell BK156.out 2).trans rfl
      have hcz5_3 : w3.cell? ⟨gb156, 3, none⟩ = some (.int .i64 a0_3) := (blk_cell BK156.out 3).trans rfl
      have hcz5_4 : w3.cell? ⟨gb156, 4, none⟩ = some (.slice A0_4 l0_4.length c0_4) := (blk_cell BK156.out 4).trans rfl
      have hfz5_0 := blk_frozen BK156.out 0
      have hfz5_1 := blk_frozen BK156.out 1
      have hfz5_2 := blk_frozen BK156.out 2
      have hfz5_3 := blk_frozen BK156.out 3
      have hfz5_4 := blk_frozen BK156.out 4
      go_wp2
      go_meet
      case rel => exact ⟨_, (true), (by first | rfl | (simp; done) | (simp [*]; done)), H', ⟨by first | omega | exact Nat.le_refl _⟩, ⟨by (with_reducible repeat (first | apply va_ | apply vn_ | apply vd_)); exact HO0_4.out⟩, ⟨by (with_reducible repeat (first | refine kn_ ?_ _ | refine kd_ ?_ | refine ka_ ?_ _)); exact BK156.out⟩, ⟨by repeat (first | (with_reducible first | exact HB.out | apply ba_ | apply bn_ | apply bd_ | refine be_ ?_ GE156.out) | exact HB.out)⟩⟩
    · rw [if_neg c4] at H
      have c4b0 : decide (a0_0 < 1) = false := decide_eq_false c4
      clear c4
      (first | rw [c4b0] | (simp only [i64_w, i32_w]; rw [c4b0]) | skip)
      by_cases c6 : a0_0 ≥ 2147483648
      · rw [if_pos c6] at H
        have c6b0 : decide (2147483648 ≤ a0_0) = true := decide_eq_true c6
        clear c6
        have H' := am_ H
        clear H
        have hcz7_0 : w3.cell? ⟨gb156, 0, none⟩ = some (.int .i64 a0_0) := (blk_cell BK156.out 0).trans rfl
        have hcz7_1 : w3.cell? ⟨gb156, 1, none⟩ = some (.int .i64 a0_1) := (blk_cell BK156.out 1).trans rfl
        have hcz7_2 : w3.cell? ⟨gb156, 2, none⟩ = some (.int .i64 a0_2) := (blk_cell BK156.out 2).trans rfl
        have hcz7_3 : w3.cell? ⟨gb156, 3, none⟩ = some (.int .i64 a0_3) := (blk_cell BK156.out 3).trans rfl
        have hcz7_4 : w3.cell? ⟨gb156, 4, none⟩ = some (.slice A0_4 l0_4.length c0_4) := (blk_cell BK156.out 4).trans rfl
        have hfz7_0 := blk_frozen BK156.out 0
        have hfz7_1 := blk_frozen BK156.out 1
        have hfz7_2 := blk_frozen BK156.out 2
        have hfz7_3 := blk_frozen BK156.out 3
        have hfz7_4 := blk_frozen BK156.out 4
        go_wp2
        go_meet
        case rel => exact ⟨_, (true), (by first | rfl | (simp; done) | (simp [*]; done)), H', ⟨by first | omega | exact Nat.le_refl _⟩, ⟨by (with_reducible repeat (first | apply va_ | apply vn_ | apply vd_)); exact HO0_4.out⟩, ⟨by (with_reducible repeat (first | refine kn_ ?_ _ | refine kd_ ?_ | refine ka_ ?_ _)); exact BK156.out⟩, ⟨by repeat (first | (with_reducible first | exact HB.out | apply ba_ | apply bn_ | apply bd_ | refine be_ ?_ GE156.out) | exact HB.out)⟩⟩
      · rw [if_neg c6] at H
        have c6b0 : decide (2147483648 ≤ a0_0) = false := decide_eq_false c6
        clear c6
        by_cases c8 : a0_1 < 1
        · rw [if_pos c8] at H
          have c8b0 : decide (a0_1 < 1) = true := decide_eq_true c8
          clear c8
          have H' := am_ H
          clear H
          have hcz9_0 : w3.cell? ⟨gb156, 0, none⟩ = some (.int .i64 a0_0) := (blk_cell BK156.out 0).trans rfl
          have hcz9_1 : w3.cell? ⟨gb156, 1, none⟩ = some (.int .i64 a0_1) := (blk_cell BK156.out 1).trans rfl
          have hcz9_2 : w3.cell? ⟨gb156, 2, none⟩ = some (.int .i64 a0_2) := (blk_cell BK156.out 2).trans rfl
          have hcz9_3 : w3.cell? ⟨gb156, 3, none⟩ = some (.int .i64 a0_3) := (blk_cell BK156.out 3).trans rfl
          have hcz9_4 : w3.cell? ⟨gb156, 4, none⟩ = some (.slice A0_4 l0_4.length c0_4) := (blk_cell BK156.out 4).trans rfl
          have hfz9_0 := blk_frozen BK156.out 0
          have hfz9_1 := blk_frozen BK156.out 1
          have hfz9_2 := blk_frozen BK156.out 2
          have hfz9_3 := blk_frozen BK156.out 3
          have hfz9_4 := blk_frozen BK156.out 4
          go_wp2
          go_meet
          case rel => exact ⟨_, (true), (by first | rfl | (simp; done) | (simp [*]; done)), H', ⟨by first | omega | exact Nat.le_refl _⟩, ⟨by (with_reducible repeat (first | apply va_ | apply vn_ | apply vd_)); exact HO0_4.out⟩, ⟨by (with_reducible repeat (first | refine kn_ ?_ _ | refine kd_ ?_ | refine ka_ ?_ _)); exact BK156.out⟩, ⟨by repeat (first | (with_reducible first | exact HB.out | apply ba_ | apply bn_ | apply bd_ | refine be_ ?_ GE156.out) | exact HB.out)⟩⟩
        · rw [if_neg c8] at H
          have c8b0 : decide (a0_1 < 1) = false := decide_eq_false c8
          clear c8
          by_cases c10 : a0_1 ≥ 2147483648
          · rw [if_pos c10] at H
            have c10b0 : decide (2147483648 ≤ a0_1) = true := decide_eq_true c10
            clear c10
            have H' := am_ H
            clear H
            have hcz11_0 : w3.cell? ⟨gb156, 0, none⟩ = some (.int .i64 a0_0) := (blk_cell BK156.out 0).trans rfl
            have hcz11_1 : w3.cell? ⟨gb156, 1, none⟩ = some (.int .i64 a0_1) := (blk_cell BK156.out 1).trans rfl
            have hcz11_2 : w3.cell? ⟨gb156, 2, none⟩ = some (.int .i64 a0_2) := (blk_cell BK156.out 2).trans rfl
            have hcz11_3 : w3.cell? ⟨gb156, 3, none⟩ = some (.int .i64 a0_3) := (blk_cell BK156.out 3).trans rfl
            have hcz11_4 : w3.cell? ⟨gb156, 4, none⟩ = some (.slice A0_4 l0_4.length c0_4) := (blk_cell BK156.out 4).trans rfl
            have hfz11_0 := blk_frozen BK156.out 0
            have hfz11_1 := blk_frozen BK156.out 1
            have hfz11_2 := blk_frozen BK156.out 2
            have hfz11_3 := blk_frozen BK156.out 3
            have hfz11_4 := blk_frozen BK156.out 4
            go_wp2
            go_meet
            case rel => exact ⟨_, (true), (by first | rfl | (simp; done) | (simp [*]; done)), H', ⟨by first | omega | exact Nat.le_refl _⟩, ⟨by (with_reducible repeat (first | apply va_ | apply vn_ | apply vd_)); exact HO0_4.out⟩, ⟨by (with_reducible repeat (first | refine kn_ ?_ _ | refine kd_ ?_ | refine ka_ ?_ _)); exact BK156.out⟩, ⟨by repeat (first | (with_reducible first | exact HB.out | apply ba_ | apply bn_ | apply bd_ | refine be_ ?_ GE156.out) | exact HB.out)⟩⟩
          · rw [if_neg c10] at H
            have c10b0 : decide (2147483648 ≤ a0_1) = false := decide_eq_false c10
            clear c10
            by_cases c12 : a0_3 < 1
            · rw [if_pos c12] at H
              have c12b0 : decide (a0_3 < 1) = true := decide_eq_true c12
              clear c12
              have H' := am_ H
              clear H
              have hcz13_0 : w3.cell? ⟨gb156, 0, none⟩ = some (.int .i64 a0_0) := (blk_cell BK156.out 0).trans rfl
              have hcz13_1 : w3.cell? ⟨gb156, 1, none⟩ = some (.int .i64 a0_1) := (blk_cell BK156.out 1).trans rfl
              have hcz13_2 : w3.cell? ⟨gb156, 2, none⟩ = some (.int .i64 a0_2) := (blk_cell BK156.out 2).trans rfl
              have hcz13_3 : w3.cell? ⟨gb156, 3, none⟩ = some (.int .i64 a0_3) := (blk_cell BK156.out 3).trans rfl
              have hcz13_4 : w3.cell? ⟨gb156, 4, none⟩ = some (.slice A0_4 l0_4.length c0_4) := (blk_cell BK156.out 4).trans rfl
              have hfz13_0 := blk_frozen BK156.out 0
              have hfz13_1 := blk_frozen BK156.out 1
              have hfz13_2 := blk_frozen BK156.out 2
              have hfz13_3 := blk_frozen BK156.out 3
              have hfz13_4 := blk_frozen BK156.out 4
              go_wp2
              go_meet
              case rel => exact ⟨_, (true), (by first | rfl | (simp; done) | (simp [*]; done)), H', ⟨by first | omega | exact Nat.le_refl _⟩, ⟨by (with_reducible repeat (first | apply va_ | apply vn_ | apply vd_)); exact HO0_4.out⟩, ⟨by (with_reducible repeat (first | refine kn_ ?_ _ | refine kd_ ?_ | refine ka_ ?_ _)); exact BK156.out⟩, ⟨by repeat (first | (with_reducible first | exact HB.out | apply ba_ | apply bn_ | apply bd_ | refine be_ ?_ GE156.out) | exact HB.out)⟩⟩
            · rw [if_neg c12] at H
              have c12b0 : decide (a0_3 < 1) = false := decide_eq_false c12
              clear c12
              by_cases c14 : a0_3 > 64
              · rw [if_pos c14] at H
                have c14b0 : decide (64 < a0_3) = true := decide_eq_true c14
                clear c14
                have H' := am_ H
                clear H
                have hcz15_0 : w3.cell? ⟨gb156, 0, none⟩ = some (.int .i64 a0_0) := (blk_cell BK156.out 0).trans rfl
                have hcz15_1 : w3.cell? ⟨gb156, 1, none⟩ = some (.int .i64 a0_1) := (blk_cell BK156.out 1).trans rfl
                have hcz15_2 : w3.cell? ⟨gb156, 2, none⟩ = some (.int .i64 a0_2) := (blk_cell BK156.out 2).trans rfl
                have hcz15_3 : w3.cell? ⟨gb156, 3, none⟩ = some (.int .i64 a0_3) := (blk_cell BK156.out 3).trans rfl
                have hcz15_4 : w3.cell? ⟨gb156, 4, none⟩ = some (.slice A0_4 l0_4.length c0_4) := (blk_cell BK156.out 4).trans rfl
                have hfz15_0 := blk_frozen BK156.out 0
                have hfz15_1 := blk_frozen BK156.out 1
                have hfz15_2 := blk_frozen BK156.out 2
                have hfz15_3 := blk_frozen BK156.out 3
                have hfz15_4 := blk_frozen BK156.out 4
                go_wp2
                go_meet
                case rel => exact ⟨_, (true), (by first | rfl | (simp; done) | (simp [*]; done)), H', ⟨by first | omega | exact Nat.le_refl _⟩, ⟨by (with_reducible repeat (first | apply va_ | apply vn_ | apply vd_)); exact HO0_4.out⟩, ⟨by (with_reducible repeat (first | refine kn_ ?_ _ | refine kd_ ?_ | refine ka_ ?_ _)); exact BK156.out⟩, ⟨by repeat (first | (with_reducible first | exact HB.out | apply ba_ | apply bn_ | apply bd_ | refine be_ ?_ GE156.out) | exact HB.out)⟩⟩
              · rw [if_neg c14] at H
                have c14b0 : decide (64 < a0_3) = false := decide_eq_false c14
                clear c14
                by_cases c16 : a0_2 < 0
                · rw [if_pos c16] at H
                  have c16b0 : decide (a0_2 < 0) = true := decide_eq_true c16
                  clear c16
                  have H' := am_ H
                  clear H
                  have hcz17_0 : w3.cell? ⟨gb156, 0, none⟩ = some (.int .i64 a0_0) := (blk_cell BK156.out 0).trans rfl
                  have hcz17_1 : w3.cell? ⟨gb156, 1, none⟩ = some (.int .i64 a0_1) := (blk_cell BK156.out 1).trans rfl
                  have hcz17_2 : w3.cell? ⟨gb156, 2, none⟩ = some (.int .i64 a0_2) := (blk_cell BK156.out 2).trans rfl
                  have hcz17_3 : w3.cell? ⟨gb156, 3, none⟩ = some (.int .i64 a0_3) := (blk_cell BK156.out 3).trans rfl
                  have hcz17_4 : w3.cell? ⟨gb156, 4, none⟩ = some (.slice A0_4 l0_4.length c0_4) := (blk_cell BK156.out 4).trans rfl
                  have hfz17_0 := blk_frozen BK156.out 0
                  have hfz17_1 := blk_frozen BK156.out 1
                  have hfz17_2 := blk_frozen BK156.out 2
                  have hfz17_3 := blk_frozen BK156.out 3
                  have hfz17_4 := blk_frozen BK156.out 4
                  go_wp2
                  go_meet
                  case rel => exact ⟨_, (true), (by first | rfl | (simp; done) | (simp [*]; done)), H', ⟨by first | omega | exact Nat.le_refl _⟩, ⟨by (with_reducible repeat (first | apply va_ | apply vn_ | apply vd_)); exact HO0_4.out⟩, ⟨by (with_reducible repeat (first | refine kn_ ?_ _ | refine kd_ ?_ | refine ka_ ?_ _)); exact BK156.out⟩, ⟨by repeat (first | (with_reducible first | exact HB.out | apply ba_ | apply bn_ | apply bd_ | refine be_ ?_ GE156.out) | exact HB.out)⟩⟩
                · rw [if_neg c16] at H
                  have c16b0 : decide (a0_2 < 0) = false := decide_eq_false c16
                  clear c16
                  by_cases c18 : a0_2 ≥ a0_3
                  · rw [if_pos c18] at H
                    have c18b0 : decide (a0_3 ≤ a0_2) = true := decide_eq_true c18
                    clear c18
                    have H' := am_ H
                    clear H
                    have hcz19_0 : w3.cell? ⟨gb156, 0, none⟩ = some (.int .i64 a0_0) := (blk_cell BK156.out 0).trans rfl
                    have hcz19_1 : w3.cell? ⟨gb156, 1, none⟩ = some (.int .i64 a0_1) := (blk_cell BK156.out 1).trans rfl
                    have hcz19_2 : w3.cell? ⟨gb156, 2, none⟩ = some (.int .i64 a0_2) := (blk_cell BK156.out 2).trans rfl
                    have hcz19_3 : w3.cell? ⟨gb156, 3, none⟩ = some (.int .i64 a0_3) := (blk_cell BK156.out 3).trans rfl
                    have hcz19_4 : w3.cell? ⟨gb156, 4, none⟩ = some (.slice A0_4 l0_4.length c0_4) := (blk_cell BK156.out 4).trans rfl
                    have hfz19_0 := blk_frozen BK156.out 0
                    have hfz19_1 := blk_frozen BK156.out 1
                    have hfz19_2 := blk_frozen BK156.out 2
                    have hfz19_3 := blk_frozen BK156.out 3
                    have hfz19_4 := blk_frozen BK156.out 4
                    go_wp2
                    go_meet
                    case rel => exact ⟨_, (true), (by first | rfl | (simp; done) | (simp [*]; done)), H', ⟨by first | omega | exact Nat.le_refl _⟩, ⟨by (with_reducible repeat (first | apply va_ | apply vn_ | apply vd_)); exact HO0_4.out⟩, ⟨by (with_reducible repeat (first | refine kn_ ?_ _ | refine kd_ ?_ | refine ka_ ?_ _)); exact BK156.out⟩, ⟨by repeat (first | (with_reducible first | exact HB.out | apply ba_ | apply bn_ | apply bd_ | refine be_ ?_ GE156.out) | exact HB.out)⟩⟩
                  · rw [if_neg c18] at H
                    have c18b0 : decide (a0_3 ≤ a0_2) = false := decide_eq_false c18
                    clear c18
                    have H' := am_ H
                    clear H
                    have hcz20_0 : w3.cell? ⟨gb156, 0, none⟩ = some (.int .i64 a0_0) := (blk_cell BK156.out 0).trans rfl
                    have hcz20_1 : w3.cell? ⟨gb156, 1, none⟩ = some (.int .i64 a0_1) := (blk_cell BK156.out 1).trans rfl
                    have hcz20_2 : w3.cell? ⟨gb156, 2, none⟩ = some (.int .i64 a0_2) := (blk_cell BK156.out 2).trans rfl
                    have hcz20_3 : w3.cell? ⟨gb156, 3, none⟩ = some (.int .i64 a0_3) := (blk_cell BK156.out 3).trans rfl
                    have hcz20_4 : w3.cell? ⟨gb156, 4, none⟩ = some (.slice A0_4 l0_4.length c0_4) := (blk_cell BK156.out 4).trans rfl
                    have hfz20_0 := blk_frozen BK156.out 0
                    have hfz20_1 := blk_frozen BK156.out 1
                    have hfz20_2 := blk_frozen BK156.out 2
                    have hfz20_3 := blk_frozen BK156.out 3
                    have hfz20_4 := blk_frozen BK156.out 4
                    go_wp2
                    go_meet
                    case rel => exact ⟨_, (decide ((l0_4.length : Int) > 112)), (by first | rfl | (simp; done) | (simp [*]; done)), H', ⟨by first | omega | exact Nat.le_refl _⟩, ⟨by (with_reducible repeat (first | apply va_ | apply vn_ | apply vd_)); exact HO0_4.out⟩, ⟨by (with_reducible repeat (first | refine kn_ ?_ _ | refine kd_ ?_ | refine ka_ ?_ _)); exact BK156.out⟩, ⟨by repeat (first | (with_reducible first | exact HB.out | apply ba_ | apply bn_ | apply bd_ | refine be_ ?_ GE156.out) | exact HB.out)⟩⟩
  case rest =>
    clear HC2
    try clear c1
    try clear c2
    try clear p2
    try clear c4
    try clear c4b0
    try clear c6
    try clear c6b0
    try clear c8
    try clear c8b0
    try clear c10
    try clear c10b0
    try clear c12
    try clear c12b0
    try clear c14
    try clear c14b0
    try clear c16
    try clear c16b0
    try clear c18
    try clear c18b0
    try clear hcz11_0
    try clear hcz11_1
    try clear hcz11_2
    try clear hcz11_3
    try clear hcz11_4
    try clear hcz13_0
    try clear hcz13_1
    try clear hcz13_2
    try clear hcz13_3
    try clear hcz13_4
    try clear hcz15_0
    try clear hcz15_1
    try clear hcz15_2
    try clear hcz15_3
    try clear hcz15_4
    try clear hcz17_0
    try clear hcz17_1
    try clear hcz17_2
    try clear hcz17_3
    try clear hcz17_4
    try clear hcz19_0
    try clear hcz19_1
    try clear hcz19_2
    try clear hcz19_3
    try clear hcz19_4
    try clear hcz20_0
    try clear hcz20_1
    try clear hcz20_2
    try clear hcz20_3
    try clear hcz20_4
    try clear hcz5_0
    try clear hcz5_1
    try clear hcz5_2
    try clear hcz5_3
    try clear hcz5_4
    try clear hcz7_0
    try clear hcz7_1
    try clear hcz7_2
    try clear hcz7_3
    try clear hcz7_4
    try clear hcz9_0
    try clear hcz9_1
    try clear hcz9_2
    try clear hcz9_3
    try clear hcz9_4
    try clear hfz11_0
    try clear hfz11_1
    try clear hfz11_2
    try clear hfz11_3
    try clear hfz11_4
    try clear hfz13_0
    try clear hfz13_1
    try clear hfz13_2
    try clear hfz13_3
    try clear hfz13_4
    try clear hfz15_0
    try clear hfz15_1
    try clear hfz15_2
    try clear hfz15_3
    try clear hfz15_4
    try clear hfz17_0
    try clear hfz17_1
    try clear hfz17_2
    try clear hfz17_3
    try clear hfz17_4
    try clear hfz19_0
    try clear hfz19_1
    try clear hfz19_2
    try clear hfz19_3
    try clear hfz19_4
    try clear hfz20_0
    try clear hfz20_1
    try clear hfz20_2
    try clear hfz20_3
    try clear hfz20_4
    try clear hfz5_0
    try clear hfz5_1
    try clear hfz5_2
    try clear hfz5_3
    try clear hfz5_4
    try clear hfz7_0
    try clear hfz7_1
    try clear hfz7_2
    try clear hfz7_3
    try clear hfz7_4
    try clear hfz9_0
    try clear hfz9_1
    try clear hfz9_2
    try clear hfz9_3
    try clear hfz9_4
    obtain ⟨kq, x49_1, rfl, HA, HJ1, HO_157004, BK156, HB⟩ := hcut
    cases kq with
    | zero => exact absurd HA.out (by simp [cells_Pack.j0])
    | succ kj1 =>
      have H := HA.out
      clear HA
      simp only [cells_Pack.j0] at H
      by_cases c21 : x49_1 = true
      · subst c21
        have H1 : (some (([] : List Int), false)) = some (r1, r2) := by rw [if_pos rfl] at H; exact H
        clear H
        have H := H1
        clear H1
        simp only [Option.some.injEq, Prod.mk.injEq] at H
        obtain ⟨rfl, rfl⟩ := H
        go_wp2
        go_ret2
        exact ⟨_, by first | rfl | (simp [errW_none, errW_some] <;> rfl) | (simp [*, errW_none, errW_some] <;> rfl), by first | exact Kd.R_nil _ _ _ _ _ | exact Kd.N_nil _ _ _ _ _ | exact Kd.V_nil _ _ _ _ _ | exact Kd.Q_nil _ _ _ _ _ | exact Kd.S_nil _ _ _ _ _, by repeat (first | (with_reducible first | exact HB.out | apply ba_ | apply bn_ | apply bd_ | refine be_ ?_ GE156.out) | exact HB.out)⟩
      · replace c21 := Bool.eq_false_iff.mpr c21
        subst c21
        have H1 : ((field_Put.f kj1 a0_0 4).bind fun t157 => ((field_Put.f kj1 a0_1 4).bind fun t160 => ((field_Put.f kj1 a0_2 1).bind fun t163 => ((field_Put.f kj1 a0_3 1).bind fun t166 => ((field_Put.f kj1 (l0_4.length : Int) 1).bind fun t169 => ((field_Join.f kj1 (([t157, t160, t163, t166, t169, (([206] : List Int)), l0_4] : List (List Int)))).bind fun t178 => ((sealed_Seal.f t178).bind fun t181 => (some (t181, true))))))))) = some (r1, r2) := by rw [if_neg (show ¬ (false = true) by decide)] at H; exact H
        clear H
        have H := H1
        clear H1
        replace H := Option.bind_eq_some_iff.mp H
        obtain ⟨t157, A220, H⟩ := H
        replace H : ((field_Put.f kj1 a0_1 4).bind fun t160 => ((field_Put.f kj1 a0_2 1).bind fun t163 => ((field_Put.f kj1 a0_3 1).bind fun t166 => ((field_Put.f kj1 (l0_4.length : Int) 1).bind fun t169 => ((field_Join.f kj1 (([t157, t160, t163, t166, t169, (([206] : List Int)), l0_4] : List (List Int)))).bind fun t178 => ((sealed_Seal.f t178).bind fun t181 => (some (t181, true)))))))) = some (r1, r2) := H
        have A22 := am_ A220
        clear A220
        replace H := Option.bind_eq_some_iff.mp H
        obtain ⟨t160, A230, H⟩ := H
        replace H : ((field_Put.f kj1 a0_2 1).bind fun t163 => ((field_Put.f kj1 a0_3 1).bind fun t166 => ((field_Put.f kj1 (l0_4.length : Int) 1).bind fun t169 => ((field_Join.f kj1 (([t157, t160, t163, t166, t169, (([206] : List Int)), l0_4] : List (List Int)))).bind fun t178 => ((sealed_Seal.f t178).bind fun t181 => (some (t181, true))))))) = some (r1, r2) := H
        have A23 := am_ A230
        clear A230
        replace H := Option.bind_eq_some_iff.mp H
        obtain ⟨t163, A240, H⟩ := H
        replace H : ((field_Put.f kj1 a0_3 1).bind fun t166 => ((field_Put.f kj1 (l0_4.length : Int) 1).bind fun t169 => ((field_Join.f kj1 (([t157, t160, t163, t166, t169, (([206] : List Int)), l0_4] : List (List Int)))).bind fun t178 => ((sealed_Seal.f t178).bind fun t181 => (some (t181, true)))))) = some (r1, r2) := H
        have A24 := am_ A240
        clear A240
        replace H := Option.bind_eq_some_iff.mp H
        obtain ⟨t166, A250, H⟩ := H
        replace H : ((field_Put.f kj1 (l0_4.length : Int) 1).bind fun t169 => ((field_Join.f kj1 (([t157, t160, t163, t166, t169, (([206] : List Int)), l0_4] : List (List Int)))).bind fun t178 => ((sealed_Seal.f t178).bind fun t181 => (some (t181, true))))) = some (r1, r2) := H
        have A25 := am_ A250
        clear A250
        replace H := Option.bind_eq_some_iff.mp H
        obtain ⟨t169, A260, H⟩ := H
        replace H : ((field_Join.f kj1 (([t157, t160, t163, t166, t169, (([206] : List Int)), l0_4] : List (List Int)))).bind fun t178 => ((sealed_Seal.f t178).bind fun t181 => (some (t181, true)))) = some (r1, r2) := H
        have A26 := am_ A260
        clear A260
        obtain ⟨y172, hy172⟩ : ∃ y_ : List Int, y_ = (([206] : List Int)) := ⟨_, rfl⟩
        replace H : ((field_Join.f kj1 (([t157, t160, t163, t166, t169, y172, l0_4] : List (List Int)))).bind fun t178 => ((sealed_Seal.f t178).bind fun t181 => (some (t181, true)))) = some (r1, r2) := by first | (rw [hy172]; with_reducible exact H) | (have H2_ := (Option.bind_some _ _).symm.trans H; rw [hy172]; with_reducible exact H2_) | (have H2_ := (Option.bind_some _ _).symm.trans H; with_reducible exact H2_) | with_reducible exact H | (rw [hy172]; exact H) | exact H
        have Ny172 := am_ hy172
        clear hy172
        obtain ⟨y175, hy175⟩ : ∃ y_ : List (List Int), y_ = (([t157, t160, t163, t166, t169, y172, l0_4] : List (List Int))) := ⟨_, rfl⟩
        replace H : ((field_Join.f kj1 y175).bind fun t178 => ((sealed_Seal.f t178).bind fun t181 => (some (t181, true)))) = some (r1, r2) := by first | (rw [hy175]; with_reducible exact H) | (have H2_ := (Option.bind_some _ _).symm.trans H; rw [hy175]; with_reducible exact H2_) | (have H2_ := (Option.bind_some _ _).symm.trans H; with_reducible exact H2_) | with_reducible exact H | (rw [hy175]; exact H) | exact H
        have Ny175 := am_ hy175
        clear hy175
        replace H := Option.bind_eq_some_iff.mp H
        obtain ⟨t178, A270, H⟩ := H
        replace H : ((sealed_Seal.f t178).bind fun t181 => (some (t181, true))) = some (r1, r2) := H
        have A27 := am_ A270
        clear A270
        replace H := Option.bind_eq_some_iff.mp H
        obtain ⟨t181, A280, H⟩ := H
        replace H : (some (t181, true)) = some (r1, r2) := H
        have A28 := am_ A280
        clear A280
        simp only [Option.some.injEq, Prod.mk.injEq] at H
        obtain ⟨rfl, rfl⟩ := H
        try go_wp2
        have n0_ := am_ (vd_ HO_157004.out)
        have n1_ := am_ (kd_ BK156.out)
        have n2_ := am_ (bd_ HB.out)
        clear HO_157004
        clear BK156
        clear HB
        have HO_157004 := n0_
        have BK156 := n1_
        have HB := n2_
        clear n0_ n1_ n2_
        refine start_ (n := 24) (S := fun w' => True) (ds := []) #[false, false, false, false, false, false, false, false, false, false, false, false, false, false, false, false, false, false, false, false, false, false, false, false] (by kernel_rfl) rfl rfl trivial (fun hHeld => ?_); refine with_tabW cells_Pack.tab3 cells_Pack.bits3 (fun HT_ HW_ => ?_)
        generalize wc.drew = w29 at HO_157004 BK156 HB hHeld ⊢
        refine pure_ (i := 0) (N := some 50) (v := ?_) (a' := ?_) #[true, false, false, false, false, false, false, false, false, false, false, false, false, false, false, false, false, false, false, false, false, false, false, false] rfl rfl (any_of HT_.out (by kernel_rfl)) (fun _ _ _ h => h) (Or.inl ⟨by rfl, ?_⟩) ?_ ?_
        rotate_left
        · intro w'
          go_simp
          with_reducible rfl
        rotate_left
        · simp only [Act.put, List.setIfInBounds_toArray, List.set_cons_zero, List.set_cons_succ, i64_w, i32_w]
          rfl
        refine pure_ (i := 3) (N := some 53) (v := ?_) (a' := ?_) #[true, false, false, true, false, false, false, false, false, false, false, false, false, false, false, false, false, false, false, false, false, false, false, false] rfl rfl (any_of HT_.out (by kernel_rfl)) (fun _ _ _ h => h) (Or.inl ⟨by rfl, ?_⟩) ?_ ?_
        rotate_left
        · intro w'
          go_simp
          with_reducible rfl
        rotate_left
        · simp only [Act.put, List.setIfInBounds_toArray, List.set_cons_zero, List.set_cons_succ, i64_w, i32_w]
          rfl
        refine pure_ (i := 6) (N := some 56) (v := ?_) (a' := ?_) #[true, false, false, true, false, false, true, false, false, false, false, false, false, false, false, false, false, false, false, false, false, false, false, false] rfl rfl (any_of HT_.out (by kernel_rfl)) (fun _ _ _ h => h) (Or.inl ⟨by rfl, ?_⟩) ?_ ?_
        rotate_left
        · intro w'
          go_simp
          with_reducible rfl
        rotate_left
        · simp only [Act.put, List.setIfInBounds_toArray, List.set_cons_zero, List.set_cons_succ, i64_w, i32_w]
          rfl
        refine pure_ (i := 9) (N := some 59) (v := ?_) (a' := ?_) #[true, false, false, true, false, false, true, false, false, true, false, false, false, false, false, false, false, false, false, false, false, false, false, false] rfl rfl (any_of HT_.out (by kernel_rfl)) (fun _ _ _ h => h) (Or.inl ⟨by rfl, ?_⟩) ?_ ?_
        rotate_left
        · intro w'
          go_simp
          with_reducible rfl
        rotate_left
        · simp only [Act.put, List.setIfInBounds_toArray, List.set_cons_zero, List.set_cons_succ, i64_w, i32_w]
          rfl
        refine pure_ (i := 12) (N := some 62) (v := ?_) (a' := ?_) #[true, false, false, true, false, false, true, false, false, true, false, false, true, false, false, false, false, false, false, false, false, false, false, false] rfl rfl (any_of HT_.out (by kernel_rfl)) (fun _ _ _ h => h) (Or.inl ⟨by rfl, ?_⟩) ?_ ?_
        rotate_left
        · intro w'
          go_simp
          with_reducible rfl
        rotate_left
        · simp only [Act.put, List.setIfInBounds_toArray, List.set_cons_zero, List.set_cons_succ, i64_w, i32_w]
          rfl
        refine pure_ (i := 17) (N := some 67) (v := ?_) (a' := ?_) #[true, false, false, true, false, false, true, false, false, true, false, false, true, false, false, false, false, true, false, false, false, false, false, false] rfl rfl (any_of HT_.out (by kernel_rfl)) (fun _ _ _ h => h) (Or.inl ⟨by rfl, ?_⟩) ?_ ?_
        rotate_left
        · intro w'
          go_simp
          with_reducible rfl
        rotate_left
        · simp only [Act.put, List.setIfInBounds_toArray, List.set_cons_zero, List.set_cons_succ, i64_w, i32_w]
          rfl
        refine inv_at [1, 2, 4, 5, 7, 8, 10, 11, 13, 14, 15, 16, 18, 19, 20, 21, 22, 23] (fun a0_ b a w' => ∃ (v158 : Value) (v161 : Value) (v164 : Value) (v167 : Value) (v170 : Value) (v173 : Value) (v176 : Value) (v179 : Value) (v182 : Value) (m22_ : Value), a = putSel a0_ b [(1, 51, .int .i64 a0_0), (2, 52, v158), (4, 54, .int .i64 a0_1), (5, 55, v161), (7, 57, .int .i64 a0_2), (8, 58, v164), (10, 60, .int .i64 a0_3), (11, 61, v167), (13, 63, .slice A0_4 l0_4.length c0_4), (14, 64, .int .i64 (l0_4.length : Int)), (15, 65, v170), (16, 66, v173), (18, 68, .slice A0_4 l0_4.length c0_4), (19, 69, v176), (20, 70, v179), (21, 71, v182), (22, 2, m22_), (23, 3, .bool true)] ∧ (Kd.V (Kd.int .u8) 5 w' w.heap.size (fun k_ => (P0_4_ k_ ∨ w.heap.size ≤ k_) ∧ k_ ≠ gb156) (.slice A0_4 l0_4.length c0_4) l0_4) ∧ (w'.heap[gb156]? = some (.cells #[.int .i64 a0_0, .int .i64 a0_1, .int .i64 a0_2, .int .i64 a0_3, .slice A0_4 l0_4.length c0_4] 29 (0, 0))) ∧ (Below w.heap.size w w') ∧ (b 2 = true → b 19 = false → Kd.R (Kd.int .u8) 5 w' w.heap.size (fun k_ => (w.heap.size ≤ k_)) v158 t157) ∧ (b 5 = true → b 19 = false → Kd.R (Kd.int .u8) 5 w' w.heap.size (fun k_ => (w.heap.size ≤ k_)) v161 t160) ∧ (b 8 = true → b 19 = false → Kd.R (Kd.int .u8) 5 w' w.heap.size (fun k_ => (w.heap.size ≤ k_)) v164 t163) ∧ (b 11 = true → b 19 = false → Kd.R (Kd.int .u8) 5 w' w.heap.size (fun k_ => (w.heap.size ≤ k_)) v167 t166) ∧ (b 15 = true → b 19 = false → Kd.R (Kd.int .u8) 5 w' w.heap.size (fun k_ => (w.heap.size ≤ k_)) v170 t169) ∧ (b 16 = true → b 19 = false → Kd.R (Kd.int .u8) 5 w' w.heap.size (fun k_ => (w.heap.size ≤ k_)) v173 y172) ∧ (b 19 = true → Kd.N (Kd.slice 5 (Kd.int .u8)) 27 w' w.heap.size (fun k_ => (P0_4_ k_ ∨ w.heap.size ≤ k_) ∧ k_ ≠ gb156) v176 y175) ∧ (b 20 = true → Kd.R (Kd.int .u8) 5 w' w.heap.size (fun k_ => (w.heap.size ≤ k_)) v179 t178) ∧ (b 21 = true → Kd.R (Kd.int .u8) 5 w' w.heap.size (fun k_ => (w.heap.size ≤ k_)) v182 t181) ∧ (b 22 = true → (m22_ : Value) = v182)) HT_.out HW_.out (by kernel_rfl) (by kernel_rfl) ?_ ?_ ?_
        · exact ⟨.bool false, .bool false, .bool false, .bool false, .bool false, .bool false, .bool false, .bool false, .bool false, .bool false, by simp only [putSel, Bool.false_eq_true, if_false], HO_157004.out, BK156.out, HB.out, fun h_ => absurd h_ (by decide), fun h_ => absurd h_ (by decide), fun h_ => absurd h_ (by decide), fun h_ => absurd h_ (by decide), fun h_ => absurd h_ (by decide), fun h_ => absurd h_ (by decide), fun h_ => absurd h_ (by decide), fun h_ => absurd h_ (by decide), fun h_ => absurd h_ (by decide), fun h_ => absurd h_ (by decide)⟩
        · skip
          clear BK156 HB HO_157004
          refine steps_cons ?_ ?_
          · rintro b a w' ⟨v158, v161, v164, v167, v170, v173, v176, v179, v182, m22_, ha, Q_HO_157004, Q_BK156, Q_HB, Q_HO159, Q_HO162, Q_HO165, Q_HO168, Q_HO171, Q_HO174, Q_HO177, Q_HO180, Q_HO183, Q_X22_⟩ hb_ hon hoff
            refine ⟨_, rfl, fun K hK => ?_⟩
            have e50 : a.tmps[50]? = some (.pointer (some ⟨gb156, 0, none⟩)) := by rw [ha]; exact (putSel_off rfl).trans rfl
            replace ha := am_ ha
            have HO_157004 := am_ Q_HO_157004
            have BK156 := am_ Q_BK156
            have HB := am_ Q_HB
            have hc0_ : w'.cell? ⟨gb156, 0, none⟩ = some (.int .i64 a0_0) := (blk_cell BK156.out 0).trans rfl
            have hc1_ : w'.cell? ⟨gb156, 1, none⟩ = some (.int .i64 a0_1) := (blk_cell BK156.out 1).trans rfl
            have hc2_ : w'.cell? ⟨gb156, 2, none⟩ = some (.int .i64 a0_2) := (blk_cell BK156.out 2).trans rfl
            have hc3_ : w'.cell? ⟨gb156, 3, none⟩ = some (.int .i64 a0_3) := (blk_cell BK156.out 3).trans rfl
            have hc4_ : w'.cell? ⟨gb156, 4, none⟩ = some (.slice A0_4 l0_4.length c0_4) := (blk_cell BK156.out 4).trans rfl
            refine value_ (w1 := w') (v := .int .i64 a0_0) (by rfl) rfl ?_ ?_
            · go_simp
              (try simp only [i64_w])
              try rfl
            refine hK.out _ _ ⟨v158, v161, v164, v167, v170, v173, v176, v179, v182, m22_, (by rw [ha.out]; exact putSel_upk 0 hb_ rfl rfl rfl), Q_HO_157004, Q_BK156, Q_HB, fun h0_ _ => absurd ((hoff 2 (by kernel_rfl)).symm.trans h0_) (by decide), fun h0_ _ => absurd ((hoff 5 (by kernel_rfl)).symm.trans h0_) (by decide), fun h0_ _ => absurd ((hoff 8 (by kernel_rfl)).symm.trans h0_) (by decide), fun h0_ _ => absurd ((hoff 11 (by kernel_rfl)).symm.trans h0_) (by decide), fun h0_ _ => absurd ((hoff 15 (by kernel_rfl)).symm.trans h0_) (by decide), Q_HO174, fun h0_ => absurd ((hoff 19 (by kernel_rfl)).symm.trans h0_) (by decide), fun h0_ => absurd ((hoff 20 (by kernel_rfl)).symm.trans h0_) (by decide), fun h0_ => absurd ((hoff 21 (by kernel_rfl)).symm.trans h0_) (by decide), fun h0_ => absurd ((hoff 22 (by kernel_rfl)).symm.trans h0_) (by decide)⟩
          refine steps_cons ?_ ?_
          · rintro b a w' ⟨v158, v161, v164, v167, v170, v173, v176, v179, v182, m22_, ha, Q_HO_157004, Q_BK156, Q_HB, Q_HO159, Q_HO162, Q_HO165, Q_HO168, Q_HO171, Q_HO174, Q_HO177, Q_HO180, Q_HO183, Q_X22_⟩ hb_ hon hoff
            refine ⟨_, rfl, fun K hK => ?_⟩
            have e51 : a.tmps[51]? = some (.int .i64 a0_0) := by rw [ha]; exact putSel_on (e := (1, 51, .int .i64 a0_0)) 0 rfl rfl (hon 1 (by kernel_rfl)) rfl
            replace ha := am_ ha
            have HO_157004 := am_ Q_HO_157004
            have BK156 := am_ Q_BK156
            have HB := am_ Q_HB
            refine goes_ Try.func30 (by kernel_rfl) rfl #[.int .i64 a0_0, .int .i64 4] (by rfl) rfl rfl (by first | (simp only [List.map_toArray, List.map_cons, List.map_nil, Act.eval, Array.getD_eq_getD_getElem?, Option.getD_some, e51]; done) | (simp only [List.map_toArray, List.map_cons, List.map_nil, Act.eval, Array.getD_eq_getD_getElem?, Option.getD_some, e51]; rfl)) ?_
            with_reducible refine (field_Put.calls kj1 a0_0 4 t157 _ A22.out).mono ?_
            rintro e w30 ⟨v158, rfl, ho0, hb⟩
            refine ⟨_, rfl, ?_⟩
            have n0_ := am_ (Kd.V_elder' (by (with_reducible repeat (first | apply va_ | apply vn_ | apply vd_)); exact HO_157004.out) (Kd.R_base ho0) hb)
            have n1_ := am_ (Kd.R_lower (Kd.R_newM (M := fun k_ => (w.heap.size ≤ k_)) ho0 (bz_ (by repeat (first | (with_reducible first | exact HB.out | apply ba_ | apply bn_ | apply bd_ | refine be_ ?_ GE156.out) | exact HB.out))) (fun k_ h_ => h_)) (bz_ (by repeat (first | (with_reducible first | exact HB.out | apply ba_ | apply bn_ | apply bd_ | refine be_ ?_ GE156.out) | exact HB.out))))
            have n2_ := am_ (blk_below (g := gb156) (o := .cells #[.int .i64 a0_0, .int .i64 a0_1, .int .i64 a0_2, .int .i64 a0_3, .slice A0_4 l0_4.length c0_4] 29 (0, 0)) (by (with_reducible repeat (first | refine kn_ ?_ _ | refine kd_ ?_ | refine ka_ ?_ _)); exact BK156.out) hb)
            have n3_ := am_ (bt_ (by repeat (first | (with_reducible first | exact HB.out | apply ba_ | apply bn_ | apply bd_ | refine be_ ?_ GE156.out) | exact HB.out)) hb)
            have z_HO174 := fun (h0_ : b 16 = true) (h1_ : b 19 = false) => (show Kd.R (Kd.int .u8) 5 w30 w.heap.size (fun k_ => (w.heap.size ≤ k_)) v173 y172 from by first | exact (Kd.R_elder' (by (with_reducible repeat (first | apply ra_ | apply rn_ | apply rd_)); exact (Q_HO174 h0_ h1_)) (Kd.R_base ho0) hb) | exact Kd.R_mono (Kd.R_elder' (by (with_reducible repeat (first | apply ra_ | apply rn_ | apply rd_)); exact (Q_HO174 h0_ h1_)) (Kd.R_base ho0) hb) (fun _ h_ => by first | trivial | exact h_ | exact h_.1))
            clear HO_157004
            clear BK156
            clear HB
            have HO_157004 := n0_
            have HO159 := n1_
            have BK156 := n2_
            have HB := n3_
            clear n0_ n1_ n2_ n3_
            (try clear hb)
            (try clear hb2)
            (try clear hk)
            (try clear hi)
            (try clear ho0)
            refine hK.out _ _ ⟨v158, v161, v164, v167, v170, v173, v176, v179, v182, m22_, (by rw [ha.out]; exact putSel_upk 1 hb_ rfl rfl rfl), (by first | ((with_reducible repeat (first | apply va_ | apply vn_ | apply vd_)); exact Kd.V_mono HO_157004.out (fun _ hk => by first | exact hk | exact hk.1 | exact hk.1.1 | exact hk.1.1.1 | exact trivial)) | exact Kd.V_mono (show Kd.V (Kd.int .u8) 5 w30 w.heap.size (fun k_ => (P0_4_ k_ ∨ w.heap.size ≤ k_) ∧ some k_ ≠ (v158 : Value).ownBlock ∧ k_ ≠ gb156) (.slice A0_4 l0_4.length c0_4) l0_4 from (by (with_reducible repeat (first | apply va_ | apply vn_ | apply vd_)); exact Kd.V_mono HO_157004.out (fun _ hk => ⟨hk.1.1, ⟨hk.2, hk.1.2⟩⟩))) (fun _ hk => ⟨hk.1, hk.2.2⟩)), (by (with_reducible repeat (first | refine kn_ ?_ _ | refine kd_ ?_ | refine ka_ ?_ _)); exact BK156.out), (by repeat (first | (with_reducible first | exact HB.out | apply ba_ | apply bn_ | apply bd_ | refine be_ ?_ GE156.out) | exact HB.out)), fun _ _ => (by (with_reducible repeat (first | apply ra_ | apply rn_ | apply rd_)); exact Kd.R_mono HO159.out (fun _ hk => hk.1)), fun h0_ _ => absurd ((hoff 5 (by kernel_rfl)).symm.trans h0_) (by decide), fun h0_ _ => absurd ((hoff 8 (by kernel_rfl)).symm.trans h0_) (by decide), fun h0_ _ => absurd ((hoff 11 (by kernel_rfl)).symm.trans h0_) (by decide), fun h0_ _ => absurd ((hoff 15 (by kernel_rfl)).symm.trans h0_) (by decide), z_HO174, fun h0_ => absurd ((hoff 19 (by kernel_rfl)).symm.trans h0_) (by decide), fun h0_ => absurd ((hoff 20 (by kernel_rfl)).symm.trans h0_) (by decide), fun h0_ => absurd ((hoff 21 (by kernel_rfl)).symm.trans h0_) (by decide), fun h0_ => absurd ((hoff 22 (by kernel_rfl)).symm.trans h0_) (by decide)⟩
          refine steps_cons ?_ ?_
          · rintro b a w' ⟨v158, v161, v164, v167, v170, v173, v176, v179, v182, m22_, ha, Q_HO_157004, Q_BK156, Q_HB, Q_HO159, Q_HO162, Q_HO165, Q_HO168, Q_HO171, Q_HO174, Q_HO177, Q_HO180, Q_HO183, Q_X22_⟩ hb_ hon hoff
            refine ⟨_, rfl, fun K hK => ?_⟩
            have e53 : a.tmps[53]? = some (.pointer (some ⟨gb156, 1, none⟩)) := by rw [ha]; exact (putSel_off rfl).trans rfl
            replace ha := am_ ha
            have HO_157004 := am_ Q_HO_157004
            have BK156 := am_ Q_BK156
            have HB := am_ Q_HB
            have hc0_ : w'.cell? ⟨gb156, 0, none⟩ = some (.int .i64 a0_0) := (blk_cell BK156.out 0).trans rfl
            have hc1_ : w'.cell? ⟨gb156, 1, none⟩ = some (.int .i64 a0_1) := (blk_cell BK156.out 1).trans rfl
            have hc2_ : w'.cell? ⟨gb156, 2, none⟩ = some (.int .i64 a0_2) := (blk_cell BK156.out 2).trans rfl
            have hc3_ : w'.cell? ⟨gb156, 3, none⟩ = some (.int .i64 a0_3) := (blk_cell BK156.out 3).trans rfl
            have hc4_ : w'.cell? ⟨gb156, 4, none⟩ = some (.slice A0_4 l0_4.length c0_4) := (blk_cell BK156.out 4).trans rfl
            refine value_ (w1 := w') (v := .int .i64 a0_1) (by rfl) rfl ?_ ?_
            · go_simp
              (try simp only [i64_w])
              try rfl
            refine hK.out _ _ ⟨v158, v161, v164, v167, v170, v173, v176, v179, v182, m22_, (by rw [ha.out]; exact putSel_upk 2 hb_ rfl rfl rfl), Q_HO_157004, Q_BK156, Q_HB, Q_HO159, fun h0_ _ => absurd ((hoff 5 (by kernel_rfl)).symm.trans h0_) (by decide), fun h0_ _ => absurd ((hoff 8 (by kernel_rfl)).symm.trans h0_) (by decide), fun h0_ _ => absurd ((hoff 11 (by kernel_rfl)).symm.trans h0_) (by decide), fun h0_ _ => absurd ((hoff 15 (by kernel_rfl)).symm.trans h0_) (by decide), Q_HO174, fun h0_ => absurd ((hoff 19 (by kernel_rfl)).symm.trans h0_) (by decide), fun h0_ => absurd ((hoff 20 (by kernel_rfl)).symm.trans h0_) (by decide), fun h0_ => absurd ((hoff 21 (by kernel_rfl)).symm.trans h0_) (by decide), fun h0_ => absurd ((hoff 22 (by kernel_rfl)).symm.trans h0_) (by decide)⟩
          refine steps_cons ?_ ?_
          · rintro b a w' ⟨v158, v161, v164, v167, v170, v173, v176, v179, v182, m22_, ha, Q_HO_157004, Q_BK156, Q_HB, Q_HO159, Q_HO162, Q_HO165, Q_HO168, Q_HO171, Q_HO174, Q_HO177, Q_HO180, Q_HO183, Q_X22_⟩ hb_ hon hoff
            refine ⟨_, rfl, fun K hK => ?_⟩
            have e54 : a.tmps[54]? = some (.int .i64 a0_1) := by rw [ha]; exact putSel_on (e := (4, 54, .int .i64 a0_1)) 2 rfl rfl (hon 4 (by kernel_rfl)) rfl
            replace ha := am_ ha
            have HO_157004 := am_ Q_HO_157004
            have BK156 := am_ Q_BK156
            have HB := am_ Q_HB
            have HO159 := am_ (Q_HO159 (hon 2 (by kernel_rfl)) (hoff 19 (by kernel_rfl)))
            refine goes_ Try.func30 (by kernel_rfl) rfl #[.int .i64 a0_1, .int .i64 4] (by rfl) rfl rfl (by first | (simp only [List.map_toArray, List.map_cons, List.map_nil, Act.eval, Array.getD_eq_getD_getElem?, Option.getD_some, e54]; done) | (simp only [List.map_toArray, List.map_cons, List.map_nil, Act.eval, Array.getD_eq_getD_getElem?, Option.getD_some, e54]; rfl)) ?_
            with_reducible refine (field_Put.calls kj1 a0_1 4 t160 _ A23.out).mono ?_
            rintro e w32 ⟨v161, rfl, ho0, hb⟩
            refine ⟨_, rfl, ?_⟩
            have n0_ := am_ (Kd.V_elder' (by (with_reducible repeat (first | apply va_ | apply vn_ | apply vd_)); exact HO_157004.out) (Kd.R_base ho0) hb)
            have n1_ := am_ (Kd.R_elder' (by (with_reducible repeat (first | apply ra_ | apply rn_ | apply rd_)); exact HO159.out) (Kd.R_base ho0) hb)
            have n2_ := am_ (Kd.R_lower (Kd.R_new' (Kd.R_newM (M := fun k_ => (w.heap.size ≤ k_)) ho0 (bz_ (by repeat (first | (with_reducible first | exact HB.out | apply ba_ | apply bn_ | apply bd_ | refine be_ ?_ GE156.out) | exact HB.out))) (fun k_ h_ => h_)) (Kd.R_lt (by (with_reducible repeat (first | apply ra_ | apply rn_ | apply rd_)); exact HO159.out))) (bz_ (by repeat (first | (with_reducible first | exact HB.out | apply ba_ | apply bn_ | apply bd_ | refine be_ ?_ GE156.out) | exact HB.out))))
            have n3_ := am_ (blk_below (g := gb156) (o := .cells #[.int .i64 a0_0, .int .i64 a0_1, .int .i64 a0_2, .int .i64 a0_3, .slice A0_4 l0_4.length c0_4] 29 (0, 0)) (by (with_reducible repeat (first | refine kn_ ?_ _ | refine kd_ ?_ | refine ka_ ?_ _)); exact BK156.out) hb)
            have n4_ := am_ (bt_ (by repeat (first | (with_reducible first | exact HB.out | apply ba_ | apply bn_ | apply bd_ | refine be_ ?_ GE156.out) | exact HB.out)) hb)
            have z_HO174 := fun (h0_ : b 16 = true) (h1_ : b 19 = false) => (show Kd.R (Kd.int .u8) 5 w32 w.heap.size (fun k_ => (w.heap.size ≤ k_)) v173 y172 from by first | exact (Kd.R_elder' (by (with_reducible repeat (first | apply ra_ | apply rn_ | apply rd_)); exact (Q_HO174 h0_ h1_)) (Kd.R_base ho0) hb) | exact Kd.R_mono (Kd.R_elder' (by (with_reducible repeat (first | apply ra_ | apply rn_ | apply rd_)); exact (Q_HO174 h0_ h1_)) (Kd.R_base ho0) hb) (fun _ h_ => by first | trivial | exact h_ | exact h_.1))
            clear HO_157004
            clear HO159
            clear BK156
            clear HB
            have HO_157004 := n0_
            have HO159 := n1_
            have HO162 := n2_
            have BK156 := n3_
            have HB := n4_
            clear n0_ n1_ n2_ n3_ n4_
            (try clear hb)
            (try clear hb2)
            (try clear hk)
            (try clear hi)
            (try clear ho0)
            refine hK.out _ _ ⟨v158, v161, v164, v167, v170, v173, v176, v179, v182, m22_, (by rw [ha.out]; exact putSel_upk 3 hb_ rfl rfl rfl), (by first | ((with_reducible repeat (first | apply va_ | apply vn_ | apply vd_)); exact Kd.V_mono HO_157004.out (fun _ hk => by first | exact hk | exact hk.1 | exact hk.1.1 | exact hk.1.1.1 | exact trivial)) | exact Kd.V_mono (show Kd.V (Kd.int .u8) 5 w32 w.heap.size (fun k_ => (P0_4_ k_ ∨ w.heap.size ≤ k_) ∧ some k_ ≠ (v158 : Value).ownBlock ∧ some k_ ≠ (v161 : Value).ownBlock ∧ k_ ≠ gb156) (.slice A0_4 l0_4.length c0_4) l0_4 from (by (with_reducible repeat (first | apply va_ | apply vn_ | apply vd_)); exact Kd.V_mono HO_157004.out (fun _ hk => ⟨hk.1.1, ⟨hk.1.2.1, ⟨hk.2, hk.1.2.2⟩⟩⟩))) (fun _ hk => ⟨hk.1, hk.2.2.2⟩)), (by (with_reducible repeat (first | refine kn_ ?_ _ | refine kd_ ?_ | refine ka_ ?_ _)); exact BK156.out), (by repeat (first | (with_reducible first | exact HB.out | apply ba_ | apply bn_ | apply bd_ | refine be_ ?_ GE156.out) | exact HB.out)), fun _ _ => (by first | ((with_reducible repeat (first | apply ra_ | apply rn_ | apply rd_)); exact Kd.R_mono HO159.out (fun _ hk => by first | exact hk | exact hk.1 | exact hk.1.1 | exact hk.1.1.1 | exact trivial)) | exact Kd.R_mono (show Kd.R (Kd.int .u8) 5 w32 w.heap.size (fun k_ => (w.heap.size ≤ k_) ∧ some k_ ≠ (v161 : Value).ownBlock) v158 t157 from (by (with_reducible repeat (first | apply ra_ | apply rn_ | apply rd_)); exact HO159.out)) (fun _ hk => hk.1)), fun _ _ => (by first | ((with_reducible repeat (first | apply ra_ | apply rn_ | apply rd_)); exact Kd.R_mono HO162.out (fun _ hk => by first | exact hk | exact hk.1 | exact hk.1.1 | exact hk.1.1.1 | exact trivial)) | exact Kd.R_mono (show Kd.R (Kd.int .u8) 5 w32 w.heap.size (fun k_ => (w.heap.size ≤ k_) ∧ some k_ ≠ (v158 : Value).ownBlock) v161 t160 from (by (with_reducible repeat (first | apply ra_ | apply rn_ | apply rd_)); exact Kd.R_mono HO162.out (fun _ hk => ⟨hk.1.1, hk.2⟩))) (fun _ hk => hk.1)), fun h0_ _ => absurd ((hoff 8 (by kernel_rfl)).symm.trans h0_) (by decide), fun h0_ _ => absurd ((hoff 11 (by kernel_rfl)).symm.trans h0_) (by decide), fun h0_ _ => absurd ((hoff 15 (by kernel_rfl)).symm.trans h0_) (by decide), z_HO174, fun h0_ => absurd ((hoff 19 (by kernel_rfl)).symm.trans h0_) (by decide), fun h0_ => absurd ((hoff 20 (by kernel_rfl)).symm.trans h0_) (by decide), fun h0_ => absurd ((hoff 21 (by kernel_rfl)).symm.trans h0_) (by decide), fun h0_ => absurd ((hoff 22 (by kernel_rfl)).symm.trans h0_) (by decide)⟩
          refine steps_cons ?_ ?_
          · rintro b a w' ⟨v158, v161, v164, v167, v170, v173, v176, v179, v182, m22_, ha, Q_HO_157004, Q_BK156, Q_HB, Q_HO159, Q_HO162, Q_HO165, Q_HO168, Q_HO171, Q_HO174, Q_HO177, Q_HO180, Q_HO183, Q_X22_⟩ hb_ hon hoff
            refine ⟨_, rfl, fun K hK => ?_⟩
            have e56 : a.tmps[56]? = some (.pointer (some ⟨gb156, 2, none⟩)) := by rw [ha]; exact (putSel_off rfl).trans rfl
            replace ha := am_ ha
            have HO_157004 := am_ Q_HO_157004
            have BK156 := am_ Q_BK156
            have HB := am_ Q_HB
            have hc0_ : w'.cell? ⟨gb156, 0, none⟩ = some (.int .i64 a0_0) := (blk_cell BK156.out 0).trans rfl
            have hc1_ : w'.cell? ⟨gb156, 1, none⟩ = some (.int .i64 a0_1) := (blk_cell BK156.out 1).trans rfl
            have hc2_ : w'.cell? ⟨gb156, 2, none⟩ = some (.int .i64 a0_2) := (blk_cell BK156.out 2).trans rfl
            have hc3_ : w'.cell? ⟨gb156, 3, none⟩ = some (.int .i64 a0_3) := (blk_cell BK156.out 3).trans rfl
            have hc4_ : w'.cell? ⟨gb156, 4, none⟩ = some (.slice A0_4 l0_4.length c0_4) := (blk_cell BK156.out 4).trans rfl
            refine value_ (w1 := w') (v := .int .i64 a0_2) (by rfl) rfl ?_ ?_
            · go_simp
              (try simp only [i64_w])
              try rfl
            refine hK.out _ _ ⟨v158, v161, v164, v167, v170, v173, v176, v179, v182, m22_, (by rw [ha.out]; exact putSel_upk 4 hb_ rfl rfl rfl), Q_HO_157004, Q_BK156, Q_HB, Q_HO159, Q_HO162, fun h0_ _ => absurd ((hoff 8 (by kernel_rfl)).symm.trans h0_) (by decide), fun h0_ _ => absurd ((hoff 11 (by kernel_rfl)).symm.trans h0_) (by decide), fun h0_ _ => absurd ((hoff 15 (by kernel_rfl)).symm.trans h0_) (by decide), Q_HO174, fun h0_ => absurd ((hoff 19 (by kernel_rfl)).symm.trans h0_) (by decide), fun h0_ => absurd ((hoff 20 (by kernel_rfl)).symm.trans h0_) (by decide), fun h0_ => absurd ((hoff 21 (by kernel_rfl)).symm.trans h0_) (by decide), fun h0_ => absurd ((hoff 22 (by kernel_rfl)).symm.trans h0_) (by decide)⟩
          refine steps_cons ?_ ?_
          · rintro b a w' ⟨v158, v161, v164, v167, v170, v173, v176, v179, v182, m22_, ha, Q_HO_157004, Q_BK156, Q_HB, Q_HO159, Q_HO162, Q_HO165, Q_HO168, Q_HO171, Q_HO174, Q_HO177, Q_HO180, Q_HO183, Q_X22_⟩ hb_ hon hoff
            refine ⟨_, rfl, fun K hK => ?_⟩
            have e57 : a.tmps[57]? = some (.int .i64 a0_2) := by rw [ha]; exact putSel_on (e := (7, 57, .int .i64 a0_2)) 4 rfl rfl (hon 7 (by kernel_rfl)) rfl
            replace ha := am_ ha
            have HO_157004 := am_ Q_HO_157004
            have BK156 := am_ Q_BK156
            have HB := am_ Q_HB
            have HO159 := am_ (Q_HO159 (hon 2 (by kernel_rfl)) (hoff 19 (by kernel_rfl)))
            have HO162 := am_ (Q_HO162 (hon 5 (by kernel_rfl)) (hoff 19 (by kernel_rfl)))
            refine goes_ Try.func30 (by kernel_rfl) rfl #[.int .i64 a0_2, .int .i64 1] (by rfl) rfl rfl (by first | (simp only [List.map_toArray, List.map_cons, List.map_nil, Act.eval, Array.getD_eq_getD_getElem?, Option.getD_some, e57]; done) | (simp only [List.map_toArray, List.map_cons, List.map_nil, Act.eval, Array.getD_eq_getD_getElem?, Option.getD_some, e57]; rfl)) ?_
            with_reducible refine (field_Put.calls kj1 a0_2 1 t163 _ A24.out).mono ?_
            rintro e w33 ⟨v164, rfl, ho0, hb⟩
            refine ⟨_, rfl, ?_⟩
            have n0_ := am_ (Kd.V_elder' (by (with_reducible repeat (first | apply va_ | apply vn_ | apply vd_)); exact HO_157004.out) (Kd.R_base ho0) hb)
            have n1_ := am_ (Kd.R_elder' (by (with_reducible repeat (first | apply ra_ | apply rn_ | apply rd_)); exact HO159.out) (Kd.R_base ho0) hb)
            have n2_ := am_ (Kd.R_elder' (by (with_reducible repeat (first | apply ra_ | apply rn_ | apply rd_)); exact HO162.out) (Kd.R_base ho0) hb)
            have n3_ := am_ (Kd.R_lower (Kd.R_new' (Kd.R_new' (Kd.R_newM (M := fun k_ => (w.heap.size ≤ k_)) ho0 (bz_ (by repeat (first | (with_reducible first | exact HB.out | apply ba_ | apply bn_ | apply bd_ | refine be_ ?_ GE156.out) | exact HB.out))) (fun k_ h_ => h_)) (Kd.R_lt (by (with_reducible repeat (first | apply ra_ | apply rn_ | apply rd_)); exact HO159.out))) (Kd.R_lt (by (with_reducible repeat (first | apply ra_ | apply rn_ | apply rd_)); exact HO162.out))) (bz_ (by repeat (first | (with_reducible first | exact HB.out | apply ba_ | apply bn_ | apply bd_ | refine be_ ?_ GE156.out) | exact HB.out))))
            have n4_ := am_ (blk_below (g := gb156) (o := .cells #[.int .i64 a0_0, .int .i64 a0_1, .int .i64 a0_2, .int .i64 a0_3, .slice A0_4 l0_4.length c0_4] 29 (0, 0)) (by (with_reducible repeat (first | refine kn_ ?_ _ | refine kd_ ?_ | refine ka_ ?_ _)); exact BK156.out) hb)
            have n5_ := am_ (bt_ (by repeat (first | (with_reducible first | exact HB.out | apply ba_ | apply bn_ | apply bd_ | refine be_ ?_ GE156.out) | exact HB.out)) hb)
            have z_HO174 := fun (h0_ : b 16 = true) (h1_ : b 19 = false) => (show Kd.R (Kd.int .u8) 5 w33 w.heap.size (fun k_ => (w.heap.size ≤ k_)) v173 y172 from by first | exact (Kd.R_elder' (by (with_reducible repeat (first | apply ra_ | apply rn_ | apply rd_)); exact (Q_HO174 h0_ h1_)) (Kd.R_base ho0) hb) | exact Kd.R_mono (Kd.R_elder' (by (with_reducible repeat (first | apply ra_ | apply rn_ | apply rd_)); exact (Q_HO174 h0_ h1_)) (Kd.R_base ho0) hb) (fun _ h_ => by first | trivial | exact h_ | exact h_.1))
            clear HO_157004
            clear HO159
            clear HO162
            clear BK156
            clear HB
            have HO_157004 := n0_
            have HO159 := n1_
            have HO162 := n2_
            have HO165 := n3_
            have BK156 := n4_
            have HB := n5_
            clear n0_ n1_ n2_ n3_ n4_ n5_
            (try clear hb)
            (try clear hb2)
            (try clear hk)
            (try clear hi)
            (try clear ho0)
            refine hK.out _ _ ⟨v158, v161, v164, v167, v170, v173, v176, v179, v182, m22_, (by rw [ha.out]; exact putSel_upk 5 hb_ rfl rfl rfl), (by first | ((with_reducible repeat (first | apply va_ | apply vn_ | apply vd_)); exact Kd.V_mono HO_157004.out (fun _ hk => by first | exact hk | exact hk.1 | exact hk.1.1 | exact hk.1.1.1 | exact trivial)) | exact Kd.V_mono (show Kd.V (Kd.int .u8) 5 w33 w.heap.size (fun k_ => (P0_4_ k_ ∨ w.heap.size ≤ k_) ∧ some k_ ≠ (v158 : Value).ownBlock ∧ some k_ ≠ (v161 : Value).ownBlock ∧ some k_ ≠ (v164 : Value).ownBlock ∧ k_ ≠ gb156) (.slice A0_4 l0_4.length c0_4) l0_4 from (by (with_reducible repeat (first | apply va_ | apply vn_ | apply vd_)); exact Kd.V_mono HO_157004.out (fun _ hk => ⟨hk.1.1, ⟨hk.1.2.1, ⟨hk.1.2.2.1, ⟨hk.2, hk.1.2.2.2⟩⟩⟩⟩))) (fun _ hk => ⟨hk.1, hk.2.2.2.2⟩)), (by (with_reducible repeat (first | refine kn_ ?_ _ | refine kd_ ?_ | refine ka_ ?_ _)); exact BK156.out), (by repeat (first | (with_reducible first | exact HB.out | apply ba_ | apply bn_ | apply bd_ | refine be_ ?_ GE156.out) | exact HB.out)), fun _ _ => (by first | ((with_reducible repeat (first | apply ra_ | apply rn_ | apply rd_)); exact Kd.R_mono HO159.out (fun _ hk => by first | exact hk | exact hk.1 | exact hk.1.1 | exact hk.1.1.1 | exact trivial)) | exact Kd.R_mono (show Kd.R (Kd.int .u8) 5 w33 w.heap.size (fun k_ => (w.heap.size ≤ k_) ∧ some k_ ≠ (v161 : Value).ownBlock ∧ some k_ ≠ (v164 : Value).ownBlock) v158 t157 from (by (with_reducible repeat (first | apply ra_ | apply rn_ | apply rd_)); exact Kd.R_mono HO159.out (fun _ hk => ⟨hk.1.1, ⟨hk.1.2, hk.2⟩⟩))) (fun _ hk => hk.1)), fun _ _ => (by first | ((with_reducible repeat (first | apply ra_ | apply rn_ | apply rd_)); exact Kd.R_mono HO162.out (fun _ hk => by first | exact hk | exact hk.1 | exact hk.1.1 | exact hk.1.1.1 | exact trivial)) | exact Kd.R_mono (show Kd.R (Kd.int .u8) 5 w33 w.heap.size (fun k_ => (w.heap.size ≤ k_) ∧ some k_ ≠ (v158 : Value).ownBlock ∧ some k_ ≠ (v164 : Value).ownBlock) v161 t160 from (by (with_reducible repeat (first | apply ra_ | apply rn_ | apply rd_)); exact Kd.R_mono HO162.out (fun _ hk => ⟨hk.1.1, ⟨hk.1.2, hk.2⟩⟩))) (fun _ hk => hk.1)), fun _ _ => (by first | ((with_reducible repeat (first | apply ra_ | apply rn_ | apply rd_)); exact Kd.R_mono HO165.out (fun _ hk => by first | exact hk | exact hk.1 | exact hk.1.1 | exact hk.1.1.1 | exact trivial)) | exact Kd.R_mono (show Kd.R (Kd.int .u8) 5 w33 w.heap.size (fun k_ => (w.heap.size ≤ k_) ∧ some k_ ≠ (v158 : Value).ownBlock ∧ some k_ ≠ (v161 : Value).ownBlock) v164 t163 from (by (with_reducible repeat (first | apply ra_ | apply rn_ | apply rd_)); exact Kd.R_mono HO165.out (fun _ hk => ⟨hk.1.1.1, ⟨hk.1.2, hk.2⟩⟩))) (fun _ hk => hk.1)), fun h0_ _ => absurd ((hoff 11 (by kernel_rfl)).symm.trans h0_) (by decide), fun h0_ _ => absurd ((hoff 15 (by kernel_rfl)).symm.trans h0_) (by decide), z_HO174, fun h0_ => absurd ((hoff 19 (by kernel_rfl)).symm.trans h0_) (by decide), fun h0_ => absurd ((hoff 20 (by kernel_rfl)).symm.trans h0_) (by decide), fun h0_ => absurd ((hoff 21 (by kernel_rfl)).symm.trans h0_) (by decide), fun h0_ => absurd ((hoff 22 (by kernel_rfl)).symm.trans h0_) (by decide)⟩
          refine steps_cons ?_ ?_
          · rintro b a w' ⟨v158, v161, v164, v167, v170, v173, v176, v179, v182, m22_, ha, Q_HO_157004, Q_BK156, Q_HB, Q_HO159, Q_HO162, Q_HO165, Q_HO168, Q_HO171, Q_HO174, Q_HO177, Q_HO180, Q_HO183, Q_X22_⟩ hb_ hon hoff
            refine ⟨_, rfl, fun K hK => ?_⟩
            have e59 : a.tmps[59]? = some (.pointer (some ⟨gb156, 3, none⟩)) := by rw [ha]; exact (putSel_off rfl).trans rfl
            replace ha := am_ ha
            have HO_157004 := am_ Q_HO_157004
            have BK156 := am_ Q_BK156
            have HB := am_ Q_HB
            have hc0_ : w'.cell? ⟨gb156, 0, none⟩ = some (.int .i64 a0_0) := (blk_cell BK156.out 0).trans rfl
            have hc1_ : w'.cell? ⟨gb156, 1, none⟩ = some (.int .i64 a0_1) := (blk_cell BK156.out 1).trans rfl
            have hc2_ : w'.cell? ⟨gb156, 2, none⟩ = some (.int .i64 a0_2) := (blk_cell BK156.out 2).trans rfl
            have hc3_ : w'.cell? ⟨gb156, 3, none⟩ = some (.int .i64 a0_3) := (blk_cell BK156.out 3).trans rfl
            have hc4_ : w'.cell? ⟨gb156, 4, none⟩ = some (.slice A0_4 l0_4.length c0_4) := (blk_cell BK156.out 4).trans rfl
            refine value_ (w1 := w') (v := .int .i64 a0_3) (by rfl) rfl ?_ ?_
            · go_simp
              (try simp only [i64_w])
              try rfl
            refine hK.out _ _ ⟨v158, v161, v164, v167, v170, v173, v176, v179, v182, m22_, (by rw [ha.out]; exact putSel_upk 6 hb_ rfl rfl rfl), Q_HO_157004, Q_BK156, Q_HB, Q_HO159, Q_HO162, Q_HO165, fun h0_ _ => absurd ((hoff 11 (by kernel_rfl)).symm.trans h0_) (by decide), fun h0_ _ => absurd ((hoff 15 (by kernel_rfl)).symm.trans h0_) (by decide), Q_HO174, fun h0_ => absurd ((hoff 19 (by kernel_rfl)).symm.trans h0_) (by decide), fun h0_ => absurd ((hoff 20 (by kernel_rfl)).symm.trans h0_) (by decide), fun h0_ => absurd ((hoff 21 (by kernel_rfl)).symm.trans h0_) (by decide), fun h0_ => absurd ((hoff 22 (by kernel_rfl)).symm.trans h0_) (by decide)⟩
          refine steps_cons ?_ ?_
          · rintro b a w' ⟨v158, v161, v164, v167, v170, v173, v176, v179, v182, m22_, ha, Q_HO_157004, Q_BK156, Q_HB, Q_HO159, Q_HO162, Q_HO165, Q_HO168, Q_HO171, Q_HO174, Q_HO177, Q_HO180, Q_HO183, Q_X22_⟩ hb_ hon hoff
            refine ⟨_, rfl, fun K hK => ?_⟩
            have e60 : a.tmps[60]? = some (.int .i64 a0_3) := by rw [ha]; exact putSel_on (e := (10, 60, .int .i64 a0_3)) 6 rfl rfl (hon 10 (by kernel_rfl)) rfl
            replace ha := am_ ha
            have HO_157004 := am_ Q_HO_157004
            have BK156 := am_ Q_BK156
            have HB := am_ Q_HB
            have HO159 := am_ (Q_HO159 (hon 2 (by kernel_rfl)) (hoff 19 (by kernel_rfl)))
            have HO162 := am_ (Q_HO162 (hon 5 (by kernel_rfl)) (hoff 19 (by kernel_rfl)))
            have HO165 := am_ (Q_HO165 (hon 8 (by kernel_rfl)) (hoff 19 (by kernel_rfl)))
            refine goes_ Try.func30 (by kernel_rfl) rfl #[.int .i64 a0_3, .int .i64 1] (by rfl) rfl rfl (by first | (simp only [List.map_toArray, List.map_cons, List.map_nil, Act.eval, Array.getD_eq_getD_getElem?, Option.getD_some, e60]; done) | (simp only [List.map_toArray, List.map_cons, List.map_nil, Act.eval, Array.getD_eq_getD_getElem?, Option.getD_some, e60]; rfl)) ?_
            with_reducible refine (field_Put.calls kj1 a0_3 1 t166 _ A25.out).mono ?_
            rintro e w34 ⟨v167, rfl, ho0, hb⟩
            refine ⟨_, rfl, ?_⟩
            have n0_ := am_ (Kd.V_elder' (by (with_reducible repeat (first | apply va_ | apply vn_ | apply vd_)); exact HO_157004.out) (Kd.R_base ho0) hb)
            have n1_ := am_ (Kd.R_elder' (by (with_reducible repeat (first | apply ra_ | apply rn_ | apply rd_)); exact HO159.out) (Kd.R_base ho0) hb)
            have n2_ := am_ (Kd.R_elder' (by (with_reducible repeat (first | apply ra_ | apply rn_ | apply rd_)); exact HO162.out) (Kd.R_base ho0) hb)
            have n3_ := am_ (Kd.R_elder' (by (with_reducible repeat (first | apply ra_ | apply rn_ | apply rd_)); exact HO165.out) (Kd.R_base ho0) hb)
            have n4_ := am_ (Kd.R_lower (Kd.R_new' (Kd.R_new' (Kd.R_new' (Kd.R_newM (M := fun k_ => (w.heap.size ≤ k_)) ho0 (bz_ (by repeat (first | (with_reducible first | exact HB.out | apply ba_ | apply bn_ | apply bd_ | refine be_ ?_ GE156.out) | exact HB.out))) (fun k_ h_ => h_)) (Kd.R_lt (by (with_reducible repeat (first | apply ra_ | apply rn_ | apply rd_)); exact HO159.out))) (Kd.R_lt (by (with_reducible repeat (first | apply ra_ | apply rn_ | apply rd_)); exact HO162.out))) (Kd.R_lt (by (with_reducible repeat (first | apply ra_ | apply rn_ | apply rd_)); exact HO165.out))) (bz_ (by repeat (first | (with_reducible first | exact HB.out | apply ba_ | apply bn_ | apply bd_ | refine be_ ?_ GE156.out) | exact HB.out))))
            have n5_ := am_ (blk_below (g := gb156) (o := .cells #[.int .i64 a0_0, .int .i64 a0_1, .int .i64 a0_2, .int .i64 a0_3, .slice A0_4 l0_4.length c0_4] 29 (0, 0)) (by (with_reducible repeat (first | refine kn_ ?_ _ | refine kd_ ?_ | refine ka_ ?_ _)); exact BK156.out) hb)
            have n6_ := am_ (bt_ (by repeat (first | (with_reducible first | exact HB.out | apply ba_ | apply bn_ | apply bd_ | refine be_ ?_ GE156.out) | exact HB.out)) hb)
            have z_HO174 := fun (h0_ : b 16 = true) (h1_ : b 19 = false) => (show Kd.R (Kd.int .u8) 5 w34 w.heap.size (fun k_ => (w.heap.size ≤ k_)) v173 y172 from by first | exact (Kd.R_elder' (by (with_reducible repeat (first | apply ra_ | apply rn_ | apply rd_)); exact (Q_HO174 h0_ h1_)) (Kd.R_base ho0) hb) | exact Kd.R_mono (Kd.R_elder' (by (with_reducible repeat (first | apply ra_ | apply rn_ | apply rd_)); exact (Q_HO174 h0_ h1_)) (Kd.R_base ho0) hb) (fun _ h_ => by first | trivial | exact h_ | exact h_.1))
            clear HO_157004
            clear HO159
            clear HO162
            clear HO165
            clear BK156
            clear HB
            have HO_157004 := n0_
            have HO159 := n1_
            have HO162 := n2_
            have HO165 := n3_
            have HO168 := n4_
            have BK156 := n5_
            have HB := n6_
            clear n0_ n1_ n2_ n3_ n4_ n5_ n6_
            (try clear hb)
            (try clear hb2)
            (try clear hk)
            (try clear hi)
            (try clear ho0)
            refine hK.out _ _ ⟨v158, v161, v164, v167, v170, v173, v176, v179, v182, m22_, (by rw [ha.out]; exact putSel_upk 7 hb_ rfl rfl rfl), (by first | ((with_reducible repeat (first | apply va_ | apply vn_ | apply vd_)); exact Kd.V_mono HO_157004.out (fun _ hk => by first | exact hk | exact hk.1 | exact hk.1.1 | exact hk.1.1.1 | exact trivial)) | exact Kd.V_mono (show Kd.V (Kd.int .u8) 5 w34 w.heap.size (fun k_ => (P0_4_ k_ ∨ w.heap.size ≤ k_) ∧ some k_ ≠ (v158 : Value).ownBlock ∧ some k_ ≠ (v161 : Value).ownBlock ∧ some k_ ≠ (v164 : Value).ownBlock ∧ some k_ ≠ (v167 : Value).ownBlock ∧ k_ ≠ gb156) (.slice A0_4 l0_4.length c0_4) l0_4 from (by (with_reducible repeat (first | apply va_ | apply vn_ | apply vd_)); exact Kd.V_mono HO_157004.out (fun _ hk => ⟨hk.1.1, ⟨hk.1.2.1, ⟨hk.1.2.2.1, ⟨hk.1.2.2.2.1, ⟨hk.2, hk.1.2.2.2.2⟩⟩⟩⟩⟩))) (fun _ hk => ⟨hk.1, hk.2.2.2.2.2⟩)), (by (with_reducible repeat (first | refine kn_ ?_ _ | refine kd_ ?_ | refine ka_ ?_ _)); exact BK156.out), (by repeat (first | (with_reducible first | exact HB.out | apply ba_ | apply bn_ | apply bd_ | refine be_ ?_ GE156.out) | exact HB.out)), fun _ _ => (by first | ((with_reducible repeat (first | apply ra_ | apply rn_ | apply rd_)); exact Kd.R_mono HO159.out (fun _ hk => by first | exact hk | exact hk.1 | exact hk.1.1 | exact hk.1.1.1 | exact trivial)) | exact Kd.R_mono (show Kd.R (Kd.int .u8) 5 w34 w.heap.size (fun k_ => (w.heap.size ≤ k_) ∧ some k_ ≠ (v161 : Value).ownBlock ∧ some k_ ≠ (v164 : Value).ownBlock ∧ some k_ ≠ (v167 : Value).ownBlock) v158 t157 from (by (with_reducible repeat (first | apply ra_ | apply rn_ | apply rd_)); exact Kd.R_mono HO159.out (fun _ hk => ⟨hk.1.1, ⟨hk.1.2.1, ⟨hk.1.2.2, hk.2⟩⟩⟩))) (fun _ hk => hk.1)), fun _ _ => (by first | ((with_reducible repeat (first | apply ra_ | apply rn_ | apply rd_)); exact Kd.R_mono HO162.out (fun _ hk => by first | exact hk | exact hk.1 | exact hk.1.1 | exact hk.1.1.1 | exact trivial)) | exact Kd.R_mono (show Kd.R (Kd.int .u8) 5 w34 w.heap.size (fun k_ => (w.heap.size ≤ k_) ∧ some k_ ≠ (v158 : Value).ownBlock ∧ some k_ ≠ (v164 : Value).ownBlock ∧ some k_ ≠ (v167 : Value).ownBlock) v161 t160 from (by (with_reducible repeat (first | apply ra_ | apply rn_ | apply rd_)); exact Kd.R_mono HO162.out (fun _ hk => ⟨hk.1.1, ⟨hk.1.2.1, ⟨hk.1.2.2, hk.2⟩⟩⟩))) (fun _ hk => hk.1)), fun _ _ => (by first | ((with_reducible repeat (first | apply ra_ | apply rn_ | apply rd_)); exact Kd.R_mono HO165.out (fun _ hk => by first | exact hk | exact hk.1 | exact hk.1.1 | exact hk.1.1.1 | exact trivial)) | exact Kd.R_mono (show Kd.R (Kd.int .u8) 5 w34 w.heap.size (fun k_ => (w.heap.size ≤ k_) ∧ some k_ ≠ (v158 : Value).ownBlock ∧ some k_ ≠ (v161 : Value).ownBlock ∧ some k_ ≠ (v167 : Value).ownBlock) v164 t163 from (by (with_reducible repeat (first | apply ra_ | apply rn_ | apply rd_)); exact Kd.R_mono HO165.out (fun _ hk => ⟨hk.1.1, ⟨hk.1.2.1, ⟨hk.1.2.2, hk.2⟩⟩⟩))) (fun _ hk => hk.1)), fun _ _ => (by first | ((with_reducible repeat (first | apply ra_ | apply rn_ | apply rd_)); exact Kd.R_mono HO168.out (fun _ hk => by first | exact hk | exact hk.1 | exact hk.1.1 | exact hk.1.1.1 | exact trivial)) | exact Kd.R_mono (show Kd.R (Kd.int .u8) 5 w34 w.heap.size (fun k_ => (w.heap.size ≤ k_) ∧ some k_ ≠ (v158 : Value).ownBlock ∧ some k_ ≠ (v161 : Value).ownBlock ∧ some k_ ≠ (v164 : Value).ownBlock) v167 t166 from (by (with_reducible repeat (first | apply ra_ | apply rn_ | apply rd_)); exact Kd.R_mono HO168.out (fun _ hk => ⟨hk.1.1.1.1, ⟨hk.1.1.2, ⟨hk.1.2, hk.2⟩⟩⟩))) (fun _ hk => hk.1)), fun h0_ _ => absurd ((hoff 15 (by kernel_rfl)).symm.trans h0_) (by decide), z_HO174, fun h0_ => absurd ((hoff 19 (by kernel_rfl)).symm.trans h0_) (by decide), fun h0_ => absurd ((hoff 20 (by kernel_rfl)).symm.trans h0_) (by decide), fun h0_ => absurd ((hoff 21 (by kernel_rfl)).symm.trans h0_) (by decide), fun h0_ => absurd ((hoff 22 (by kernel_rfl)).symm.trans h0_) (by decide)⟩
          refine steps_cons ?_ ?_
          · rintro b a w' ⟨v158, v161, v164, v167, v170, v173, v176, v179, v182, m22_, ha, Q_HO_157004, Q_BK156, Q_HB, Q_HO159, Q_HO162, Q_HO165, Q_HO168, Q_HO171, Q_HO174, Q_HO177, Q_HO180, Q_HO183, Q_X22_⟩ hb_ hon hoff
            refine ⟨_, rfl, fun K hK => ?_⟩
            have e62 : a.tmps[62]? = some (.pointer (some ⟨gb156, 4, none⟩)) := by rw [ha]; exact (putSel_off rfl).trans rfl
            replace ha := am_ ha
            have HO_157004 := am_ Q_HO_157004
            have BK156 := am_ Q_BK156
            have HB := am_ Q_HB
            have hc0_ : w'.cell? ⟨gb156, 0, none⟩ = some (.int .i64 a0_0) := (blk_cell BK156.out 0).trans rfl
            have hc1_ : w'.cell? ⟨gb156, 1, none⟩ = some (.int .i64 a0_1) := (blk_cell BK156.out 1).trans rfl
            have hc2_ : w'.cell? ⟨gb156, 2, none⟩ = some (.int .i64 a0_2) := (blk_cell BK156.out 2).trans rfl
            have hc3_ : w'.cell? ⟨gb156, 3, none⟩ = some (.int .i64 a0_3) := (blk_cell BK156.out 3).trans rfl
            have hc4_ : w'.cell? ⟨gb156, 4, none⟩ = some (.slice A0_4 l0_4.length c0_4) := (blk_cell BK156.out 4).trans rfl
            refine value_ (w1 := w') (v := .slice A0_4 l0_4.length c0_4) (by rfl) rfl ?_ ?_
            · go_simp
              (try simp only [i64_w])
              try rfl
            refine hK.out _ _ ⟨v158, v161, v164, v167, v170, v173, v176, v179, v182, m22_, (by rw [ha.out]; exact putSel_upk 8 hb_ rfl rfl rfl), Q_HO_157004, Q_BK156, Q_HB, Q_HO159, Q_HO162, Q_HO165, Q_HO168, fun h0_ _ => absurd ((hoff 15 (by kernel_rfl)).symm.trans h0_) (by decide), Q_HO174, fun h0_ => absurd ((hoff 19 (by kernel_rfl)).symm.trans h0_) (by decide), fun h0_ => absurd ((hoff 20 (by kernel_rfl)).symm.trans h0_) (by decide), fun h0_ => absurd ((hoff 21 (by kernel_rfl)).symm.trans h0_) (by decide), fun h0_ => absurd ((hoff 22 (by kernel_rfl)).symm.trans h0_) (by decide)⟩
          refine steps_cons ?_ ?_
          · rintro b a w' ⟨v158, v161, v164, v167, v170, v173, v176, v179, v182, m22_, ha, Q_HO_157004, Q_BK156, Q_HB, Q_HO159, Q_HO162, Q_HO165, Q_HO168, Q_HO171, Q_HO174, Q_HO177, Q_HO180, Q_HO183, Q_X22_⟩ hb_ hon hoff
            refine ⟨_, rfl, fun K hK => ?_⟩
            have e63 : a.tmps[63]? = some (.slice A0_4 l0_4.length c0_4) := by rw [ha]; exact putSel_on (e := (13, 63, .slice A0_4 l0_4.length c0_4)) 8 rfl rfl (hon 13 (by kernel_rfl)) rfl
            replace ha := am_ ha
            have HO_157004 := am_ Q_HO_157004
            have BK156 := am_ Q_BK156
            have HB := am_ Q_HB
            refine value_ (w1 := w') (v := .int .i64 (l0_4.length : Int)) (by rfl) rfl ?_ ?_
            · go_simp
              (try simp only [i64_w])
              try rfl
            refine hK.out _ _ ⟨v158, v161, v164, v167, v170, v173, v176, v179, v182, m22_, (by rw [ha.out]; exact putSel_upk 9 hb_ rfl rfl rfl), Q_HO_157004, Q_BK156, Q_HB, Q_HO159, Q_HO162, Q_HO165, Q_HO168, fun h0_ _ => absurd ((hoff 15 (by kernel_rfl)).symm.trans h0_) (by decide), Q_HO174, fun h0_ => absurd ((hoff 19 (by kernel_rfl)).symm.trans h0_) (by decide), fun h0_ => absurd ((hoff 20 (by kernel_rfl)).symm.trans h0_) (by decide), fun h0_ => absurd ((hoff 21 (by kernel_rfl)).symm.trans h0_) (by decide), fun h0_ => absurd ((hoff 22 (by kernel_rfl)).symm.trans h0_) (by decide)⟩
          refine steps_cons ?_ ?_
          · rintro b a w' ⟨v158, v161, v164, v167, v170, v173, v176, v179, v182, m22_, ha, Q_HO_157004, Q_BK156, Q_HB, Q_HO159, Q_HO162, Q_HO165, Q_HO168, Q_HO171, Q_HO174, Q_HO177, Q_HO180, Q_HO183, Q_X22_⟩ hb_ hon hoff
            refine ⟨_, rfl, fun K hK => ?_⟩
            have e64 : a.tmps[64]? = some (.int .i64 (l0_4.length : Int)) := by rw [ha]; exact putSel_on (e := (14, 64, .int .i64 (l0_4.length : Int))) 9 rfl rfl (hon 14 (by kernel_rfl)) rfl
            replace ha := am_ ha
            have HO_157004 := am_ Q_HO_157004
            have BK156 := am_ Q_BK156
            have HB := am_ Q_HB
            have HO159 := am_ (Q_HO159 (hon 2 (by kernel_rfl)) (hoff 19 (by kernel_rfl)))
            have HO162 := am_ (Q_HO162 (hon 5 (by kernel_rfl)) (hoff 19 (by kernel_rfl)))
            have HO165 := am_ (Q_HO165 (hon 8 (by kernel_rfl)) (hoff 19 (by kernel_rfl)))
            have HO168 := am_ (Q_HO168 (hon 11 (by kernel_rfl)) (hoff 19 (by kernel_rfl)))
            refine goes_ Try.func30 (by kernel_rfl) rfl #[.int .i64 (l0_4.length : Int), .int .i64 1] (by rfl) rfl rfl (by first | (simp only [List.map_toArray, List.map_cons, List.map_nil, Act.eval, Array.getD_eq_getD_getElem?, Option.getD_some, e64]; done) | (simp only [List.map_toArray, List.map_cons, List.map_nil, Act.eval, Array.getD_eq_getD_getElem?, Option.getD_some, e64]; rfl)) ?_
            with_reducible refine (field_Put.calls kj1 (l0_4.length : Int) 1 t169 _ A26.out).mono ?_
            rintro e w35 ⟨v170, rfl, ho0, hb⟩
            refine ⟨_, rfl, ?_⟩
            have n0_ := am_ (Kd.V_elder' (by (with_reducible repeat (first | apply va_ | apply vn_ | apply vd_)); exact HO_157004.out) (Kd.R_base ho0) hb)
            have n1_ := am_ (Kd.R_elder' (by (with_reducible repeat (first | apply ra_ | apply rn_ | apply rd_)); exact HO159.out) (Kd.R_base ho0) hb)
            have n2_ := am_ (Kd.R_elder' (by (with_reducible repeat (first | apply ra_ | apply rn_ | apply rd_)); exact HO162.out) (Kd.R_base ho0) hb)
            have n3_ := am_ (Kd.R_elder' (by (with_reducible repeat (first | apply ra_ | apply rn_ | apply rd_)); exact HO165.out) (Kd.R_base ho0) hb)
            have n4_ := am_ (Kd.R_elder' (by (with_reducible repeat (first | apply ra_ | apply rn_ | apply rd_)); exact HO168.out) (Kd.R_base ho0) hb)
            have n5_ := am_ (Kd.R_lower (Kd.R_new' (Kd.R_new' (Kd.R_new' (Kd.R_new' (Kd.R_newM (M := fun k_ => (w.heap.size ≤ k_)) ho0 (bz_ (by repeat (first | (with_reducible first | exact HB.out | apply ba_ | apply bn_ | apply bd_ | refine be_ ?_ GE156.out) | exact HB.out))) (fun k_ h_ => h_)) (Kd.R_lt (by (with_reducible repeat (first | apply ra_ | apply rn_ | apply rd_)); exact HO159.out))) (Kd.R_lt (by (with_reducible repeat (first | apply ra_ | apply rn_ | apply rd_)); exact HO162.out))) (Kd.R_lt (by (with_reducible repeat (first | apply ra_ | apply rn_ | apply rd_)); exact HO165.out))) (Kd.R_lt (by (with_reducible repeat (first | apply ra_ | apply rn_ | apply rd_)); exact HO168.out))) (bz_ (by repeat (first | (with_reducible first | exact HB.out | apply ba_ | apply bn_ | apply bd_ | refine be_ ?_ GE156.out) | exact HB.out))))
            have n6_ := am_ (blk_below (g := gb156) (o := .cells #[.int .i64 a0_0, .int .i64 a0_1, .int .i64 a0_2, .int .i64 a0_3, .slice A0_4 l0_4.length c0_4] 29 (0, 0)) (by (with_reducible repeat (first | refine kn_ ?_ _ | refine kd_ ?_ | refine ka_ ?_ _)); exact BK156.out) hb)
            have n7_ := am_ (bt_ (by repeat (first | (with_reducible first | exact HB.out | apply ba_ | apply bn_ | apply bd_ | refine be_ ?_ GE156.out) | exact HB.out)) hb)
            have z_HO174 := fun (h0_ : b 16 = true) (h1_ : b 19 = false) => (show Kd.R (Kd.int .u8) 5 w35 w.heap.size (fun k_ => (w.heap.size ≤ k_)) v173 y172 from by first | exact (Kd.R_elder' (by (with_reducible repeat (first | apply ra_ | apply rn_ | apply rd_)); exact (Q_HO174 h0_ h1_)) (Kd.R_base ho0) hb) | exact Kd.R_mono (Kd.R_elder' (by (with_reducible repeat (first | apply ra_ | apply rn_ | apply rd_)); exact (Q_HO174 h0_ h1_)) (Kd.R_base ho0) hb) (fun _ h_ => by first | trivial | exact h_ | exact h_.1))
            clear HO_157004
            clear HO159
            clear HO162
            clear HO165
            clear HO168
            clear BK156
            clear HB
            have HO_157004 := n0_
            have HO159 := n1_
            have HO162 := n2_
            have HO165 := n3_
            have HO168 := n4_
            have HO171 := n5_
            have BK156 := n6_
            have HB := n7_
            clear n0_ n1_ n2_ n3_ n4_ n5_ n6_ n7_
            (try clear hb)
            (try clear hb2)
            (try clear hk)
            (try clear hi)
            (try clear ho0)
            refine hK.out _ _ ⟨v158, v161, v164, v167, v170, v173, v176, v179, v182, m22_, (by rw [ha.out]; exact putSel_upk 10 hb_ rfl rfl rfl), (by first | ((with_reducible repeat (first | apply va_ | apply vn_ | apply vd_)); exact Kd.V_mono HO_157004.out (fun _ hk => by first | exact hk | exact hk.1 | exact hk.1.1 | exact hk.1.1.1 | exact trivial)) | exact Kd.V_mono (show Kd.V (Kd.int .u8) 5 w35 w.heap.size (fun k_ => (P0_4_ k_ ∨ w.heap.size ≤ k_) ∧ some k_ ≠ (v158 : Value).ownBlock ∧ some k_ ≠ (v161 : Value).ownBlock ∧ some k_ ≠ (v164 : Value).ownBlock ∧ some k_ ≠ (v167 : Value).ownBlock ∧ some k_ ≠ (v170 : Value).ownBlock ∧ k_ ≠ gb156) (.slice A0_4 l0_4.length c0_4) l0_4 from (by (with_reducible repeat (first | apply va_ | apply vn_ | apply vd_)); exact Kd.V_mono HO_157004.out (fun _ hk => ⟨hk.1.1, ⟨hk.1.2.1, ⟨hk.1.2.2.1, ⟨hk.1.2.2.2.1, ⟨hk.1.2.2.2.2.1, ⟨hk.2, hk.1.2.2.2.2.2⟩⟩⟩⟩⟩⟩))) (fun _ hk => ⟨hk.1, hk.2.2.2.2.2.2⟩)), (by (with_reducible repeat (first | refine kn_ ?_ _ | refine kd_ ?_ | refine ka_ ?_ _)); exact BK156.out), (by repeat (first | (with_reducible first | exact HB.out | apply ba_ | apply bn_ | apply bd_ | refine be_ ?_ GE156.out) | exact HB.out)), fun _ _ => (by first | ((with_reducible repeat (first | apply ra_ | apply rn_ | apply rd_)); exact Kd.R_mono HO159.out (fun _ hk => by first | exact hk | exact hk.1 | exact hk.1.1 | exact hk.1.1.1 | exact trivial)) | exact Kd.R_mono (show Kd.R (Kd.int .u8) 5 w35 w.heap.size (fun k_ => (w.heap.size ≤ k_) ∧ some k_ ≠ (v161 : Value).ownBlock ∧ some k_ ≠ (v164 : Value).ownBlock ∧ some k_ ≠ (v167 : Value).ownBlock ∧ some k_ ≠ (v170 : Value).ownBlock) v158 t157 from (by (with_reducible repeat (first | apply ra_ | apply rn_ | apply rd_)); exact Kd.R_mono HO159.out (fun _ hk => ⟨hk.1.1, ⟨hk.1.2.1, ⟨hk.1.2.2.1, ⟨hk.1.2.2.2, hk.2⟩⟩⟩⟩))) (fun _ hk => hk.1)), fun _ _ => (by first | ((with_reducible repeat (first | apply ra_ | apply rn_ | apply rd_)); exact Kd.R_mono HO162.out (fun _ hk => by first | exact hk | exact hk.1 | exact hk.1.1 | exact hk.1.1.1 | exact trivial)) | exact Kd.R_mono (show Kd.R (Kd.int .u8) 5 w35 w.heap.size (fun k_ => (w.heap.size ≤ k_) ∧ some k_ ≠ (v158 : Value).ownBlock ∧ some k_ ≠ (v164 : Value).ownBlock ∧ some k_ ≠ (v167 : Value).ownBlock ∧ some k_ ≠ (v170 : Value).ownBlock) v161 t160 from (by (with_reducible repeat (first | apply ra_ | apply rn_ | apply rd_)); exact Kd.R_mono HO162.out (fun _ hk => ⟨hk.1.1, ⟨hk.1.2.1, ⟨hk.1.2.2.1, ⟨hk.1.2.2.2, hk.2⟩⟩⟩⟩))) (fun _ hk => hk.1)), fun _ _ => (by first | ((with_reducible repeat (first | apply ra_ | apply rn_ | apply rd_)); exact Kd.R_mono HO165.out (fun _ hk => by first | exact hk | exact hk.1 | exact hk.1.1 | exact hk.1.1.1 | exact trivial)) | exact Kd.R_mono (show Kd.R (Kd.int .u8) 5 w35 w.heap.size (fun k_ => (w.heap.size ≤ k_) ∧ some k_ ≠ (v158 : Value).ownBlock ∧ some k_ ≠ (v161 : Value).ownBlock ∧ some k_ ≠ (v167 : Value).ownBlock ∧ some k_ ≠ (v170 : Value).ownBlock) v164 t163 from (by (with_reducible repeat (first | apply ra_ | apply rn_ | apply rd_)); exact Kd.R_mono HO165.out (fun _ hk => ⟨hk.1.1, ⟨hk.1.2.1, ⟨hk.1.2.2.1, ⟨hk.1.2.2.2, hk.2⟩⟩⟩⟩))) (fun _ hk => hk.1)), fun _ _ => (by first | ((with_reducible repeat (first | apply ra_ | apply rn_ | apply rd_)); exact Kd.R_mono HO168.out (fun _ hk => by first | exact hk | exact hk.1 | exact hk.1.1 | exact hk.1.1.1 | exact trivial)) | exact Kd.R_mono (show Kd.R (Kd.int .u8) 5 w35 w.heap.size (fun k_ => (w.heap.size ≤ k_) ∧ some k_ ≠ (v158 : Value).ownBlock ∧ some k_ ≠ (v161 : Value).ownBlock ∧ some k_ ≠ (v164 : Value).ownBlock ∧ some k_ ≠ (v170 : Value).ownBlock) v167 t166 from (by (with_reducible repeat (first | apply ra_ | apply rn_ | apply rd_)); exact Kd.R_mono HO168.out (fun _ hk => ⟨hk.1.1, ⟨hk.1.2.1, ⟨hk.1.2.2.1, ⟨hk.1.2.2.2, hk.2⟩⟩⟩⟩))) (fun _ hk => hk.1)), fun _ _ => (by first | ((with_reducible repeat (first | apply ra_ | apply rn_ | apply rd_)); exact Kd.R_mono HO171.out (fun _ hk => by first | exact hk | exact hk.1 | exact hk.1.1 | exact hk.1.1.1 | exact trivial)) | exact Kd.R_mono (show Kd.R (Kd.int .u8) 5 w35 w.heap.size (fun k_ => (w.heap.size ≤ k_) ∧ some k_ ≠ (v158 : Value).ownBlock ∧ some k_ ≠ (v161 : Value).ownBlock ∧ some k_ ≠ (v164 : Value).ownBlock ∧ some k_ ≠ (v167 : Value).ownBlock) v170 t169 from (by (with_reducible repeat (first | apply ra_ | apply rn_ | apply rd_)); exact Kd.R_mono HO171.out (fun _ hk => ⟨hk.1.1.1.1.1, ⟨hk.1.1.1.2, ⟨hk.1.1.2, ⟨hk.1.2, hk.2⟩⟩⟩⟩))) (fun _ hk => hk.1)), z_HO174, fun h0_ => absurd ((hoff 19 (by kernel_rfl)).symm.trans h0_) (by decide), fun h0_ => absurd ((hoff 20 (by kernel_rfl)).symm.trans h0_) (by decide), fun h0_ => absurd ((hoff 21 (by kernel_rfl)).symm.trans h0_) (by decide), fun h0_ => absurd ((hoff 22 (by kernel_rfl)).symm.trans h0_) (by decide)⟩
          refine steps_cons ?_ ?_
          · rintro b a w' ⟨v158, v161, v164, v167, v170, v173, v176, v179, v182, m22_, ha, Q_HO_157004, Q_BK156, Q_HB, Q_HO159, Q_HO162, Q_HO165, Q_HO168, Q_HO171, Q_HO174, Q_HO177, Q_HO180, Q_HO183, Q_X22_⟩ hb_ hon hoff
            refine ⟨_, rfl, fun K hK => ?_⟩
            replace ha := am_ ha
            have HO_157004 := am_ Q_HO_157004
            have BK156 := am_ Q_BK156
            have HB := am_ Q_HB
            refine Kd.R_lit_step (Kd.int .u8) _ 5 ?hg (N := 66) ?hd (xs := ([206] : List Int)) (inner := [.int .u8 206]) (ok := fun _ => True) (okp := fun _ => True) ?hr ?hp (fun _ hk => hk) trivial (Below.refl _ _) (Nat.le_refl _) (by simp) ?_; (case hd => rfl); (case hg => rfl); (case hr => first | (go_simp; done) | (go_simp; rfl)); (case hp => exact (Reps.one (show Kd.M (Kd.int .u8) _ _ _ 206 [.int .u8 206] from rfl) (Reps.none _ _)))
            intro v173 w30 ho31 hb hg_ hnew_
            clear hg_ hnew_
            (first | rw [← Ny172.out] at ho31 | (simp only [Int.reduceToNat] at ho31; rw [← Ny172.out] at ho31))
            have n0_ := am_ (Kd.V_elder' (by (with_reducible repeat (first | apply va_ | apply vn_ | apply vd_)); exact HO_157004.out) (Kd.R_base ho31) hb)
            have n1_ := am_ (Kd.R_lower (Kd.R_newM (M := fun k_ => (w.heap.size ≤ k_)) ho31 (bz_ (by repeat (first | (with_reducible first | exact HB.out | apply ba_ | apply bn_ | apply bd_ | refine be_ ?_ GE156.out) | exact HB.out))) (fun k_ h_ => h_)) (bz_ (by repeat (first | (with_reducible first | exact HB.out | apply ba_ | apply bn_ | apply bd_ | refine be_ ?_ GE156.out) | exact HB.out))))
            have n2_ := am_ (blk_below (g := gb156) (o := .cells #[.int .i64 a0_0, .int .i64 a0_1, .int .i64 a0_2, .int .i64 a0_3, .slice A0_4 l0_4.length c0_4] 29 (0, 0)) (by (with_reducible repeat (first | refine kn_ ?_ _ | refine kd_ ?_ | refine ka_ ?_ _)); exact BK156.out) hb)
            have n3_ := am_ (bt_ (by repeat (first | (with_reducible first | exact HB.out | apply ba_ | apply bn_ | apply bd_ | refine be_ ?_ GE156.out) | exact HB.out)) hb)
            have z_HO159 := fun (h0_ : b 2 = true) (h1_ : b 19 = false) => (show Kd.R (Kd.int .u8) 5 w30 w.heap.size (fun k_ => (w.heap.size ≤ k_)) v158 t157 from by first | exact (Kd.R_elder' (by (with_reducible repeat (first | apply ra_ | apply rn_ | apply rd_)); exact (Q_HO159 h0_ h1_)) (Kd.R_base ho31) hb) | exact Kd.R_mono (Kd.R_elder' (by (with_reducible repeat (first | apply ra_ | apply rn_ | apply rd_)); exact (Q_HO159 h0_ h1_)) (Kd.R_base ho31) hb) (fun _ h_ => by first | trivial | exact h_ | exact h_.1))
            have z_HO162 := fun (h0_ : b 5 = true) (h1_ : b 19 = false) => (show Kd.R (Kd.int .u8) 5 w30 w.heap.size (fun k_ => (w.heap.size ≤ k_)) v161 t160 from by first | exact (Kd.R_elder' (by (with_reducible repeat (first | apply ra_ | apply rn_ | apply rd_)); exact (Q_HO162 h0_ h1_)) (Kd.R_base ho31) hb) | exact Kd.R_mono (Kd.R_elder' (by (with_reducible repeat (first | apply ra_ | apply rn_ | apply rd_)); exact (Q_HO162 h0_ h1_)) (Kd.R_base ho31) hb) (fun _ h_ => by first | trivial | exact h_ | exact h_.1))
            have z_HO165 := fun (h0_ : b 8 = true) (h1_ : b 19 = false) => (show Kd.R (Kd.int .u8) 5 w30 w.heap.size (fun k_ => (w.heap.size ≤ k_)) v164 t163 from by first | exact (Kd.R_elder' (by (with_reducible repeat (first | apply ra_ | apply rn_ | apply rd_)); exact (Q_HO165 h0_ h1_)) (Kd.R_base ho31) hb) | exact Kd.R_mono (Kd.R_elder' (by (with_reducible repeat (first | apply ra_ | apply rn_ | apply rd_)); exact (Q_HO165 h0_ h1_)) (Kd.R_base ho31) hb) (fun _ h_ => by first | trivial | exact h_ | exact h_.1))
            have z_HO168 := fun (h0_ : b 11 = true) (h1_ : b 19 = false) => (show Kd.R (Kd.int .u8) 5 w30 w.heap.size (fun k_ => (w.heap.size ≤ k_)) v167 t166 from by first | exact (Kd.R_elder' (by (with_reducible repeat (first | apply ra_ | apply rn_ | apply rd_)); exact (Q_HO168 h0_ h1_)) (Kd.R_base ho31) hb) | exact Kd.R_mono (Kd.R_elder' (by (with_reducible repeat (first | apply ra_ | apply rn_ | apply rd_)); exact (Q_HO168 h0_ h1_)) (Kd.R_base ho31) hb) (fun _ h_ => by first | trivial | exact h_ | exact h_.1))
            have z_HO171 := fun (h0_ : b 15 = true) (h1_ : b 19 = false) => (show Kd.R (Kd.int .u8) 5 w30 w.heap.size (fun k_ => (w.heap.size ≤ k_)) v170 t169 from by first | exact (Kd.R_elder' (by (with_reducible repeat (first | apply ra_ | apply rn_ | apply rd_)); exact (Q_HO171 h0_ h1_)) (Kd.R_base ho31) hb) | exact Kd.R_mono (Kd.R_elder' (by (with_reducible repeat (first | apply ra_ | apply rn_ | apply rd_)); exact (Q_HO171 h0_ h1_)) (Kd.R_base ho31) hb) (fun _ h_ => by first | trivial | exact h_ | exact h_.1))
            clear HO_157004
            clear BK156
            clear HB
            have HO_157004 := n0_
            have HO174 := n1_
            have BK156 := n2_
            have HB := n3_
            clear n0_ n1_ n2_ n3_
            clear hb ho31
            refine hK.out _ _ ⟨v158, v161, v164, v167, v170, v173, v176, v179, v182, m22_, (by rw [ha.out]; exact putSel_upk 11 hb_ rfl rfl rfl), (by first | ((with_reducible repeat (first | apply va_ | apply vn_ | apply vd_)); exact Kd.V_mono HO_157004.out (fun _ hk => by first | exact hk | exact hk.1 | exact hk.1.1 | exact hk.1.1.1 | exact trivial)) | exact Kd.V_mono (show Kd.V (Kd.int .u8) 5 w30 w.heap.size (fun k_ => (P0_4_ k_ ∨ w.heap.size ≤ k_) ∧ some k_ ≠ (v173 : Value).ownBlock ∧ k_ ≠ gb156) (.slice A0_4 l0_4.length c0_4) l0_4 from (by (with_reducible repeat (first | apply va_ | apply vn_ | apply vd_)); exact Kd.V_mono HO_157004.out (fun _ hk => ⟨hk.1.1, ⟨hk.2, hk.1.2⟩⟩))) (fun _ hk => ⟨hk.1, hk.2.2⟩)), (by (with_reducible repeat (first | refine kn_ ?_ _ | refine kd_ ?_ | refine ka_ ?_ _)); exact BK156.out), (by repeat (first | (with_reducible first | exact HB.out | apply ba_ | apply bn_ | apply bd_ | refine be_ ?_ GE156.out) | exact HB.out)), z_HO159, z_HO162, z_HO165, z_HO168, z_HO171, fun _ _ => (by (with_reducible repeat (first | apply ra_ | apply rn_ | apply rd_)); exact Kd.R_mono HO174.out (fun _ hk => hk.1)), fun h0_ => absurd ((hoff 19 (by kernel_rfl)).symm.trans h0_) (by decide), fun h0_ => absurd ((hoff 20 (by kernel_rfl)).symm.trans h0_) (by decide), fun h0_ => absurd ((hoff 21 (by kernel_rfl)).symm.trans h0_) (by decide), fun h0_ => absurd ((hoff 22 (by kernel_rfl)).symm.trans h0_) (by decide)⟩
          refine steps_cons ?_ ?_
          · rintro b a w' ⟨v158, v161, v164, v167, v170, v173, v176, v179, v182, m22_, ha, Q_HO_157004, Q_BK156, Q_HB, Q_HO159, Q_HO162, Q_HO165, Q_HO168, Q_HO171, Q_HO174, Q_HO177, Q_HO180, Q_HO183, Q_X22_⟩ hb_ hon hoff
            refine ⟨_, rfl, fun K hK => ?_⟩
            have e67 : a.tmps[67]? = some (.pointer (some ⟨gb156, 4, none⟩)) := by rw [ha]; exact (putSel_off rfl).trans rfl
            replace ha := am_ ha
            have HO_157004 := am_ Q_HO_157004
            have BK156 := am_ Q_BK156
            have HB := am_ Q_HB
            have hc0_ : w'.cell? ⟨gb156, 0, none⟩ = some (.int .i64 a0_0) := (blk_cell BK156.out 0).trans rfl
            have hc1_ : w'.cell? ⟨gb156, 1, none⟩ = some (.int .i64 a0_1) := (blk_cell BK156.out 1).trans rfl
            have hc2_ : w'.cell? ⟨gb156, 2, none⟩ = some (.int .i64 a0_2) := (blk_cell BK156.out 2).trans rfl
            have hc3_ : w'.cell? ⟨gb156, 3, none⟩ = some (.int .i64 a0_3) := (blk_cell BK156.out 3).trans rfl
            have hc4_ : w'.cell? ⟨gb156, 4, none⟩ = some (.slice A0_4 l0_4.length c0_4) := (blk_cell BK156.out 4).trans rfl
            refine value_ (w1 := w') (v := .slice A0_4 l0_4.length c0_4) (by rfl) rfl ?_ ?_
            · go_simp
              (try simp only [i64_w])
              try rfl
            refine hK.out _ _ ⟨v158, v161, v164, v167, v170, v173, v176, v179, v182, m22_, (by rw [ha.out]; exact putSel_upk 12 hb_ rfl rfl rfl), Q_HO_157004, Q_BK156, Q_HB, Q_HO159, Q_HO162, Q_HO165, Q_HO168, Q_HO171, Q_HO174, fun h0_ => absurd ((hoff 19 (by kernel_rfl)).symm.trans h0_) (by decide), fun h0_ => absurd ((hoff 20 (by kernel_rfl)).symm.trans h0_) (by decide), fun h0_ => absurd ((hoff 21 (by kernel_rfl)).symm.trans h0_) (by decide), fun h0_ => absurd ((hoff 22 (by kernel_rfl)).symm.trans h0_) (by decide)⟩
          refine steps_cons ?_ ?_
          · rintro b a w' ⟨v158, v161, v164, v167, v170, v173, v176, v179, v182, m22_, ha, Q_HO_157004, Q_BK156, Q_HB, Q_HO159, Q_HO162, Q_HO165, Q_HO168, Q_HO171, Q_HO174, Q_HO177, Q_HO180, Q_HO183, Q_X22_⟩ hb_ hon hoff
            refine ⟨_, rfl, fun K hK => ?_⟩
            have e52 : a.tmps[52]? = some (v158) := by rw [ha]; exact putSel_on (e := (2, 52, v158)) 1 rfl rfl (hon 2 (by kernel_rfl)) rfl
            have e55 : a.tmps[55]? = some (v161) := by rw [ha]; exact putSel_on (e := (5, 55, v161)) 3 rfl rfl (hon 5 (by kernel_rfl)) rfl
            have e58 : a.tmps[58]? = some (v164) := by rw [ha]; exact putSel_on (e := (8, 58, v164)) 5 rfl rfl (hon 8 (by kernel_rfl)) rfl
            have e61 : a.tmps[61]? = some (v167) := by rw [ha]; exact putSel_on (e := (11, 61, v167)) 7 rfl rfl (hon 11 (by kernel_rfl)) rfl
            have e65 : a.tmps[65]? = some (v170) := by rw [ha]; exact putSel_on (e := (15, 65, v170)) 10 rfl rfl (hon 15 (by kernel_rfl)) rfl
            have e66 : a.tmps[66]? = some (v173) := by rw [ha]; exact putSel_on (e := (16, 66, v173)) 11 rfl rfl (hon 16 (by kernel_rfl)) rfl
            have e68 : a.tmps[68]? = some (.slice A0_4 l0_4.length c0_4) := by rw [ha]; exact putSel_on (e := (18, 68, .slice A0_4 l0_4.length c0_4)) 12 rfl rfl (hon 18 (by kernel_rfl)) rfl
            replace ha := am_ ha
            have HO_157004 := am_ Q_HO_157004
            have BK156 := am_ Q_BK156
            have HB := am_ Q_HB
            have HO159 := am_ (Q_HO159 (hon 2 (by kernel_rfl)) hb_)
            have HO162 := am_ (Q_HO162 (hon 5 (by kernel_rfl)) hb_)
            have HO165 := am_ (Q_HO165 (hon 8 (by kernel_rfl)) hb_)
            have HO168 := am_ (Q_HO168 (hon 11 (by kernel_rfl)) hb_)
            have HO171 := am_ (Q_HO171 (hon 15 (by kernel_rfl)) hb_)
            have HO174 := am_ (Q_HO174 (hon 16 (by kernel_rfl)) hb_)
            obtain ⟨Ao38, co38, eo38⟩ := Kd.R_slice HO159.out
            (first | subst eo38 | (injection eo38 with f1_ f2_ f3_; have f4_ := f1_.symm; have f5_ := f3_.symm; clear f1_ f2_ f3_; subst f4_; subst f5_))
            obtain ⟨Ao39, co39, eo39⟩ := Kd.R_slice HO162.out
            (first | subst eo39 | (injection eo39 with f1_ f2_ f3_; have f4_ := f1_.symm; have f5_ := f3_.symm; clear f1_ f2_ f3_; subst f4_; subst f5_))
            obtain ⟨Ao40, co40, eo40⟩ := Kd.R_slice HO165.out
            (first | subst eo40 | (injection eo40 with f1_ f2_ f3_; have f4_ := f1_.symm; have f5_ := f3_.symm; clear f1_ f2_ f3_; subst f4_; subst f5_))
            obtain ⟨Ao41, co41, eo41⟩ := Kd.R_slice HO168.out
            (first | subst eo41 | (injection eo41 with f1_ f2_ f3_; have f4_ := f1_.symm; have f5_ := f3_.symm; clear f1_ f2_ f3_; subst f4_; subst f5_))
            obtain ⟨Ao42, co42, eo42⟩ := Kd.R_slice HO171.out
            (first | subst eo42 | (injection eo42 with f1_ f2_ f3_; have f4_ := f1_.symm; have f5_ := f3_.symm; clear f1_ f2_ f3_; subst f4_; subst f5_))
            obtain ⟨Ao43, co43, eo43⟩ := Kd.R_slice HO174.out
            (first | subst eo43 | (injection eo43 with f1_ f2_ f3_; have f4_ := f1_.symm; have f5_ := f3_.symm; clear f1_ f2_ f3_; subst f4_; subst f5_))
            refine Kd.N_lit_step (Kd.slice 5 (Kd.int .u8)) _ 27 ?hg (N' := 69) ?hd (xs := ([t157, t160, t163, t166, t169, y172, l0_4] : List (List Int))) (inner := [.slice Ao38 t157.length co38, .slice Ao39 t160.length co39, .slice Ao40 t163.length co40, .slice Ao41 t166.length co41, .slice Ao42 t169.length co42, .slice Ao43 y172.length co43, .slice A0_4 l0_4.length c0_4]) (ok := (fun k_ => (P0_4_ k_ ∨ w.heap.size ≤ k_) ∧ k_ ≠ gb156)) (okp := (fun k_ => (P0_4_ k_ ∨ w.heap.size ≤ k_) ∧ k_ ≠ gb156)) ?hr ?hp (fun _ hk => hk) ((show ∀ k_, w'.heap.size ≤ k_ → (fun k_ => (P0_4_ k_ ∨ w.heap.size ≤ k_) ∧ k_ ≠ gb156) k_ from fun k_ hk => ⟨(.inr (Nat.le_trans (bz_ (by repeat (first | (with_reducible first | exact HB.out | apply ba_ | apply bn_ | apply bd_ | refine be_ ?_ GE156.out) | exact HB.out))) hk)), Kd.freshB (g := gb156) (o := .cells #[.int .i64 a0_0, .int .i64 a0_1, .int .i64 a0_2, .int .i64 a0_3, .slice A0_4 l0_4.length c0_4] 29 (0, 0)) (by (with_reducible repeat (first | refine kn_ ?_ _ | refine kd_ ?_ | refine ka_ ?_ _)); exact BK156.out) k_ hk⟩) _ (Nat.le_refl _)) (Below.refl _ _) (Nat.le_refl _) (by simp) ?_; (case hd => rfl); (case hg => rfl); (case hr => first | (go_simp; done) | (go_simp; rfl)); (case hp => exact (Reps.one (show Kd.FK (Kd.slice 5 (Kd.int .u8)) _ _ t157 [.slice Ao38 t157.length co38] from (Kd.FK_slice_mk (Kd.R_reads' (Kd.R_mono (ok' := (fun k_ => (P0_4_ k_ ∨ w.heap.size ≤ k_) ∧ k_ ≠ gb156)) (Kd.R_types (HO159.out) BK156.out (by decide)) (fun k_ hk => ⟨(by first | exact .inr hk.1.1 | exact .inr hk.1.1 | exact .inr hk.1 | exact .inr hk), hk.2⟩))).2.1 (Kd.R_F (Kd.R_mono (ok' := (fun k_ => (P0_4_ k_ ∨ w.heap.size ≤ k_) ∧ k_ ≠ gb156)) (Kd.R_types (HO159.out) BK156.out (by decide)) (fun k_ hk => ⟨(by first | exact .inr hk.1.1 | exact .inr hk.1.1 | exact .inr hk.1 | exact .inr hk), hk.2⟩))))) (Reps.one (show Kd.FK (Kd.slice 5 (Kd.int .u8)) _ _ t160 [.slice Ao39 t160.length co39] from (Kd.FK_slice_mk (Kd.R_reads' (Kd.R_mono (ok' := (fun k_ => (P0_4_ k_ ∨ w.heap.size ≤ k_) ∧ k_ ≠ gb156)) (Kd.R_types (HO162.out) BK156.out (by decide)) (fun k_ hk => ⟨(by first | exact .inr hk.1.1 | exact .inr hk.1.1 | exact .inr hk.1 | exact .inr hk), hk.2⟩))).2.1 (Kd.R_F (Kd.R_mono (ok' := (fun k_ => (P0_4_ k_ ∨ w.heap.size ≤ k_) ∧ k_ ≠ gb156)) (Kd.R_types (HO162.out) BK156.out (by decide)) (fun k_ hk => ⟨(by first | exact .inr hk.1.1 | exact .inr hk.1.1 | exact .inr hk.1 | exact .inr hk), hk.2⟩))))) (Reps.one (show Kd.FK (Kd.slice 5 (Kd.int .u8)) _ _ t163 [.slice Ao40 t163.length co40] from (Kd.FK_slice_mk (Kd.R_reads' (Kd.R_mono (ok' := (fun k_ => (P0_4_ k_ ∨ w.heap.size ≤ k_) ∧ k_ ≠ gb156)) (Kd.R_types (HO165.out) BK156.out (by decide)) (fun k_ hk => ⟨(by first | exact .inr hk.1.1 | exact .inr hk.1.1 | exact .inr hk.1 | exact .inr hk), hk.2⟩))).2.1 (Kd.R_F (Kd.R_mono (ok' := (fun k_ => (P0_4_ k_ ∨ w.heap.size ≤ k_) ∧ k_ ≠ gb156)) (Kd.R_types (HO165.out) BK156.out (by decide)) (fun k_ hk => ⟨(by first | exact .inr hk.1.1 | exact .inr hk.1.1 | exact .inr hk.1 | exact .inr hk), hk.2⟩))))) (Reps.one (show Kd.FK (Kd.slice 5 (Kd.int .u8)) _ _ t166 [.slice Ao41 t166.length co41] from (Kd.FK_slice_mk (Kd.R_reads' (Kd.R_mono (ok' := (fun k_ => (P0_4_ k_ ∨ w.heap.size ≤ k_) ∧ k_ ≠ gb156)) (Kd.R_types (HO168.out) BK156.out (by decide)) (fun k_ hk => ⟨(by first | exact .inr hk.1.1 | exact .inr hk.1.1 | exact .inr hk.1 | exact .inr hk), hk.2⟩))).2.1 (Kd.R_F (Kd.R_mono (ok' := (fun k_ => (P0_4_ k_ ∨ w.heap.size ≤ k_) ∧ k_ ≠ gb156)) (Kd.R_types (HO168.out) BK156.out (by decide)) (fun k_ hk => ⟨(by first | exact .inr hk.1.1 | exact .inr hk.1.1 | exact .inr hk.1 | exact .inr hk), hk.2⟩))))) (Reps.one (show Kd.FK (Kd.slice 5 (Kd.int .u8)) _ _ t169 [.slice Ao42 t169.length co42] from (Kd.FK_slice_mk (Kd.R_reads' (Kd.R_mono (ok' := (fun k_ => (P0_4_ k_ ∨ w.heap.size ≤ k_) ∧ k_ ≠ gb156)) (Kd.R_types (HO171.out) BK156.out (by decide)) (fun k_ hk => ⟨(by first | exact .inr hk.1.1 | exact .inr hk.1.1 | exact .inr hk.1 | exact .inr hk), hk.2⟩))).2.1 (Kd.R_F (Kd.R_mono (ok' := (fun k_ => (P0_4_ k_ ∨ w.heap.size ≤ k_) ∧ k_ ≠ gb156)) (Kd.R_types (HO171.out) BK156.out (by decide)) (fun k_ hk => ⟨(by first | exact .inr hk.1.1 | exact .inr hk.1.1 | exact .inr hk.1 | exact .inr hk), hk.2⟩))))) (Reps.one (show Kd.FK (Kd.slice 5 (Kd.int .u8)) _ _ y172 [.slice Ao43 y172.length co43] from (Kd.FK_slice_mk (Kd.R_reads' (Kd.R_mono (ok' := (fun k_ => (P0_4_ k_ ∨ w.heap.size ≤ k_) ∧ k_ ≠ gb156)) (Kd.R_types (HO174.out) BK156.out (by decide)) (fun k_ hk => ⟨(by first | exact .inr hk.1.1 | exact .inr hk.1.1 | exact .inr hk.1 | exact .inr hk), hk.2⟩))).2.1 (Kd.R_F (Kd.R_mono (ok' := (fun k_ => (P0_4_ k_ ∨ w.heap.size ≤ k_) ∧ k_ ≠ gb156)) (Kd.R_types (HO174.out) BK156.out (by decide)) (fun k_ hk => ⟨(by first | exact .inr hk.1.1 | exact .inr hk.1.1 | exact .inr hk.1 | exact .inr hk), hk.2⟩))))) (Reps.one (show Kd.FK (Kd.slice 5 (Kd.int .u8)) _ _ l0_4 [.slice A0_4 l0_4.length c0_4] from (Kd.FK_slice_mk (Kd.V_reads' (Kd.V_mono (ok' := (fun k_ => (P0_4_ k_ ∨ w.heap.size ≤ k_) ∧ k_ ≠ gb156)) (HO_157004.out) (fun k_ hk => by first | exact ⟨hk.1, hk.2.2.2.2.2.2.2⟩ | exact hk | exact hk.1 | exact hk.1.1))).2.1 (Kd.V_F (Kd.V_mono (ok' := (fun k_ => (P0_4_ k_ ∨ w.heap.size ≤ k_) ∧ k_ ≠ gb156)) (HO_157004.out) (fun k_ hk => by first | exact ⟨hk.1, hk.2.2.2.2.2.2.2⟩ | exact hk | exact hk.1 | exact hk.1.1))))) (Reps.none _ _)))))))))
            intro v176 w44 ho45 hb hg_ hnew_
            clear hg_ hnew_
            (first | rw [← Ny175.out] at ho45 | (simp only [Int.reduceToNat] at ho45; rw [← Ny175.out] at ho45))
            have n0_ := am_ (Kd.V_elder' (by (with_reducible repeat (first | apply va_ | apply vn_ | apply vd_)); exact HO_157004.out) (Kd.N_base ho45) hb)
            have n1_ := am_ (Kd.N_lower ho45 (bz_ (by repeat (first | (with_reducible first | exact HB.out | apply ba_ | apply bn_ | apply bd_ | refine be_ ?_ GE156.out) | exact HB.out))))
            have n2_ := am_ (blk_below (g := gb156) (o := .cells #[.int .i64 a0_0, .int .i64 a0_1, .int .i64 a0_2, .int .i64 a0_3, .slice A0_4 l0_4.length c0_4] 29 (0, 0)) (by (with_reducible repeat (first | refine kn_ ?_ _ | refine kd_ ?_ | refine ka_ ?_ _)); exact BK156.out) hb)
            have n3_ := am_ (bt_ (by repeat (first | (with_reducible first | exact HB.out | apply ba_ | apply bn_ | apply bd_ | refine be_ ?_ GE156.out) | exact HB.out)) hb)
            clear HO_157004
            clear BK156
            clear HB
            clear HO159
            clear HO162
            clear HO165
            clear HO168
            clear HO171
            clear HO174
            have HO_157004 := n0_
            have HO177 := n1_
            have BK156 := n2_
            have HB := n3_
            clear n0_ n1_ n2_ n3_
            clear hb ho45
            refine hK.out _ _ ⟨.slice Ao38 t157.length co38, .slice Ao39 t160.length co39, .slice Ao40 t163.length co40, .slice Ao41 t166.length co41, .slice Ao42 t169.length co42, .slice Ao43 y172.length co43, v176, v179, v182, m22_, (by rw [ha.out]; exact putSel_upk 13 hb_ rfl rfl rfl), (by first | ((with_reducible repeat (first | apply va_ | apply vn_ | apply vd_)); exact Kd.V_mono HO_157004.out (fun _ hk => by first | exact hk | exact hk.1 | exact hk.1.1 | exact hk.1.1.1 | exact trivial)) | exact Kd.V_mono (show Kd.V (Kd.int .u8) 5 w44 w.heap.size (fun k_ => (P0_4_ k_ ∨ w.heap.size ≤ k_) ∧ some k_ ≠ (v176 : Value).ownBlock ∧ k_ ≠ gb156) (.slice A0_4 l0_4.length c0_4) l0_4 from (by (with_reducible repeat (first | apply va_ | apply vn_ | apply vd_)); exact Kd.V_mono HO_157004.out (fun _ hk => ⟨hk.1.1, ⟨hk.2, hk.1.2.2.2.2.2.2.2⟩⟩))) (fun _ hk => ⟨hk.1, hk.2.2⟩)), (by (with_reducible repeat (first | refine kn_ ?_ _ | refine kd_ ?_ | refine ka_ ?_ _)); exact BK156.out), (by repeat (first | (with_reducible first | exact HB.out | apply ba_ | apply bn_ | apply bd_ | refine be_ ?_ GE156.out) | exact HB.out)), fun _ h1_ => absurd ((up_self b 19).symm.trans h1_) (by decide), fun _ h1_ => absurd ((up_self b 19).symm.trans h1_) (by decide), fun _ h1_ => absurd ((up_self b 19).symm.trans h1_) (by decide), fun _ h1_ => absurd ((up_self b 19).symm.trans h1_) (by decide), fun _ h1_ => absurd ((up_self b 19).symm.trans h1_) (by decide), fun _ h1_ => absurd ((up_self b 19).symm.trans h1_) (by decide), fun _ => (by (with_reducible repeat (first | apply Kd.N_alloc | apply Kd.N_drewN | apply Kd.N_drew)); exact HO177.out), fun h0_ => absurd ((hoff 20 (by kernel_rfl)).symm.trans h0_) (by decide), fun h0_ => absurd ((hoff 21 (by kernel_rfl)).symm.trans h0_) (by decide), fun h0_ => absurd ((hoff 22 (by kernel_rfl)).symm.trans h0_) (by decide)⟩
          refine steps_cons ?_ ?_
          · rintro b a w' ⟨v158, v161, v164, v167, v170, v173, v176, v179, v182, m22_, ha, Q_HO_157004, Q_BK156, Q_HB, Q_HO159, Q_HO162, Q_HO165, Q_HO168, Q_HO171, Q_HO174, Q_HO177, Q_HO180, Q_HO183, Q_X22_⟩ hb_ hon hoff
            refine ⟨_, rfl, fun K hK => ?_⟩
            have e69 : a.tmps[69]? = some (v176) := by rw [ha]; exact putSel_on (e := (19, 69, v176)) 13 rfl rfl (hon 19 (by kernel_rfl)) rfl
            replace ha := am_ ha
            have HO_157004 := am_ Q_HO_157004
            have BK156 := am_ Q_BK156
            have HB := am_ Q_HB
            have HO177 := am_ (Q_HO177 (hon 19 (by kernel_rfl)))
            obtain ⟨Ao46, co46, eo46⟩ := Kd.N_slice HO177.out
            (first | subst eo46 | (injection eo46 with f1_ f2_ f3_; have f4_ := f1_.symm; have f5_ := f3_.symm; clear f1_ f2_ f3_; subst f4_; subst f5_))
            refine goes_ Try.func29 (by kernel_rfl) rfl #[.slice Ao46 y175.length co46] (by rfl) rfl rfl (by first | (simp only [List.map_toArray, List.map_cons, List.map_nil, Act.eval, Array.getD_eq_getD_getElem?, Option.getD_some, e69]; done) | (simp only [List.map_toArray, List.map_cons, List.map_nil, Act.eval, Array.getD_eq_getD_getElem?, Option.getD_some, e69]; rfl)) ?_
            with_reducible refine (field_Join.calls kj1 _ _ y175 t178 _ ?side1 ?side2 A27.out).mono ?_
            (case side1 => repeat (first | exact (Kd.N_reads' HO177.out).2.2 | (with_reducible refine ca_ ?_ _) | (with_reducible refine cn_ ?_ _) | (with_reducible refine cd_ ?_)))
            (case side2 => exact (Kd.N_reads' HO177.out).2.1)
            rintro e w47 ⟨v179, rfl, ho0, hb⟩
            refine ⟨_, rfl, ?_⟩
            have n0_ := am_ (Kd.V_elder' (by (with_reducible repeat (first | apply va_ | apply vn_ | apply vd_)); exact HO_157004.out) (Kd.R_base ho0) hb)
            have n1_ := am_ (Kd.N_elder' (by (with_reducible repeat (first | apply Kd.N_alloc | apply Kd.N_drewN | apply Kd.N_drew)); exact HO177.out) (Kd.R_base ho0) hb)
            have n2_ := am_ (Kd.R_lower (Kd.R_newM (M := fun k_ => (w.heap.size ≤ k_)) ho0 (bz_ (by repeat (first | (with_reducible first | exact HB.out | apply ba_ | apply bn_ | apply bd_ | refine be_ ?_ GE156.out) | exact HB.out))) (fun k_ h_ => h_)) (bz_ (by repeat (first | (with_reducible first | exact HB.out | apply ba_ | apply bn_ | apply bd_ | refine be_ ?_ GE156.out) | exact HB.out))))
            have n3_ := am_ (blk_below (g := gb156) (o := .cells #[.int .i64 a0_0, .int .i64 a0_1, .int .i64 a0_2, .int .i64 a0_3, .slice A0_4 l0_4.length c0_4] 29 (0, 0)) (by (with_reducible repeat (first | refine kn_ ?_ _ | refine kd_ ?_ | refine ka_ ?_ _)); exact BK156.out) hb)
            have n4_ := am_ (bt_ (by repeat (first | (with_reducible first | exact HB.out | apply ba_ | apply bn_ | apply bd_ | refine be_ ?_ GE156.out) | exact HB.out)) hb)
            clear HO_157004
            clear HO177
            clear BK156
            clear HB
            have HO_157004 := n0_
            have HO177 := n1_
            have HO180 := n2_
            have BK156 := n3_
            have HB := n4_
            clear n0_ n1_ n2_ n3_ n4_
            (try clear hb)
            (try clear hb2)
            (try clear hk)
            (try clear hi)
            (try clear ho0)
            refine hK.out _ _ ⟨v158, v161, v164, v167, v170, v173, .slice Ao46 y175.length co46, v179, v182, m22_, (by rw [ha.out]; exact putSel_upk 14 hb_ rfl rfl rfl), (by first | ((with_reducible repeat (first | apply va_ | apply vn_ | apply vd_)); exact Kd.V_mono HO_157004.out (fun _ hk => by first | exact hk | exact hk.1 | exact hk.1.1 | exact hk.1.1.1 | exact trivial)) | exact Kd.V_mono (show Kd.V (Kd.int .u8) 5 w47 w.heap.size (fun k_ => (P0_4_ k_ ∨ w.heap.size ≤ k_) ∧ some k_ ≠ (.slice Ao46 y175.length co46 : Value).ownBlock ∧ some k_ ≠ (v179 : Value).ownBlock ∧ k_ ≠ gb156) (.slice A0_4 l0_4.length c0_4) l0_4 from (by (with_reducible repeat (first | apply va_ | apply vn_ | apply vd_)); exact Kd.V_mono HO_157004.out (fun _ hk => ⟨hk.1.1, ⟨hk.1.2.1, ⟨hk.2, hk.1.2.2⟩⟩⟩))) (fun _ hk => ⟨hk.1, hk.2.2.2⟩)), (by (with_reducible repeat (first | refine kn_ ?_ _ | refine kd_ ?_ | refine ka_ ?_ _)); exact BK156.out), (by repeat (first | (with_reducible first | exact HB.out | apply ba_ | apply bn_ | apply bd_ | refine be_ ?_ GE156.out) | exact HB.out)), fun _ h1_ => absurd ((hon 19 (by kernel_rfl)).symm.trans h1_) (by decide), fun _ h1_ => absurd ((hon 19 (by kernel_rfl)).symm.trans h1_) (by decide), fun _ h1_ => absurd ((hon 19 (by kernel_rfl)).symm.trans h1_) (by decide), fun _ h1_ => absurd ((hon 19 (by kernel_rfl)).symm.trans h1_) (by decide), fun _ h1_ => absurd ((hon 19 (by kernel_rfl)).symm.trans h1_) (by decide), fun _ h1_ => absurd ((hon 19 (by kernel_rfl)).symm.trans h1_) (by decide), fun _ => (by first | ((with_reducible repeat (first | apply Kd.N_alloc | apply Kd.N_drewN | apply Kd.N_drew)); exact Kd.N_mono HO177.out (fun _ hk => by first | exact hk | exact hk.1 | exact hk.1.1 | exact hk.1.1.1 | exact trivial)) | exact Kd.N_mono (show Kd.N (Kd.slice 5 (Kd.int .u8)) 27 w47 w.heap.size (fun k_ => (P0_4_ k_ ∨ w.heap.size ≤ k_) ∧ some k_ ≠ (v179 : Value).ownBlock ∧ k_ ≠ gb156) (.slice Ao46 y175.length co46) y175 from (by (with_reducible repeat (first | apply Kd.N_alloc | apply Kd.N_drewN | apply Kd.N_drew)); exact Kd.N_mono HO177.out (fun _ hk => ⟨hk.1.1, ⟨hk.2, hk.1.2⟩⟩))) (fun _ hk => ⟨hk.1, hk.2.2⟩)), fun _ => (by (with_reducible repeat (first | apply ra_ | apply rn_ | apply rd_)); exact Kd.R_mono HO180.out (fun _ hk => hk.1)), fun h0_ => absurd ((hoff 21 (by kernel_rfl)).symm.trans h0_) (by decide), fun h0_ => absurd ((hoff 22 (by kernel_rfl)).symm.trans h0_) (by decide)⟩
          refine steps_cons ?_ ?_
          · rintro b a w' ⟨v158, v161, v164, v167, v170, v173, v176, v179, v182, m22_, ha, Q_HO_157004, Q_BK156, Q_HB, Q_HO159, Q_HO162, Q_HO165, Q_HO168, Q_HO171, Q_HO174, Q_HO177, Q_HO180, Q_HO183, Q_X22_⟩ hb_ hon hoff
            refine ⟨_, rfl, fun K hK => ?_⟩
            have e70 : a.tmps[70]? = some (v179) := by rw [ha]; exact putSel_on (e := (20, 70, v179)) 14 rfl rfl (hon 20 (by kernel_rfl)) rfl
            replace ha := am_ ha
            have HO_157004 := am_ Q_HO_157004
            have BK156 := am_ Q_BK156
            have HB := am_ Q_HB
            have HO177 := am_ (Q_HO177 (hon 19 (by kernel_rfl)))
            have HO180 := am_ (Q_HO180 (hon 20 (by kernel_rfl)))
            obtain ⟨Ao48, co48, eo48⟩ := Kd.R_slice HO180.out
            (first | subst eo48 | (injection eo48 with f1_ f2_ f3_; have f4_ := f1_.symm; have f5_ := f3_.symm; clear f1_ f2_ f3_; subst f4_; subst f5_))
            refine goes_ Try.func28 (by kernel_rfl) rfl #[.slice Ao48 t178.length co48] (by rfl) rfl rfl (by first | (simp only [List.map_toArray, List.map_cons, List.map_nil, Act.eval, Array.getD_eq_getD_getElem?, Option.getD_some, e70]; done) | (simp only [List.map_toArray, List.map_cons, List.map_nil, Act.eval, Array.getD_eq_getD_getElem?, Option.getD_some, e70]; rfl)) ?_
            with_reducible refine (sealed_Seal.calls _ _ t178 t181 _ ?side1 ?side2 A28.out).mono ?_
            (case side1 => repeat (first | exact (Kd.R_reads' HO180.out).2.2 | (with_reducible refine ca_ ?_ _) | (with_reducible refine cn_ ?_ _) | (with_reducible refine cd_ ?_)))
            (case side2 => exact (Kd.R_reads' HO180.out).2.1)
            rintro e w49 ⟨v182, rfl, ho0, hb⟩
            refine ⟨_, rfl, ?_⟩
            have n0_ := am_ (Kd.V_elder' (by (with_reducible repeat (first | apply va_ | apply vn_ | apply vd_)); exact HO_157004.out) (Kd.R_base ho0) hb)
            have n1_ := am_ (Kd.N_elder' (by (with_reducible repeat (first | apply Kd.N_alloc | apply Kd.N_drewN | apply Kd.N_drew)); exact HO177.out) (Kd.R_base ho0) hb)
            have n2_ := am_ (Kd.R_elder' (by (with_reducible repeat (first | apply ra_ | apply rn_ | apply rd_)); exact HO180.out) (Kd.R_base ho0) hb)
            have n3_ := am_ (Kd.R_lower (Kd.R_new' (Kd.R_newM (M := fun k_ => (w.heap.size ≤ k_)) ho0 (bz_ (by repeat (first | (with_reducible first | exact HB.out | apply ba_ | apply bn_ | apply bd_ | refine be_ ?_ GE156.out) | exact HB.out))) (fun k_ h_ => h_)) (Kd.R_lt (by (with_reducible repeat (first | apply ra_ | apply rn_ | apply rd_)); exact HO180.out))) (bz_ (by repeat (first | (with_reducible first | exact HB.out | apply ba_ | apply bn_ | apply bd_ | refine be_ ?_ GE156.out) | exact HB.out))))
            have n4_ := am_ (blk_below (g := gb156) (o := .cells #[.int .i64 a0_0, .int .i64 a0_1, .int .i64 a0_2, .int .i64 a0_3, .slice A0_4 l0_4.length c0_4] 29 (0, 0)) (by (with_reducible repeat (first | refine kn_ ?_ _ | refine kd_ ?_ | refine ka_ ?_ _)); exact BK156.out) hb)
            have n5_ := am_ (bt_ (by repeat (first | (with_reducible first | exact HB.out | apply ba_ | apply bn_ | apply bd_ | refine be_ ?_ GE156.out) | exact HB.out)) hb)
            clear HO_157004
            clear HO177
            clear HO180
            clear BK156
            clear HB
            have HO_157004 := n0_
            have HO177 := n1_
            have HO180 := n2_
            have HO183 := n3_
            have BK156 := n4_
            have HB := n5_
            clear n0_ n1_ n2_ n3_ n4_ n5_
            (try clear hb)
            (try clear hb2)
            (try clear hk)
            (try clear hi)
            (try clear ho0)
            refine hK.out _ _ ⟨v158, v161, v164, v167, v170, v173, v176, .slice Ao48 t178.length co48, v182, m22_, (by rw [ha.out]; exact putSel_upk 15 hb_ rfl rfl rfl), (by first | ((with_reducible repeat (first | apply va_ | apply vn_ | apply vd_)); exact Kd.V_mono HO_157004.out (fun _ hk => by first | exact hk | exact hk.1 | exact hk.1.1 | exact hk.1.1.1 | exact trivial)) | exact Kd.V_mono (show Kd.V (Kd.int .u8) 5 w49 w.heap.size (fun k_ => (P0_4_ k_ ∨ w.heap.size ≤ k_) ∧ some k_ ≠ (v176 : Value).ownBlock ∧ some k_ ≠ (.slice Ao48 t178.length co48 : Value).ownBlock ∧ some k_ ≠ (v182 : Value).ownBlock ∧ k_ ≠ gb156) (.slice A0_4 l0_4.length c0_4) l0_4 from (by (with_reducible repeat (first | apply va_ | apply vn_ | apply vd_)); exact Kd.V_mono HO_157004.out (fun _ hk => ⟨hk.1.1, ⟨hk.1.2.1, ⟨hk.1.2.2.1, ⟨hk.2, hk.1.2.2.2⟩⟩⟩⟩))) (fun _ hk => ⟨hk.1, hk.2.2.2.2⟩)), (by (with_reducible repeat (first | refine kn_ ?_ _ | refine kd_ ?_ | refine ka_ ?_ _)); exact BK156.out), (by repeat (first | (with_reducible first | exact HB.out | apply ba_ | apply bn_ | apply bd_ | refine be_ ?_ GE156.out) | exact HB.out)), fun _ h1_ => absurd ((hon 19 (by kernel_rfl)).symm.trans h1_) (by decide), fun _ h1_ => absurd ((hon 19 (by kernel_rfl)).symm.trans h1_) (by decide), fun _ h1_ => absurd ((hon 19 (by kernel_rfl)).symm.trans h1_) (by decide), fun _ h1_ => absurd ((hon 19 (by kernel_rfl)).symm.trans h1_) (by decide), fun _ h1_ => absurd ((hon 19 (by kernel_rfl)).symm.trans h1_) (by decide), fun _ h1_ => absurd ((hon 19 (by kernel_rfl)).symm.trans h1_) (by decide), fun _ => (by first | ((with_reducible repeat (first | apply Kd.N_alloc | apply Kd.N_drewN | apply Kd.N_drew)); exact Kd.N_mono HO177.out (fun _ hk => by first | exact hk | exact hk.1 | exact hk.1.1 | exact hk.1.1.1 | exact trivial)) | exact Kd.N_mono (show Kd.N (Kd.slice 5 (Kd.int .u8)) 27 w49 w.heap.size (fun k_ => (P0_4_ k_ ∨ w.heap.size ≤ k_) ∧ some k_ ≠ (.slice Ao48 t178.length co48 : Value).ownBlock ∧ some k_ ≠ (v182 : Value).ownBlock ∧ k_ ≠ gb156) v176 y175 from (by (with_reducible repeat (first | apply Kd.N_alloc | apply Kd.N_drewN | apply Kd.N_drew)); exact Kd.N_mono HO177.out (fun _ hk => ⟨hk.1.1, ⟨hk.1.2.1, ⟨hk.2, hk.1.2.2⟩⟩⟩))) (fun _ hk => ⟨hk.1, hk.2.2.2⟩)), fun _ => (by first | ((with_reducible repeat (first | apply ra_ | apply rn_ | apply rd_)); exact Kd.R_mono HO180.out (fun _ hk => by first | exact hk | exact hk.1 | exact hk.1.1 | exact hk.1.1.1 | exact trivial)) | exact Kd.R_mono (show Kd.R (Kd.int .u8) 5 w49 w.heap.size (fun k_ => (w.heap.size ≤ k_) ∧ some k_ ≠ (v182 : Value).ownBlock) (.slice Ao48 t178.length co48) t178 from (by (with_reducible repeat (first | apply ra_ | apply rn_ | apply rd_)); exact HO180.out)) (fun _ hk => hk.1)), fun _ => (by first | ((with_reducible repeat (first | apply ra_ | apply rn_ | apply rd_)); exact Kd.R_mono HO183.out (fun _ hk => by first | exact hk | exact hk.1 | exact hk.1.1 | exact hk.1.1.1 | exact trivial)) | exact Kd.R_mono (show Kd.R (Kd.int .u8) 5 w49 w.heap.size (fun k_ => (w.heap.size ≤ k_) ∧ some k_ ≠ (.slice Ao48 t178.length co48 : Value).ownBlock) v182 t181 from (by (with_reducible repeat (first | apply ra_ | apply rn_ | apply rd_)); exact Kd.R_mono HO183.out (fun _ hk => ⟨hk.1.1, hk.2⟩))) (fun _ hk => hk.1)), fun h0_ => absurd ((hoff 22 (by kernel_rfl)).symm.trans h0_) (by decide)⟩
          refine steps_cons ?_ ?_
          · rintro b a w' ⟨v158, v161, v164, v167, v170, v173, v176, v179, v182, m22_, ha, Q_HO_157004, Q_BK156, Q_HB, Q_HO159, Q_HO162, Q_HO165, Q_HO168, Q_HO171, Q_HO174, Q_HO177, Q_HO180, Q_HO183, Q_X22_⟩ hb_ hon hoff
            refine ⟨_, rfl, fun K hK => ?_⟩
            have e71 : a.tmps[71]? = some (v182) := by rw [ha]; exact putSel_on (e := (21, 71, v182)) 15 rfl rfl (hon 21 (by kernel_rfl)) rfl
            replace ha := am_ ha
            have HO_157004 := am_ Q_HO_157004
            have BK156 := am_ Q_BK156
            have HB := am_ Q_HB
            have HO177 := am_ (Q_HO177 (hon 19 (by kernel_rfl)))
            have HO180 := am_ (Q_HO180 (hon 20 (by kernel_rfl)))
            have HO183 := am_ (Q_HO183 (hon 21 (by kernel_rfl)))
            refine value_ (w1 := w') (v := v182) (by rfl) rfl ?_ ?_
            · go_simp
              (try simp only [i64_w])
              try rfl
            refine hK.out _ _ ⟨v158, v161, v164, v167, v170, v173, v176, v179, v182, (v182), (by rw [ha.out]; exact putSel_upk 16 hb_ rfl rfl rfl), Q_HO_157004, Q_BK156, Q_HB, fun _ h1_ => absurd ((hon 19 (by kernel_rfl)).symm.trans h1_) (by decide), fun _ h1_ => absurd ((hon 19 (by kernel_rfl)).symm.trans h1_) (by decide), fun _ h1_ => absurd ((hon 19 (by kernel_rfl)).symm.trans h1_) (by decide), fun _ h1_ => absurd ((hon 19 (by kernel_rfl)).symm.trans h1_) (by decide), fun _ h1_ => absurd ((hon 19 (by kernel_rfl)).symm.trans h1_) (by decide), fun _ h1_ => absurd ((hon 19 (by kernel_rfl)).symm.trans h1_) (by decide), Q_HO177, Q_HO180, Q_HO183, fun _ => rfl⟩
          refine steps_cons ?_ ?_
          · rintro b a w' ⟨v158, v161, v164, v167, v170, v173, v176, v179, v182, m22_, ha, Q_HO_157004, Q_BK156, Q_HB, Q_HO159, Q_HO162, Q_HO165, Q_HO168, Q_HO171, Q_HO174, Q_HO177, Q_HO180, Q_HO183, Q_X22_⟩ hb_ hon hoff
            refine ⟨_, rfl, fun K hK => ?_⟩
            replace ha := am_ ha
            have HO_157004 := am_ Q_HO_157004
            have BK156 := am_ Q_BK156
            have HB := am_ Q_HB
            have HO177 := am_ (Q_HO177 (hon 19 (by kernel_rfl)))
            have HO180 := am_ (Q_HO180 (hon 20 (by kernel_rfl)))
            have HO183 := am_ (Q_HO183 (hon 21 (by kernel_rfl)))
            refine value_ (w1 := w') (v := .bool true) (by rfl) rfl ?_ ?_
            · go_simp
              (try simp only [i64_w])
              try rfl
            refine hK.out _ _ ⟨v158, v161, v164, v167, v170, v173, v176, v179, v182, m22_, (by rw [ha.out]; exact putSel_upk 17 hb_ rfl rfl rfl), Q_HO_157004, Q_BK156, Q_HB, fun _ h1_ => absurd ((hon 19 (by kernel_rfl)).symm.trans h1_) (by decide), fun _ h1_ => absurd ((hon 19 (by kernel_rfl)).symm.trans h1_) (by decide), fun _ h1_ => absurd ((hon 19 (by kernel_rfl)).symm.trans h1_) (by decide), fun _ h1_ => absurd ((hon 19 (by kernel_rfl)).symm.trans h1_) (by decide), fun _ h1_ => absurd ((hon 19 (by kernel_rfl)).symm.trans h1_) (by decide), fun _ h1_ => absurd ((hon 19 (by kernel_rfl)).symm.trans h1_) (by decide), Q_HO177, Q_HO180, Q_HO183, Q_X22_⟩
          exact steps_nil
        rintro b a w49 hall ⟨v158, v161, v164, v167, v170, v173, v176, v179, v182, m22_, ha, Q_HO_157004, Q_BK156, Q_HB, Q_HO159, Q_HO162, Q_HO165, Q_HO168, Q_HO171, Q_HO174, Q_HO177, Q_HO180, Q_HO183, Q_X22_⟩
        clear BK156 HB HO_157004
        have hb1_ := hall 1 (by kernel_rfl)
        have hb2_ := hall 2 (by kernel_rfl)
        have hb4_ := hall 4 (by kernel_rfl)
        have hb5_ := hall 5 (by kernel_rfl)
        have hb7_ := hall 7 (by kernel_rfl)
        have hb8_ := hall 8 (by kernel_rfl)
        have hb10_ := hall 10 (by kernel_rfl)
        have hb11_ := hall 11 (by kernel_rfl)
        have hb13_ := hall 13 (by kernel_rfl)
        have hb14_ := hall 14 (by kernel_rfl)
        have hb15_ := hall 15 (by kernel_rfl)
        have hb16_ := hall 16 (by kernel_rfl)
        have hb18_ := hall 18 (by kernel_rfl)
        have hb19_ := hall 19 (by kernel_rfl)
        have hb20_ := hall 20 (by kernel_rfl)
        have hb21_ := hall 21 (by kernel_rfl)
        have hb22_ := hall 22 (by kernel_rfl)
        have hb23_ := hall 23 (by kernel_rfl)
        subst ha
        obtain rfl := Q_X22_ hb22_
        simp only [putSel, hb1_, hb2_, hb4_, hb5_, hb7_, hb8_, hb10_, hb11_, hb13_, hb14_, hb15_, hb16_, hb18_, hb19_, hb20_, hb21_, hb22_, hb23_, if_true, Act.put, List.setIfInBounds_toArray, List.set_cons_zero, List.set_cons_succ]
        have HO_157004 := am_ Q_HO_157004
        clear Q_HO_157004
        have BK156 := am_ Q_BK156
        clear Q_BK156
        have HB := am_ Q_HB
        clear Q_HB
        clear Q_HO159
        clear Q_HO162
        clear Q_HO165
        clear Q_HO168
        clear Q_HO171
        clear Q_HO174
        have HO177 := am_ (Q_HO177 hb19_)
        clear Q_HO177
        have HO180 := am_ (Q_HO180 hb20_)
        clear Q_HO180
        have HO183 := am_ (Q_HO183 hb21_)
        clear Q_HO183
        clear hall hb1_ hb2_ hb4_ hb5_ hb7_ hb8_ hb10_ hb11_ hb13_ hb14_ hb15_ hb16_ hb18_ hb19_ hb20_ hb21_ hb22_ hb23_
        try go_wp2
        go_ret2
        exact ⟨_, by first | rfl | (simp [errW_none, errW_some] <;> rfl) | (simp [*, errW_none, errW_some] <;> rfl), by (with_reducible repeat (first | apply ra_ | apply rn_ | apply rd_)); exact Kd.R_mono HO183.out (fun _ hk => by first | exact hk.1 | exact hk | exact hk.1 | exact hk.1.1), by repeat (first | (with_reducible first | exact HB.out | apply ba_ | apply bn_ | apply bd_ | refine be_ ?_ GE156.out) | exact HB.out)⟩

end Go.Proofs.Ytaiaackeljlbfaa.QB
