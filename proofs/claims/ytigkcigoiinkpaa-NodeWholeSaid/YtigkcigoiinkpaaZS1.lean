import Derived.Test.YtigkcigoiinkpaaZS0
import Derived.Test.YtigkcigoiinkpaaZH2
set_option linter.unusedVariables false
set_option linter.unusedSimpArgs false
set_option maxRecDepth 10000
set_option maxHeartbeats 0
namespace Go.Proofs.Ytigkcigoiinkpaa.Am
open Go Go.RowKit Go.Proofs
theorem sumL_byt (l : List Int) : Byt (sumL l) := fun x h => QC.sumB_byt l x h
theorem sumL_len (l : List Int) : (sumL l).length = 4 := rfl
def padL (l : List Int) : List Int := l.take (min l.length 124) ++ (List.replicate 124 (0 : Int)).drop (min l.length 124)
theorem padL_len (l : List Int) : (padL l).length = 124 := by
  unfold padL
  rw [List.length_append, List.length_take, List.length_drop, List.length_replicate]
  omega
theorem padL_byt {l : List Int} (h : Byt l) : Byt (padL l) := byt_append (byt_take h _) (byt_drop (byt_replicate _) _)
def sealL (l : List Int) : List Int := padL l ++ sumL (padL l)
theorem sealL_len (l : List Int) : (sealL l).length = 128 := by unfold sealL; rw [List.length_append, padL_len, sumL_len]
theorem sealL_byt {l : List Int} (h : Byt l) : Byt (sealL l) := byt_append (padL_byt h) (sumL_byt _)
noncomputable def Z1 : Env := ⟨Try.prog, fun f ds out => (f = 82 ∧ Sp_sealed_sum ds out), Es, fun _ => false⟩
theorem Z1_sp : ∀ f ds out, Z1.Sp f ds out → Ent Z1.P f ∧ Good Z1.P f (fun a b => a = ds ∧ b = out) := by
  rintro f ds out ⟨rfl, h⟩
  exact ⟨ent_sealed_sum, good_sealed_sum.one h⟩
theorem Z1_ok : Z1.Ok := ⟨Z1_sp, Es_ok⟩
theorem pad_eq (l : List Int) : (l.map mB).take (min l.length 124) ++ (List.replicate 124 (D.v (.int .u8 0))).drop (min l.length 124) = (padL l).map mB := by
  rw [padL, List.map_append, List.map_take, List.map_drop, List.map_replicate]; rfl
def Sp_sealed_Seal (ds : List D) (out : Out) : Prop := ∃ l : List Int, ds = [.list (l.map mB)] ∧ l.length ≤ 9223372036854775807 ∧ out = ⟨.sl 0 1 0 128 true, [(0, .row 5 1 ((sealL l).map mB))]⟩
theorem good_sealed_Seal : Good Try.prog 72 Sp_sealed_Seal := by
  refine good_body (E := Z1) (nt := 12) (rs := #[.tmp 2]) Try.func72 rfl rfl rfl ?_
  rintro ds out ⟨l, rfl, hl, rfl⟩
  refine ⟨by simp, ?_⟩
  have h1 := padL_len l
  have hpe := pad_eq l
  have hm1 : ((l.map mB).take (min l.length 124)).length = min l.length 124 := by rw [List.length_take, List.length_map]; omega
  have htp : ((padL l).map mB).take 124 = (padL l).map mB := List.take_of_length_le (by simp [h1])
  have hts : ((sumL (padL l)).map mB).take 4 = (sumL (padL l)).map mB := List.take_of_length_le (by simp [sumL_len])
  have hsl := sumL_len (padL l)
  repeat' first
 | (refine AW.seq ?_)
 | (refine AW.block ?_)
 | (refine AW.regl Z1_ok [0, 2, 3] ?_)
 | (refine then_n ?_)
 | (refine then_r ?_)
 | (refine then_x ?_)
 | (refine block_x ?_)
 | (refine block_o (by decide) ?_)
 | (refine block_n ?_)
 | (refine block_r ?_)
 | (refine AW.skip ?_)
 | (refine AW.ret ?_)
 | (refine AW.exit ?_)
 | (refine AW.cond rfl ?_ ?_ <;> (intro hc; first | cases hc | ((try rw [hc]); (try simp only [stH] at hc); (try (exfalso; omega)))))
 | ((first
       | (refine awl_none rfl fun K hK => ?_)
       | (refine awl_nil ?_)
       | (refine awl_some rfl rfl (Nat.le_of_ble_eq_true rfl) rfl rfl ?_ ?_ <;> (intro hc; first | cases hc | ((try rw [hc]); (try simp only [stH] at hc); (try (exfalso; omega)))) <;> (try intro K hK))
       | (refine awl_skip rfl rfl (Nat.le_of_ble_eq_true rfl) rfl rfl ?_))
    all_goals first
      | (show Awl _ _ _ _ _; simp only [St.upd, St.put, List.nil_append, List.cons_append, List.singleton_append, List.append_nil])
      | (simp (disch := omega) only [go_sem, Int.reduceEq, ↓reduceIte, reduceCtorEq, Nat.reduceEqDiff, Nat.reduceLT, Nat.reduceLeDiff, Nat.reduceAdd, Nat.reduceSub, Nat.reduceMul, Int.reduceToNat, Int.reduceLE, Int.reduceLT, Z1, Sp_sealed_sum, List.length_replicate, all_B, hm1, hpe, htp, hts, h1, hsl, mB_inj]
         (try ((repeat' first | (refine And.intro ?_ ?_) | (intro hc; first | cases hc | ((try rw [hc]); (try simp only [stH] at hc); (try (exfalso; omega)))))
               all_goals first | (refine hK _ _ ?_; clear hK K; simp only [St.upd, St.put, List.nil_append, List.cons_append, List.singleton_append, List.append_nil]) | exact hK | omega))))
  (refine Ends.of (nm [(0, 11)]) (by first | exact .inl rfl | exact .inr rfl) ?_; simp (disch := omega) only [go_sem, Int.reduceEq, ↓reduceIte, reduceCtorEq, Nat.reduceEqDiff, Nat.reduceLT, Nat.reduceLeDiff, Nat.reduceAdd, Nat.reduceSub, Nat.reduceMul, Int.reduceToNat, Int.reduceLE, Int.reduceLT, Z1, Sp_sealed_sum, sealL, List.map_append])
theorem ent_sealed_Seal : Ent Try.prog 72 := ⟨_, Try.func72, rfl, by decide⟩
noncomputable def Z2 : Env := ⟨Try.prog, fun f ds out => (f = 82 ∧ Sp_sealed_sum ds out) ∨ (f = 68 ∧ Sp_bytes_Equal ds out), Es, fun _ => false⟩
theorem Z2_sp : ∀ f ds out, Z2.Sp f ds out → Ent Z2.P f ∧ Good Z2.P f (fun a b => a = ds ∧ b = out) := by
  rintro f ds out (⟨rfl, h⟩ | ⟨rfl, h⟩)
  · exact ⟨ent_sealed_sum, good_sealed_sum.one h⟩
  · exact ⟨ent_bytes_Equal, good_bytes_Equal.one h⟩
theorem Z2_ok : Z2.Ok := ⟨Z2_sp, Es_ok⟩
def isOpen (l : List Int) : Prop := l.length = 128 ∧ sumL (l.take 124) = l.drop 124
instance (l : List Int) : Decidable (isOpen l) := inferInstanceAs (Decidable (_ ∧ _))
def openOut (l : List Int) : Out := if isOpen l then ⟨.tup [.sl 0 1 0 124 true, .d (.v (.bool true))], [(0, .row 5 1 ((l.take 124).map mB))]⟩ else ⟨.tup [.nil, .d (.v (.bool false))], []⟩
def Sp_sealed_Open (ds : List D) (out : Out) : Prop := ∃ l : List Int, ds = [.list (l.map mB)] ∧ Byt l ∧ l.length ≤ 9223372036854775807 ∧ out = openOut l
def cc_sealed_Open_1 : List (List (Option Bool)) := [[some false, some false, some false, some false, some false, some false, some false, some false, some false, some false, some false, some false], [some true, some false, some false, some false, some false, some false, some false, some false, some false, some false, some false, some false], [some true, some true, some false, some false, some false, some false, some false, some false, some false, some false, some false, some false], [some true, some true, some true, some false, some false, some false, some false, some false, some false, some false, some false, some false], [some true, some true, some true, some true, some false, some false, some false, none, none, some false, some false, some false], [some true, some true, some true, some true, some true, some false, some false, none, none, some false, some false, some false], [some true, some true, some true, some true, some true, some true, some false, none, none, some false, some false, some false], [some true, some true, some true, some true, none, none, none, some false, some false, some false, some false, some false], [some true, some true, some true, some true, none, none, none, some true, some false, some false, some false, some false], [some true, some true, some true, some true, some true, some true, some true, some true, some true, some false, some false, some false], [some true, some true, some true, some true, some true, some true, some true, some true, some true, some true, some false, some false], [some true, some true, some true, some true, some true, some true, some true, some true, some true, some true, some true, some false]]
theorem good_sealed_Open : Good Try.prog 81 Sp_sealed_Open := by
  refine good_body (E := Z2) (nt := 19) (rs := #[.tmp 2, .tmp 3]) Try.func81 rfl rfl rfl ?_
  rintro ds out ⟨l, rfl, hb, hl, rfl⟩
  refine ⟨by simp, ?_⟩
  by_cases h8 : l.length = 128
  case neg =>
    have hz : openOut l = ⟨.tup [.nil, .d (.v (.bool false))], []⟩ := by rw [openOut, if_neg fun h => h8 h.1]
    have hd8 : decide (¬ (l.length : Int) = 128) = true := decide_eq_true (by omega)
    repeat' first
 | (refine AW.seq ?_)
 | (refine AW.block ?_)
 | (refine AW.regl Z2_ok [0, 2, 3, 15] ?_)
 | (refine AW.regc (id := 1) Z2_ok follows [0, 1, 3, 7, 15, 31, 63, 15, 143, 511, 1023, 2047] (by kernel_rfl) [0, 2, 3, 15] ?_)
 | (refine then_n ?_)
 | (refine then_r ?_)
 | (refine then_x ?_)
 | (refine block_x ?_)
 | (refine block_o (by decide) ?_)
 | (refine block_n ?_)
 | (refine block_r ?_)
 | (refine AW.skip ?_)
 | (refine AW.ret ?_)
 | (refine AW.exit ?_)
 | (refine AW.cond rfl ?_ ?_ <;> (intro hc; first | cases hc | ((try rw [hc]); (try simp only [stH] at hc); (try (exfalso; omega)))))
 | ((first
       | (refine awl_none rfl fun K hK => ?_)
       | (refine awl_nil ?_)
       | (refine awl_some rfl rfl (Nat.le_of_ble_eq_true rfl) rfl rfl ?_ ?_ <;> (intro hc; first | cases hc | ((try rw [hc]); (try simp only [stH] at hc); (try (exfalso; omega)))) <;> (try intro K hK))
       | (refine awl_skip rfl rfl (Nat.le_of_ble_eq_true rfl) rfl rfl ?_)
       | (refine awc_none rfl fun K hK => ?_)
       | (refine awc_some rfl rfl (Nat.le_of_ble_eq_true rfl) rfl rfl ?_ ?_ <;> (intro hc; first | cases hc | ((try rw [hc]); (try simp only [stH] at hc); (try (exfalso; omega)))) <;> (try intro K hK))
       | exact each_nil
       | (refine each_some rfl rfl (Nat.le_of_ble_eq_true rfl) (fun bb => by (simp only [Sg3, St.updIf, St.upd, St.put, ifc_nil, gt_ifc, gt, List.nil_append, List.cons_append, Option.some.injEq, reduceCtorEq, Nat.reduceEqDiff, ↓reduceIte, ite_self]; try rfl)) rfl ?_ ?_ <;> first | (show Each _ _ _ _ _ _ _ _; skip) | (rw [if_pos rfl]; intro bb K hK) | (rw [if_neg (by decide)]; exact ⟨rfl, rfl⟩))
       | (refine each_none rfl ?_ ?_ <;> (try intro bb K hK))
       | (refine awc_leaf [some 4, some 5, some 6, some 7, some 8, some 9, some 10, some 11, some 12, some 13, some 14, some 15] cc_sealed_Open_1 rfl (by kernel_rfl) (by kernel_rfl) ?_ ?_))
    all_goals first
      | (show Awl _ _ _ _ _; simp only [St.upd, St.put, List.nil_append, List.cons_append, List.singleton_append, List.append_nil])
      | (show Awc _ _ _ _ _ _; simp only [St.upd, St.put, List.nil_append, List.cons_append, List.singleton_append, List.append_nil])
      | (show Each _ _ _ _ _ _ _ _; skip)
      | (simp (disch := omega) only [go_sem, Int.reduceEq, ↓reduceIte, reduceCtorEq, Nat.reduceEqDiff, Nat.reduceLT, Nat.reduceLeDiff, Nat.reduceAdd, Nat.reduceSub, Nat.reduceMul, Int.reduceToNat, Int.reduceLE, Int.reduceLT, Z2, Sp_sealed_sum, Sp_bytes_Equal, hd8, Sg3, St.updIf, ifc_nil, gt_ifc, go_ifc, ite_self, Option.none_or, Option.some_or]
         (try ((repeat' first | (refine And.intro ?_ ?_) | (intro hc; first | cases hc | ((try rw [hc]); (try simp only [stH] at hc); (try (exfalso; omega)))))
               all_goals first | (refine hK _ _ ?_; clear hK K; simp only [St.upd, St.put, List.nil_append, List.cons_append, List.singleton_append, List.append_nil]) | exact hK | omega))))
    (refine Ends.of (nm []) (by first | exact .inl rfl | exact .inr rfl) ?_; simp (disch := omega) only [go_sem, Int.reduceEq, ↓reduceIte, reduceCtorEq, Nat.reduceEqDiff, Nat.reduceLT, Nat.reduceLeDiff, Nat.reduceAdd, Nat.reduceSub, Nat.reduceMul, Int.reduceToNat, Int.reduceLE, Int.reduceLT, Z2, Sp_sealed_sum, Sp_bytes_Equal, hz])
  have hd8 : decide (¬ ((128 : Nat) : Int) = 128) = false := rfl
  have hb1 : Byt (l.drop 124) = True := eq_true (byt_drop hb _)
  have hb2 : Byt (sumL (l.take 124)) = True := eq_true (sumL_byt _)
  have hlt : (l.take 124).length = 124 := by rw [List.length_take]; omega
  have hts : ((sumL (l.take 124)).map mB).take 4 = (sumL (l.take 124)).map mB := List.take_of_length_le (by simp [sumL_len])
  have htl : (l.map mB).take 128 = l.map mB := List.take_of_length_le (by simp [h8])
  by_cases hs : sumL (l.take 124) = l.drop 124
  · have hz : openOut l = ⟨.tup [.sl 0 1 0 124 true, .d (.v (.bool true))], [(0, .row 5 1 ((l.take 124).map mB))]⟩ := by rw [openOut, if_pos ⟨h8, hs⟩]
    have hd : decide (sumL (l.take 124) = l.drop 124) = true := decide_eq_true hs
    repeat' first
 | (refine AW.seq ?_)
 | (refine AW.block ?_)
 | (refine AW.regl Z2_ok [0, 2, 3, 15] ?_)
 | (refine AW.regc (id := 1) Z2_ok follows [0, 1, 3, 7, 15, 31, 63, 15, 143, 511, 1023, 2047] (by kernel_rfl) [0, 2, 3, 15] ?_)
 | (refine then_n ?_)
 | (refine then_r ?_)
 | (refine then_x ?_)
 | (refine block_x ?_)
 | (refine block_o (by decide) ?_)
 | (refine block_n ?_)
 | (refine block_r ?_)
 | (refine AW.skip ?_)
 | (refine AW.ret ?_)
 | (refine AW.exit ?_)
 | (refine AW.cond rfl ?_ ?_ <;> (intro hc; first | cases hc | ((try rw [hc]); (try simp only [stH] at hc); (try (exfalso; omega)))))
 | ((first
       | (refine awl_none rfl fun K hK => ?_)
       | (refine awl_nil ?_)
       | (refine awl_some rfl rfl (Nat.le_of_ble_eq_true rfl) rfl rfl ?_ ?_ <;> (intro hc; first | cases hc | ((try rw [hc]); (try simp only [stH] at hc); (try (exfalso; omega)))) <;> (try intro K hK))
       | (refine awl_skip rfl rfl (Nat.le_of_ble_eq_true rfl) rfl rfl ?_)
       | (refine awc_none rfl fun K hK => ?_)
       | (refine awc_some rfl rfl (Nat.le_of_ble_eq_true rfl) rfl rfl ?_ ?_ <;> (intro hc; first | cases hc | ((try rw [hc]); (try simp only [stH] at hc); (try (exfalso; omega)))) <;> (try intro K hK))
       | exact each_nil
       | (refine each_some rfl rfl (Nat.le_of_ble_eq_true rfl) (fun bb => by (simp only [Sg3, St.updIf, St.upd, St.put, ifc_nil, gt_ifc, gt, List.nil_append, List.cons_append, Option.some.injEq, reduceCtorEq, Nat.reduceEqDiff, ↓reduceIte, ite_self]; try rfl)) rfl ?_ ?_ <;> first | (show Each _ _ _ _ _ _ _ _; skip) | (rw [if_pos rfl]; intro bb K hK) | (rw [if_neg (by decide)]; exact ⟨rfl, rfl⟩))
       | (refine each_none rfl ?_ ?_ <;> (try intro bb K hK))
       | (refine awc_leaf [some 4, some 5, some 6, some 7, some 8, some 9, some 10, some 11, some 12, some 13, some 14, some 15] cc_sealed_Open_1 rfl (by kernel_rfl) (by kernel_rfl) ?_ ?_))
    all_goals first
      | (show Awl _ _ _ _ _; simp only [St.upd, St.put, List.nil_append, List.cons_append, List.singleton_append, List.append_nil])
      | (show Awc _ _ _ _ _ _; simp only [St.upd, St.put, List.nil_append, List.cons_append, List.singleton_append, List.append_nil])
      | (show Each _ _ _ _ _ _ _ _; skip)
      | (simp (disch := omega) only [go_sem, Int.reduceEq, ↓reduceIte, reduceCtorEq, Nat.reduceEqDiff, Nat.reduceLT, Nat.reduceLeDiff, Nat.reduceAdd, Nat.reduceSub, Nat.reduceMul, Int.reduceToNat, Int.reduceLE, Int.reduceLT, Z2, Sp_sealed_sum, Sp_bytes_Equal, hd8, sumL_len, all_B, hb1, hb2, hlt, hts, htl, h8, hd, mB_inj, cutOk, map_take', map_drop', Sg3, St.updIf, ifc_nil, gt_ifc, go_ifc, ite_self, Option.none_or, Option.some_or]
         (try ((repeat' first | (refine And.intro ?_ ?_) | (intro hc; first | cases hc | ((try rw [hc]); (try simp only [stH] at hc); (try (exfalso; omega)))))
               all_goals first | (refine hK _ _ ?_; clear hK K; simp only [St.upd, St.put, List.nil_append, List.cons_append, List.singleton_append, List.append_nil]) | exact hK | omega))))
    (refine Ends.of (nm [(0, 18)]) (by first | exact .inl rfl | exact .inr rfl) ?_; simp (disch := omega) only [go_sem, Int.reduceEq, ↓reduceIte, reduceCtorEq, Nat.reduceEqDiff, Nat.reduceLT, Nat.reduceLeDiff, Nat.reduceAdd, Nat.reduceSub, Nat.reduceMul, Int.reduceToNat, Int.reduceLE, Int.reduceLT, Z2, Sp_sealed_sum, Sp_bytes_Equal, hz])
  · have hz : openOut l = ⟨.tup [.nil, .d (.v (.bool false))], []⟩ := by rw [openOut, if_neg fun h => hs h.2]
    have hd : decide (sumL (l.take 124) = l.drop 124) = false := decide_eq_false hs
    repeat' first
 | (refine AW.seq ?_)
 | (refine AW.block ?_)
 | (refine AW.regl Z2_ok [0, 2, 3, 15] ?_)
 | (refine AW.regc (id := 1) Z2_ok follows [0, 1, 3, 7, 15, 31, 63, 15, 143, 511, 1023, 2047] (by kernel_rfl) [0, 2, 3, 15] ?_)
 | (refine then_n ?_)
 | (refine then_r ?_)
 | (refine then_x ?_)
 | (refine block_x ?_)
 | (refine block_o (by decide) ?_)
 | (refine block_n ?_)
 | (refine block_r ?_)
 | (refine AW.skip ?_)
 | (refine AW.ret ?_)
 | (refine AW.exit ?_)
 | (refine AW.cond rfl ?_ ?_ <;> (intro hc; first | cases hc | ((try rw [hc]); (try simp only [stH] at hc); (try (exfalso; omega)))))
 | ((first
       | (refine awl_none rfl fun K hK => ?_)
       | (refine awl_nil ?_)
       | (refine awl_some rfl rfl (Nat.le_of_ble_eq_true rfl) rfl rfl ?_ ?_ <;> (intro hc; first | cases hc | ((try rw [hc]); (try simp only [stH] at hc); (try (exfalso; omega)))) <;> (try intro K hK))
       | (refine awl_skip rfl rfl (Nat.le_of_ble_eq_true rfl) rfl rfl ?_)
       | (refine awc_none rfl fun K hK => ?_)
       | (refine awc_some rfl rfl (Nat.le_of_ble_eq_true rfl) rfl rfl ?_ ?_ <;> (intro hc; first | cases hc | ((try rw [hc]); (try simp only [stH] at hc); (try (exfalso; omega)))) <;> (try intro K hK))
       | exact each_nil
       | (refine each_some rfl rfl (Nat.le_of_ble_eq_true rfl) (fun bb => by (simp only [Sg3, St.updIf, St.upd, St.put, ifc_nil, gt_ifc, gt, List.nil_append, List.cons_append, Option.some.injEq, reduceCtorEq, Nat.reduceEqDiff, ↓reduceIte, ite_self]; try rfl)) rfl ?_ ?_ <;> first | (show Each _ _ _ _ _ _ _ _; skip) | (rw [if_pos rfl]; intro bb K hK) | (rw [if_neg (by decide)]; exact ⟨rfl, rfl⟩))
       | (refine each_none rfl ?_ ?_ <;> (try intro bb K hK))
       | (refine awc_leaf [some 4, some 5, some 6, some 7, some 8, some 9, some 10, some 11, some 12, some 13, some 14, some 15] cc_sealed_Open_1 rfl (by kernel_rfl) (by kernel_rfl) ?_ ?_))
    all_goals first
      | (show Awl _ _ _ _ _; simp only [St.upd, St.put, List.nil_append, List.cons_append, List.singleton_append, List.append_nil])
      | (show Awc _ _ _ _ _ _; simp only [St.upd, St.put, List.nil_append, List.cons_append, List.singleton_append, List.append_nil])
      | (show Each _ _ _ _ _ _ _ _; skip)
      | (simp (disch := omega) only [go_sem, Int.reduceEq, ↓reduceIte, reduceCtorEq, Nat.reduceEqDiff, Nat.reduceLT, Nat.reduceLeDiff, Nat.reduceAdd, Nat.reduceSub, Nat.reduceMul, Int.reduceToNat, Int.reduceLE, Int.reduceLT, Z2, Sp_sealed_sum, Sp_bytes_Equal, hd8, sumL_len, all_B, hb1, hb2, hlt, hts, htl, h8, hd, mB_inj, cutOk, map_take', map_drop', Sg3, St.updIf, ifc_nil, gt_ifc, go_ifc, ite_self, Option.none_or, Option.some_or]
         (try ((repeat' first | (refine And.intro ?_ ?_) | (intro hc; first | cases hc | ((try rw [hc]); (try simp only [stH] at hc); (try (exfalso; omega)))))
               all_goals first | (refine hK _ _ ?_; clear hK K; simp only [St.upd, St.put, List.nil_append, List.cons_append, List.singleton_append, List.append_nil]) | exact hK | omega))))
    (refine Ends.of (nm []) (by first | exact .inl rfl | exact .inr rfl) ?_; simp (disch := omega) only [go_sem, Int.reduceEq, ↓reduceIte, reduceCtorEq, Nat.reduceEqDiff, Nat.reduceLT, Nat.reduceLeDiff, Nat.reduceAdd, Nat.reduceSub, Nat.reduceMul, Int.reduceToNat, Int.reduceLE, Int.reduceLT, Z2, Sp_sealed_sum, Sp_bytes_Equal, hz])
theorem ent_sealed_Open : Ent Try.prog 81 := ⟨_, Try.func81, rfl, by decide⟩
end Go.Proofs.Ytigkcigoiinkpaa.Am
