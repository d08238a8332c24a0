import Derived.Test.YtaiaackeljlbfaaZQJ
import Derived.Test.YtaiaackeljlbfaaZZf
set_option linter.unusedVariables false
set_option linter.unusedSimpArgs false
set_option maxRecDepth 10000
set_option maxHeartbeats 0
namespace Go.Proofs.Ytaiaackeljlbfaa.Am
open Go Go.RowKit Go.Proofs
def celK (b : List Int) (P : Nat) (j : Nat) : Ce := ⟨7, 3, (j : Int), (P : Int), (b.drop (112 * j)).take 112⟩
theorem spl_cel (b : List Int) : spl 7 3 b (prt b) = (List.range (prt b)).map (celK b (prt b)) := rfl
theorem pick_cel {b : List Int} {P : Nat} {m : List Ce} (hm : ∀ c ∈ m, ∃ j, c = celK b P j) {i : Nat} (hi : celK b P i ∈ m) : pick m (i : Int) = some ((b.drop (112 * i)).take 112) := by
  unfold pick
  cases h : m.find? fun c => decide (c.pt = (i : Int)) with
  | none =>
    rw [List.find?_eq_none] at h
    exact absurd (show decide ((celK b P i).pt = (i : Int)) = true from decide_eq_true rfl) (h _ hi)
  | some c =>
    obtain ⟨j, rfl⟩ := hm c (List.mem_of_find?_eq_some h)
    have := List.find?_some h
    simp only [celK, decide_eq_true_eq, Int.natCast_inj] at this
    subst this
    rfl
theorem gath_cel {b : List Int} {P : Nat} {m : List Ce} (hm : ∀ c ∈ m, ∃ j, c = celK b P j) : ∀ n, (∀ i, i < n → celK b P i ∈ m) → gath m n = some (b.take (112 * n))
  | 0, _ => by simp [gath]
  | n + 1, h => by
    simp only [gath, gath_cel hm n fun i hi => h i (by omega), pick_cel hm (h n (by omega)), Option.map_some, Option.some.injEq]
    rw [show 112 * (n + 1) = 112 * n + 112 by omega, List.take_add]
theorem goodM_cel {b : List Int} {P : Nat} {m : List Ce} (hm : ∀ c ∈ m, ∃ j, c = celK b P j) (h1 : 1 ≤ P) (h2 : P ≤ 64) : goodM m := by
  have hp : m ≠ [] → pz m = P := fun h0 => by
    cases m with
    | nil => exact absurd rfl h0
    | cons a r => obtain ⟨j, rfl⟩ := hm a (List.mem_cons_self ..); rfl
  intro c hc
  rw [hp (List.ne_nil_of_mem hc)]
  obtain ⟨j, rfl⟩ := hm c hc
  exact ⟨rfl, by omega, by omega⟩
theorem pz_cel {b : List Int} {P : Nat} {m : List Ce} (hm : ∀ c ∈ m, ∃ j, c = celK b P j) (h0 : m ≠ []) : pz m = P := by
  cases m with
  | nil => exact absurd rfl h0
  | cons a r => obtain ⟨j, rfl⟩ := hm a (List.mem_cons_self ..); rfl
def othK (c : Ce) : Ce := { smallE c with lf := 8 }
def xK (b : List Int) (P t : Nat) (o : List Ce) (n : Nat) : List Ce := (List.range n).flatMap fun j => celK b P ((j + t) % P) :: (if j < o.length then [othK (o.getD j default)] else [])
theorem xK_succ (b : List Int) (P t : Nat) (o : List Ce) (n : Nat) : xK b P t o (n + 1) = xK b P t o n ++ (celK b P ((n + t) % P) :: (if n < o.length then [othK (o.getD n default)] else [])) := by
  simp [xK, List.range_succ]
theorem xK_len (b : List Int) (P t : Nat) (o : List Ce) (n : Nat) : (xK b P t o n).length ≤ 2 * n := by
  induction n with
  | zero => simp [xK]
  | succ n ih => rw [xK_succ, List.length_append, List.length_cons]; split <;> simp <;> omega
theorem xK_mem {b : List Int} {P t : Nat} {o : List Ce} {n : Nat} {c : Ce} (h : c ∈ xK b P t o n) : (∃ j, j < n ∧ c = celK b P ((j + t) % P)) ∨ ∃ y, c = othK y := by
  simp only [xK, List.mem_flatMap, List.mem_range, List.mem_cons] at h
  obtain ⟨j, hj, h | h⟩ := h
  · exact .inl ⟨j, hj, h⟩
  · split at h
    · rw [List.mem_singleton] at h; exact .inr ⟨_, h⟩
    · cases h
theorem xK_dt {b : List Int} {P t : Nat} {o : List Ce} {n : Nat} : ∀ c ∈ xK b P t o n, c.dt.length ≤ 1000000 := by
  intro c hc
  rcases xK_mem hc with ⟨j, _, rfl⟩ | ⟨y, rfl⟩
  · simp only [celK, List.length_take]; omega
  · simp only [othK, smallE, List.length_take]; omega
theorem othK_not (y : Ce) (num : Int) : isMine 7 num (othK y) = false := by simp [isMine, othK]
theorem mine_xK (b : List Int) (P t : Nat) (o : List Ce) (n : Nat) : mine 7 3 (xK b P t o n) = (List.range n).map fun j => celK b P ((j + t) % P) := by
  induction n with
  | zero => rfl
  | succ n ih =>
    rw [xK_succ]
    unfold mine at ih ⊢
    rw [List.filter_append, ih, List.range_succ, List.map_append]
    congr 1
    rw [List.filter_cons, if_pos (by simp [isMine, celK])]
    split
    · rw [List.filter_cons, if_neg (by rw [othK_not]; simp)]; rfl
    · rfl
theorem mine_xK4 (b : List Int) (P t : Nat) (o : List Ce) (n : Nat) : mine 7 4 (xK b P t o n) = [] := by
  unfold mine
  rw [List.filter_eq_nil_iff]
  intro c hc
  rcases xK_mem hc with ⟨j, _, rfl⟩ | ⟨y, rfl⟩
  · simp [isMine, celK]
  · rw [othK_not]; simp
theorem rot_all {P t i : Nat} (h : i < P) : ∃ j, j < P ∧ (j + t) % P = i := by
  refine ⟨(i + (P - t % P)) % P, Nat.mod_lt _ (by omega), ?_⟩
  have h1 : t % P < P := Nat.mod_lt _ (by omega)
  rw [Nat.mod_add_mod]
  have h2 : i + (P - t % P) + t = i + P * (t / P + 1) := by
    have := Nat.div_add_mod t P
    rw [Nat.mul_add, Nat.mul_one]; omega
  rw [h2, Nat.add_mul_mod_self_left, Nat.mod_eq_of_lt h]
theorem join_x {b : List Int} {t : Nat} {o : List Ce} (hP : prt b ≤ 64) : joinL 7 3 (xK b (prt b) t o (prt b)) = some b := by
  have hP1 : 1 ≤ prt b := by unfold prt; omega
  have hPg : b.length ≤ 112 * prt b := by unfold prt; omega
  obtain ⟨P, hPP⟩ : ∃ P, P = prt b := ⟨_, rfl⟩
  rw [← hPP] at hP hP1 hPg ⊢
  have hmem : ∀ c ∈ (List.range P).map (fun j => celK b P ((j + t) % P)), ∃ j, c = celK b P j := fun c hc => by
    obtain ⟨j, _, rfl⟩ := List.mem_map.1 hc; exact ⟨_, rfl⟩
  have hall : ∀ i, i < P → celK b P i ∈ (List.range P).map (fun j => celK b P ((j + t) % P)) := fun i hi => by
    obtain ⟨j, hj, e⟩ := rot_all (t := t) hi
    exact List.mem_map.2 ⟨j, List.mem_range.2 hj, by rw [e]⟩
  have hne : (List.range P).map (fun j => celK b P ((j + t) % P)) ≠ [] := List.ne_nil_of_mem (hall 0 (by omega))
  unfold joinL
  rw [mine_xK, if_neg hne, if_pos (goodM_cel hmem hP1 hP), pz_cel hmem hne, Int.toNat_natCast, gath_cel hmem P hall, List.take_of_length_le hPg]
theorem join_x4 (b : List Int) (P t : Nat) (o : List Ce) (n : Nat) : joinL 7 4 (xK b P t o n) = none := by
  unfold joinL; rw [mine_xK4, if_pos rfl]
def yK (b : List Int) (P k : Nat) (n : Nat) : List Ce := ((List.range n).filter fun j => decide (j ≠ k)).map (celK b P)
theorem yK_succ (b : List Int) (P k n : Nat) : yK b P k (n + 1) = yK b P k n ++ (if n ≠ k then [celK b P n] else []) := by
  unfold yK
  rw [List.range_succ, List.filter_append, List.map_append]
  congr 1
  by_cases h : n = k <;> simp [h]
theorem yK_len (b : List Int) (P k n : Nat) : (yK b P k n).length ≤ n := by
  unfold yK; rw [List.length_map]; exact Nat.le_trans (List.length_filter_le _ _) (by simp)
theorem yK_dt {b : List Int} {P k n : Nat} : ∀ c ∈ yK b P k n, c.dt.length ≤ 1000000 := by
  intro c hc
  obtain ⟨j, _, rfl⟩ := List.mem_map.1 hc
  simp only [celK, List.length_take]; omega
theorem mine_yK (b : List Int) (P k n : Nat) : mine 7 3 (yK b P k n) = yK b P k n := by
  unfold mine
  rw [List.filter_eq_self]
  intro c hc
  obtain ⟨j, _, rfl⟩ := List.mem_map.1 hc
  simp [isMine, celK]
theorem join_y {b : List Int} {k : Nat} (hk : k < prt b) (hP : prt b ≤ 64) : joinL 7 3 (yK b (prt b) k (prt b)) = none := by
  obtain ⟨P, hPP⟩ : ∃ P, P = prt b := ⟨_, rfl⟩
  rw [← hPP] at hP hk ⊢
  unfold joinL
  rw [mine_yK]
  by_cases hne : yK b P k P = []
  · rw [if_pos hne]
  have hmem : ∀ c ∈ yK b P k P, ∃ j, c = celK b P j := fun c hc => by
    obtain ⟨j, _, rfl⟩ := List.mem_map.1 hc; exact ⟨_, rfl⟩
  have hno : pick (yK b P k P) (k : Int) = none := by
    unfold pick
    rw [Option.map_eq_none_iff, List.find?_eq_none]
    intro c hc
    obtain ⟨j, hj, rfl⟩ := List.mem_map.1 hc
    have hjk : j ≠ k := by simpa using (List.mem_filter.1 hj).2
    intro h
    have h2 : (j : Int) = (k : Int) := of_decide_eq_true h
    omega
  rw [if_neg hne, if_pos (goodM_cel hmem (by omega) hP), pz_cel hmem hne, Int.toNat_natCast]
  refine gath_none (k := k + 1) hk ?_
  simp only [gath]
  cases gath (yK b P k P) k with
  | none => rfl
  | some x => simp [hno]
noncomputable def K1 : Env := ⟨Try.prog, fun f ds out => (f = 16 ∧ Sp_overdubkeep_Cut_byte ds out) ∨ (f = 23 ∧ Sp_overdubkeep_Copy_byte ds out), Es, fun _ => false, fun f vs lent out => False, fun f => none, fun f => false, false⟩
theorem K1_sp : ∀ f ds out, K1.Sp f ds out → Ent K1.P f ∧ Good K1.P f (fun a b => a = ds ∧ b = out) := by
  rintro f ds out (⟨rfl, h⟩ | ⟨rfl, h⟩)
  · exact ⟨ent_overdubkeep_Cut_byte, good_overdubkeep_Cut_byte.one h⟩
  · exact ⟨ent_overdubkeep_Copy_byte, good_overdubkeep_Copy_byte.one h⟩
theorem K1_sm : ∀ f vs lent out, K1.Sm f vs lent out → Ent K1.P f ∧ GoodM K1.P f (fun a l b => a = vs ∧ l = lent ∧ b = out) := fun _ _ _ _ h => h.elim
theorem K1_ok : K1.Ok := ⟨K1_sp, Es_ok, K1_sm⟩
def Sp_overdubkeep_CutCopy_byte (ds : List D) (out : Out) : Prop := ∃ (l : List Int) (n : Int), ds = [.list (l.map mB), .v (.int .i64 n)] ∧ 0 ≤ n ∧ n < 1000000 ∧ l.length ≤ 9223372036854775807 ∧ out = ⟨.sl 0 1 0 (l.take n.toNat).length true, [(0, .row 5 1 ((l.take n.toNat).map mB))]⟩
theorem good_overdubkeep_CutCopy_byte : Good Try.prog 13 Sp_overdubkeep_CutCopy_byte := by
  refine good_body (E := K1) (nt := 9) (rs := #[.tmp 4]) Try.func13 rfl rfl rfl ?_
  rintro ds out ⟨l, n, rfl, h0, hn, hl, rfl⟩
  refine ⟨by simp, ?_⟩
  have hlen : (l.take n.toNat).length < 100000000000000 := by rw [List.length_take]; omega
  have hlen2 : min n.toNat l.length < 100000000000000 := by omega
  repeat' first
 | refine AW.seq ?_
 | refine AW.block ?_
 | refine AW.regl K1_ok [0, 1, 4] ?_
 | refine then_n ?_
 | refine then_r ?_
 | refine then_x ?_
 | refine block_x ?_
 | refine block_o (by decide) ?_
 | refine block_n ?_
 | refine block_r ?_
 | refine AW.skip ?_
 | refine AW.ret ?_
 | refine AW.exit ?_
 | refine AW.cond rfl ?_ ?_
 | refine awl_none rfl ?_
 | refine awl_nil2 ?_
 | (refine fun (hc : _ = _) => ?_; first | cases hc | ((try rw [hc]); (try simp only [stH] at hc); (try (exfalso; omega))); (try (show Awl _ _ _ _ _; simp only [stU])))
 | ((first | refine fun (K : V → List _ → _) hK => ?_ | refine fun (_ : V → V) => ?_); simp (disch := omega) only [go_sem, Int.reduceEq, ↓reduceIte, reduceCtorEq, Nat.reduceEqDiff, Nat.reduceLT, Nat.reduceLeDiff, Nat.reduceAdd, Nat.reduceSub, Nat.reduceMul, Int.reduceToNat, Int.reduceLE, Int.reduceLT, K1, Sp_overdubkeep_Cut_byte, Sp_overdubkeep_Copy_byte, all_B, mB_inj, hlen, hlen2, h0, hl]; (try (revert hK; intro hK; (repeat' first | (refine And.intro ?_ ?_) | (intro hc; first | cases hc | ((try rw [hc]); (try simp only [stH] at hc); (try (exfalso; omega))))); all_goals first | (refine hK _ _ ?_; clear hK K; simp only [stU]) | exact hK | omega)))
  (refine Ends.of (nm [(0, 8)]) (by first | exact .inl rfl | exact .inr rfl) ?_; simp (disch := omega) only [go_sem, Int.reduceEq, ↓reduceIte, reduceCtorEq, Nat.reduceEqDiff, Nat.reduceLT, Nat.reduceLeDiff, Nat.reduceAdd, Nat.reduceSub, Nat.reduceMul, Int.reduceToNat, Int.reduceLE, Int.reduceLT, K1, Sp_overdubkeep_Cut_byte, Sp_overdubkeep_Copy_byte])
theorem ent_overdubkeep_CutCopy_byte : Ent Try.prog 13 := ⟨_, Try.func13, rfl, by decide⟩
noncomputable def QK : Env := ⟨Try.prog, fun f ds out => (f = 13 ∧ Sp_overdubkeep_CutCopy_byte ds out) ∨ (f = 10 ∧ Sp_overdubkeep_Within ds out) ∨ (f = 11 ∧ Sp_cells_Split ds out) ∨ (f = 17 ∧ Sp_overdublaw15_small ds out) ∨ (f = 18 ∧ Sp_cells_Join ds out) ∨ (f = 20 ∧ Sp_overdubkeep_Same_byte ds out) ∨ (f = 12 ∧ Sp_overdublaw15_wakes ds out), Es, fun _ => false, fun f vs lent out => False, fun f => none, fun f => false, false⟩
theorem QK_sp : ∀ f ds out, QK.Sp f ds out → Ent QK.P f ∧ Good QK.P f (fun a b => a = ds ∧ b = out) := by
  rintro f ds out (⟨rfl, h⟩ | ⟨rfl, h⟩ | ⟨rfl, h⟩ | ⟨rfl, h⟩ | ⟨rfl, h⟩ | ⟨rfl, h⟩ | ⟨rfl, h⟩)
  · exact ⟨ent_overdubkeep_CutCopy_byte, good_overdubkeep_CutCopy_byte.one h⟩
  · exact ⟨ent_overdubkeep_Within, good_overdubkeep_Within.one h⟩
  · exact ⟨ent_cells_Split, good_cells_Split.one h⟩
  · exact ⟨ent_overdublaw15_small, good_overdublaw15_small.one h⟩
  · exact ⟨ent_cells_Join, good_cells_Join.one h⟩
  · exact ⟨ent_overdubkeep_Same_byte, good_overdubkeep_Same_byte.one h⟩
  · exact ⟨ent_overdublaw15_wakes, good_overdublaw15_wakes.one h⟩
theorem QK_sm : ∀ f vs lent out, QK.Sm f vs lent out → Ent QK.P f ∧ GoodM QK.P f (fun a l b => a = vs ∧ l = lent ∧ b = out) := fun _ _ _ _ h => h.elim
theorem QK_ok : QK.Ok := ⟨QK_sp, Es_ok, QK_sm⟩
def Sp_overdublaw15_CellBack (ds : List D) (out : Out) : Prop := ∃ (b : List Int) (n turn less : Int) (o : List Ce), ds = [.list (b.map mB), .v (.int .i64 n), .v (.int .i64 turn), .v (.int .i64 less), .list (o.map eC)] ∧ b.length ≤ 9223372036854775807 ∧ o.length ≤ 9223372036854775807 ∧ (∀ c ∈ o, c.dt.length ≤ 9223372036854775807) ∧ out = ⟨.d (.v (.bool true)), []⟩
def stB1 (b : List Int) (turn less : Int) (o : List Ce) : St := ⟨[(0, .d (.list (b.map mB))), (2, .d (.v (.int .i64 turn))), (3, .d (.v (.int .i64 less))), (4, .d (.list (o.map eC)))], [], 129⟩
def stB2 (b : List Int) (turn less : Int) (o : List Ce) (P t : Nat) (i : Nat) : St := ⟨[(0, .d (.list (b.map mB))), (2, .d (.v (.int .i64 turn))), (3, .d (.v (.int .i64 less))), (4, .d (.list (o.map eC))), (11, .sl 32 5 0 P true), (13, .sl 200 5 0 (xK b P t o i).length true), (43, .d (.v (.int .i64 P))), (44, .d (.v (.int .i64 i)))],
  [(32, .row 29 5 ((spl 7 3 b P).map eC)), (200, .row 29 5 ((xK b P t o i).map eC))], 129⟩
def stB3 (b : List Int) (o : List Ce) (P t k : Nat) (i : Nat) : St := ⟨[(0, .d (.list (b.map mB))), (11, .sl 32 5 0 P true), (13, .sl 200 5 0 (xK b P t o P).length true), (16, .sl 79 1 0 b.length true), (17, .d (.v (.bool true))), (18, .d (.v (.int .i64 k))), (19, .sl 201 5 0 (yK b P k i).length true), (87, .d (.v (.int .i64 P))), (88, .d (.v (.int .i64 i)))],
  [(32, .row 29 5 ((spl 7 3 b P).map eC)), (79, .row 5 1 (b.map mB)), (200, .row 29 5 ((xK b P t o P).map eC)), (201, .row 29 5 ((yK b P k i).map eC))], 129⟩
theorem good_overdublaw15_CellBack : Good Try.prog 6 Sp_overdublaw15_CellBack := by
  refine good_body (E := QK) (nt := 129) (rs := #[.tmp 10]) Try.func6 rfl rfl rfl ?_
  rintro ds out ⟨b0, n, turn, less, o, rfl, hb, hol, hod, rfl⟩
  refine ⟨by simp, ?_⟩
  have hw := within_rngc (v := n) (n := 500) (by omega)
  obtain ⟨z, hz⟩ : ∃ z : Nat, within n 500 = z := ⟨(within n 500).toNat, by omega⟩
  have hzl : z < 500 := by omega
  obtain ⟨b, hB⟩ : ∃ b, b0.take 300 ++ List.replicate z 0 = b := ⟨_, rfl⟩
  have hbl : b.length ≤ 800 := by rw [← hB, List.length_append, List.length_replicate, List.length_take]; omega
  have hbz : (b0.take 300).map mB ++ List.replicate z (D.v (.int .u8 0)) = b.map mB := by rw [rep_B, ← List.map_append, hB]
  have hbs : (b0.take 300).length + z = b.length := by rw [← hB, List.length_append, List.length_replicate]
  have h300 : (b0.take 300).length ≤ 300 := by rw [List.length_take]; omega
  have hinT : inT Try.prog 3 = true := by kernel_rfl
  have hbt : (b.map mB).take b.length = b.map mB := List.take_of_length_le (by simp)
  refine AW.w2 (stB1 b turn less o) ?_ ?_
  · repeat' ((first
 | refine AW.seq ?_
 | refine AW.block ?_
 | refine AW.regl QK_ok [0, 1, 2, 3, 4, 10, 11, 12, 13, 14, 15, 16, 17, 18, 19, 20, 22, 24, 41, 43, 44, 45, 65, 87, 88, 89, 93] ?_
 | refine then_n ?_
 | refine then_r ?_
 | refine then_x ?_
 | refine block_x ?_
 | refine block_o (by decide) ?_
 | refine block_n ?_
 | refine block_r ?_
 | refine AW.skip ?_
 | refine AW.ret ?_
 | refine AW.exit ?_
 | refine AW.cond rfl ?_ ?_
 | refine awl_none rfl ?_
 | refine awl_nil2 ?_
 | refine awl_some rfl rfl (Nat.le_of_ble_eq_true rfl) rfl rfl ?_ ?_
 | (refine fun (hc : _ = _) => ?_; first | cases hc | ((try rw [hc]); (try simp only [stH] at hc); (try (exfalso; omega))); (try (show Awl _ _ _ _ _; simp only [stU])))
 | ((first | refine fun (K : V → List _ → _) hK => ?_ | refine fun (_ : V → V) => ?_); simp (disch := omega) only [go_sem, Int.reduceEq, ↓reduceIte, reduceCtorEq, Nat.reduceEqDiff, Nat.reduceLT, Nat.reduceLeDiff, Nat.reduceAdd, Nat.reduceSub, Nat.reduceMul, Int.reduceToNat, Int.reduceLE, Int.reduceLT, QK, Sp_overdubkeep_CutCopy_byte, Sp_overdubkeep_Within, Sp_cells_Split, Sp_overdublaw15_small, Sp_cells_Join, Sp_overdubkeep_Same_byte, Sp_overdublaw15_wakes, hz, hbz, hbs, hinT]; (try (revert hK; intro hK; (repeat' first | (refine And.intro ?_ ?_) | (intro hc; first | cases hc | ((try rw [hc]); (try simp only [stH] at hc); (try (exfalso; omega))))); all_goals first | (refine hK _ _ ?_; clear hK K; simp only [stU]) | exact hK | omega)))) <;> (fail_if_success (show False; skip)))
    refine ⟨fun w0 oa a w hs => ?_⟩
    have h1 := frz_sr 0 (d := .list (b.map mB)) (by simp [toD, toD1, gt, go, hbt]) (by simp) hs
    refine Wk.sr (ρ := nm []) (Wk.of ?_) h1
    simp (disch := omega) only [go_sem, Int.reduceEq, ↓reduceIte, reduceCtorEq, Nat.reduceEqDiff, Nat.reduceLT, Nat.reduceLeDiff, Nat.reduceAdd, Nat.reduceSub, Nat.reduceMul, Int.reduceToNat, Int.reduceLE, Int.reduceLT, QK, Sp_overdubkeep_CutCopy_byte, Sp_overdubkeep_Within, Sp_cells_Split, Sp_overdublaw15_small, Sp_cells_Join, Sp_overdubkeep_Same_byte, Sp_overdublaw15_wakes, stB1]
  clear hbz hbs h300 hinT hz hzl hw
  obtain ⟨P, hP⟩ : ∃ P, P = prt b := ⟨_, rfl⟩
  have hP1 : 1 ≤ P := by rw [hP]; unfold prt; omega
  have hP8 : P ≤ 8 := by rw [hP]; unfold prt; omega
  have hso : splOut 7 3 b = ⟨.tup [.sl 0 5 0 P true, .d (.v (.int .i64 0))], [(0, .row 29 5 ((spl 7 3 b P).map eC))]⟩ := by
    unfold splOut; rw [← hP, if_neg (by omega)]
  have hsp : spl 7 3 b P = (List.range P).map (celK b P) := by rw [hP]; exact spl_cel b
  have hsl : (spl 7 3 b P).length = P := spl_len _ _ _ _
  have hel : ∀ q, q < P → nth ((spl 7 3 b P).map eC) q = .agg [.v (.int .i64 7), .v (.int .i64 3), .v (.int .i64 q), .v (.int .i64 P), .list (((b.drop (112 * q)).take 112).map mB)] := fun q hq => by
    rw [hsp]
    simp [nth, List.getD_eq_getElem?_getD, hq, celK, eC]
  have hwt := within_rngc (v := turn) (n := P) (by omega)
  obtain ⟨t, ht⟩ : ∃ t : Nat, within turn P = t := ⟨(within turn P).toNat, by omega⟩
  have hwk := within_rngc (v := less) (n := P) (by omega)
  obtain ⟨k, hk⟩ : ∃ k : Nat, within less P = k := ⟨(within less P).toNat, by omega⟩
  have hkP : k < P := by omega
  have htP : t < P := by omega
  clear hwt hwk
  have hP0 : ¬ P = 0 := by omega
  have hd1 : decide ((P : Int) = 0) = false := decide_eq_false (by omega)
  have hsnoc := snoc_C
  have hj1 : joinOut 7 3 (xK b P t o P) = ⟨.tup [.sl 0 1 0 b.length true, .d (.v (.bool true))], [(0, .row 5 1 (b.map mB))]⟩ := by
    unfold joinOut; rw [hP, join_x (by omega)]
  have hj2 : joinOut 7 4 (xK b P t o P) = ⟨.tup [.nil, .d (.v (.bool false))], []⟩ := by
    unfold joinOut; rw [join_x4]
  have hj3 : joinOut 7 3 (yK b P k P) = ⟨.tup [.nil, .d (.v (.bool false))], []⟩ := by
    unfold joinOut; rw [hP, join_y (by omega) (by omega)]
  repeat' ((first
 | refine AW.seq ?_
 | refine AW.block ?_
 | refine AW.regl QK_ok [0, 1, 2, 3, 4, 10, 11, 12, 13, 14, 15, 16, 17, 18, 19, 20, 22, 24, 41, 43, 44, 45, 65, 87, 88, 89, 93] ?_
 | refine then_n ?_
 | refine then_r ?_
 | refine then_x ?_
 | refine block_x ?_
 | refine block_o (by decide) ?_
 | refine block_n ?_
 | refine block_r ?_
 | refine AW.skip ?_
 | refine AW.ret ?_
 | refine AW.exit ?_
 | refine AW.cond rfl ?_ ?_
 | refine awl_none rfl ?_
 | refine awl_nil2 ?_
 | refine awl_some rfl rfl (Nat.le_of_ble_eq_true rfl) rfl rfl ?_ ?_
 | (refine fun (hc : _ = _) => ?_; first | cases hc | ((try rw [hc]); (try simp only [stH] at hc); (try (exfalso; omega))); (try (show Awl _ _ _ _ _; simp only [stU])))
 | ((first | refine fun (K : V → List _ → _) hK => ?_ | refine fun (_ : V → V) => ?_); simp (disch := omega) only [go_sem, Int.reduceEq, ↓reduceIte, reduceCtorEq, Nat.reduceEqDiff, Nat.reduceLT, Nat.reduceLeDiff, Nat.reduceAdd, Nat.reduceSub, Nat.reduceMul, Int.reduceToNat, Int.reduceLE, Int.reduceLT, QK, Sp_overdubkeep_CutCopy_byte, Sp_overdubkeep_Within, Sp_cells_Split, Sp_overdublaw15_small, Sp_cells_Join, Sp_overdubkeep_Same_byte, Sp_overdublaw15_wakes, stB1, hso, hd1, mB_inj]; (try (revert hK; intro hK; (repeat' first | (refine And.intro ?_ ?_) | (intro hc; first | cases hc | ((try rw [hc]); (try simp only [stH] at hc); (try (exfalso; omega))))); all_goals first | (refine hK _ _ ?_; clear hK K; simp only [stU]) | exact hK | omega)))) <;> (fail_if_success (show False; skip)))
  refine AW.loop_wk (fun i : Nat => stB2 b turn less o P t i) (fun i => i ≤ P) (fun i => P - i) 0 (Nat.zero_le _) ?_ ?_
  · intro w0 oa a w hs
    refine Wk.sr (ρ := nm []) (Wk.of ?_) (nil_sr 13 200 29 5 rfl (by simp) rfl (by decide) hs)
    have h0 : xK b P t o 0 = [] := rfl
    simp (disch := omega) only [go_sem, Int.reduceEq, ↓reduceIte, reduceCtorEq, Nat.reduceEqDiff, Nat.reduceLT, Nat.reduceLeDiff, Nat.reduceAdd, Nat.reduceSub, Nat.reduceMul, Int.reduceToNat, Int.reduceLE, Int.reduceLT, QK, Sp_overdubkeep_CutCopy_byte, Sp_overdubkeep_Within, Sp_cells_Split, Sp_overdublaw15_small, Sp_cells_Join, Sp_overdubkeep_Same_byte, Sp_overdublaw15_wakes, stB2, h0]
  intro i hi
  have hXl := xK_len b P t o i
  by_cases hi1 : i < P
  · have hrem : ((i : Int) + (t : Int)).tmod (P : Int) = (((i + t) % P : Nat) : Int) := by rw [Int.tmod_eq_emod_of_nonneg (by omega), Int.natCast_emod, Int.natCast_add]
    have hqP : (i + t) % P < P := Nat.mod_lt _ (by omega)
    have hsu := xK_succ b P t o i
    obtain ⟨X, hX⟩ : ∃ X, xK b P t o i = X := ⟨_, rfl⟩
    rw [hX] at hsu hXl
    generalize (i + t) % P = q at *
    have hq := hel q hqP
    have hck : celK b P q = ⟨7, 3, (q : Int), (P : Int), (b.drop (112 * q)).take 112⟩ := rfl
    obtain ⟨dq, hdq⟩ : ∃ dq, (b.drop (112 * q)).take 112 = dq := ⟨_, rfl⟩
    rw [hdq] at hck hq
    have hX1 : ∀ c : Ce, (X ++ [c]).length = X.length + 1 := fun c => by simp
    have hXm : ∀ c : Ce, (X ++ [c]).map eC = X.map eC ++ [eC c] := fun c => by simp
    by_cases hio : i < o.length
    · rw [if_pos hio, hck] at hsu
      have e1 := nth_C o i hio
      have hod := hod (o.getD i default) (by rw [List.getD_eq_getElem?_getD, List.getElem?_eq_getElem hio]; exact List.getElem_mem hio)
      obtain ⟨c, hc⟩ : ∃ c, o.getD i default = c := ⟨_, rfl⟩
      rw [hc] at e1 hod hsu
      have hsv : vC (smallE c) = .agg [.d (.v (.int .i64 (smallE c).lf)), .d (.v (.int .i64 (smallE c).nu)), .d (.v (.int .i64 (smallE c).pt)), .d (.v (.int .i64 (smallE c).ps)), .d (.list ((smallE c).dt.map mB))] := rfl
      have hok : othK c = ⟨8, (smallE c).nu, (smallE c).pt, (smallE c).ps, (smallE c).dt⟩ := rfl
      rw [hok] at hsu
      obtain ⟨⟨sa, sb, sc, sd, se⟩, hs⟩ : ∃ s, smallE c = s := ⟨_, rfl⟩
      rw [hs] at hsv hsu
      simp only at hsv hsu
      have hec : eC c = .agg [.v (.int .i64 c.lf), .v (.int .i64 c.nu), .v (.int .i64 c.pt), .v (.int .i64 c.ps), .list (c.dt.map mB)] := rfl
      have hce : (⟨c.lf, c.nu, c.pt, c.ps, c.dt⟩ : Ce) = c := rfl
      rw [hec] at e1
      have hfin : X ++ [⟨7, 3, (q : Int), (P : Int), dq⟩, ⟨8, sb, sc, sd, se⟩] = (X ++ [⟨7, 3, (q : Int), (P : Int), dq⟩]) ++ [⟨8, sb, sc, sd, se⟩] := by simp
      rw [hfin] at hsu
      have hX2 : ∀ c d : Ce, (X ++ [c] ++ [d]).length = X.length + 1 + 1 := fun c d => by simp
      repeat' ((first
 | refine AW.seq ?_
 | refine AW.block ?_
 | refine AW.regl QK_ok [0, 1, 2, 3, 4, 10, 11, 12, 13, 14, 15, 16, 17, 18, 19, 20, 22, 24, 41, 43, 44, 45, 65, 87, 88, 89, 93] ?_
 | refine then_n ?_
 | refine then_r ?_
 | refine then_x ?_
 | refine block_x ?_
 | refine block_o (by decide) ?_
 | refine block_n ?_
 | refine block_r ?_
 | refine AW.skip ?_
 | refine AW.ret ?_
 | refine AW.exit ?_
 | refine AW.cond rfl ?_ ?_
 | refine awl_none rfl ?_
 | refine awl_nil2 ?_
 | refine awl_some rfl rfl (Nat.le_of_ble_eq_true rfl) rfl rfl ?_ ?_
 | (refine fun (hc : _ = _) => ?_; first | cases hc | ((try rw [hc]); (try simp only [stH] at hc); (try (exfalso; omega))); (try (show Awl _ _ _ _ _; simp only [stU])))
 | ((first | refine fun (K : V → List _ → _) hK => ?_ | refine fun (_ : V → V) => ?_); simp (disch := omega) only [go_sem, Int.reduceEq, ↓reduceIte, reduceCtorEq, Nat.reduceEqDiff, Nat.reduceLT, Nat.reduceLeDiff, Nat.reduceAdd, Nat.reduceSub, Nat.reduceMul, Int.reduceToNat, Int.reduceLE, Int.reduceLT, QK, Sp_overdubkeep_CutCopy_byte, Sp_overdubkeep_Within, Sp_cells_Split, Sp_overdublaw15_small, Sp_cells_Join, Sp_overdubkeep_Same_byte, Sp_overdublaw15_wakes, stB2, hX, hsl, ht, hrem, hq, e1, hce, hs, hsv, eC_eq, hsnoc, hX1, hX2, mB_inj, all_C]; (try (revert hK; intro hK; (repeat' first | (refine And.intro ?_ ?_) | (intro hc; first | cases hc | ((try rw [hc]); (try simp only [stH] at hc); (try (exfalso; omega))))); all_goals first | (refine hK _ _ ?_; clear hK K; simp only [stU]) | exact hK | omega)))) <;> (fail_if_success (show False; skip)))
      refine ⟨i + 1, by omega, by omega, nm [(200, 75)], Wk.of ?_⟩
      simp (disch := omega) only [go_sem, Int.reduceEq, ↓reduceIte, reduceCtorEq, Nat.reduceEqDiff, Nat.reduceLT, Nat.reduceLeDiff, Nat.reduceAdd, Nat.reduceSub, Nat.reduceMul, Int.reduceToNat, Int.reduceLE, Int.reduceLT, QK, Sp_overdubkeep_CutCopy_byte, Sp_overdubkeep_Within, Sp_cells_Split, Sp_overdublaw15_small, Sp_cells_Join, Sp_overdubkeep_Same_byte, Sp_overdublaw15_wakes, stB2, hsu, hX2]
      rfl
    · rw [if_neg hio, hck] at hsu
      repeat' ((first
 | refine AW.seq ?_
 | refine AW.block ?_
 | refine AW.regl QK_ok [0, 1, 2, 3, 4, 10, 11, 12, 13, 14, 15, 16, 17, 18, 19, 20, 22, 24, 41, 43, 44, 45, 65, 87, 88, 89, 93] ?_
 | refine then_n ?_
 | refine then_r ?_
 | refine then_x ?_
 | refine block_x ?_
 | refine block_o (by decide) ?_
 | refine block_n ?_
 | refine block_r ?_
 | refine AW.skip ?_
 | refine AW.ret ?_
 | refine AW.exit ?_
 | refine AW.cond rfl ?_ ?_
 | refine awl_none rfl ?_
 | refine awl_nil2 ?_
 | refine awl_some rfl rfl (Nat.le_of_ble_eq_true rfl) rfl rfl ?_ ?_
 | (refine fun (hc : _ = _) => ?_; first | cases hc | ((try rw [hc]); (try simp only [stH] at hc); (try (exfalso; omega))); (try (show Awl _ _ _ _ _; simp only [stU])))
 | ((first | refine fun (K : V → List _ → _) hK => ?_ | refine fun (_ : V → V) => ?_); simp (disch := omega) only [go_sem, Int.reduceEq, ↓reduceIte, reduceCtorEq, Nat.reduceEqDiff, Nat.reduceLT, Nat.reduceLeDiff, Nat.reduceAdd, Nat.reduceSub, Nat.reduceMul, Int.reduceToNat, Int.reduceLE, Int.reduceLT, QK, Sp_overdubkeep_CutCopy_byte, Sp_overdubkeep_Within, Sp_cells_Split, Sp_overdublaw15_small, Sp_cells_Join, Sp_overdubkeep_Same_byte, Sp_overdublaw15_wakes, stB2, hX, hsl, ht, hrem, hq, eC_eq, hsnoc, hX1, mB_inj, all_C]; (try (revert hK; intro hK; (repeat' first | (refine And.intro ?_ ?_) | (intro hc; first | cases hc | ((try rw [hc]); (try simp only [stH] at hc); (try (exfalso; omega))))); all_goals first | (refine hK _ _ ?_; clear hK K; simp only [stU]) | exact hK | omega)))) <;> (fail_if_success (show False; skip)))
      refine ⟨i + 1, by omega, by omega, nm [(200, 61)], Wk.of ?_⟩
      simp (disch := omega) only [go_sem, Int.reduceEq, ↓reduceIte, reduceCtorEq, Nat.reduceEqDiff, Nat.reduceLT, Nat.reduceLeDiff, Nat.reduceAdd, Nat.reduceSub, Nat.reduceMul, Int.reduceToNat, Int.reduceLE, Int.reduceLT, QK, Sp_overdubkeep_CutCopy_byte, Sp_overdubkeep_Within, Sp_cells_Split, Sp_overdublaw15_small, Sp_cells_Join, Sp_overdubkeep_Same_byte, Sp_overdublaw15_wakes, stB2, hsu, hX1]
      rfl
  obtain rfl : i = P := by omega
  have hXt : ((xK b i t o i).map eC).take (xK b i t o i).length = (xK b i t o i).map eC := List.take_of_length_le (by simp)
  have hXd : (∀ c ∈ xK b i t o i, c.dt.length ≤ 1000000) = True := eq_true xK_dt
  repeat' ((first
 | refine AW.seq ?_
 | refine AW.block ?_
 | refine AW.regl QK_ok [0, 1, 2, 3, 4, 10, 11, 12, 13, 14, 15, 16, 17, 18, 19, 20, 22, 24, 41, 43, 44, 45, 65, 87, 88, 89, 93] ?_
 | refine then_n ?_
 | refine then_r ?_
 | refine then_x ?_
 | refine block_x ?_
 | refine block_o (by decide) ?_
 | refine block_n ?_
 | refine block_r ?_
 | refine AW.skip ?_
 | refine AW.ret ?_
 | refine AW.exit ?_
 | refine AW.cond rfl ?_ ?_
 | refine awl_none rfl ?_
 | refine awl_nil2 ?_
 | refine awl_some rfl rfl (Nat.le_of_ble_eq_true rfl) rfl rfl ?_ ?_
 | (refine fun (hc : _ = _) => ?_; first | cases hc | ((try rw [hc]); (try simp only [stH] at hc); (try (exfalso; omega))); (try (show Awl _ _ _ _ _; simp only [stU])))
 | ((first | refine fun (K : V → List _ → _) hK => ?_ | refine fun (_ : V → V) => ?_); simp (disch := omega) only [go_sem, Int.reduceEq, ↓reduceIte, reduceCtorEq, Nat.reduceEqDiff, Nat.reduceLT, Nat.reduceLeDiff, Nat.reduceAdd, Nat.reduceSub, Nat.reduceMul, Int.reduceToNat, Int.reduceLE, Int.reduceLT, QK, Sp_overdubkeep_CutCopy_byte, Sp_overdubkeep_Within, Sp_cells_Split, Sp_overdublaw15_small, Sp_cells_Join, Sp_overdubkeep_Same_byte, Sp_overdublaw15_wakes, stB2, hsl, hXt, hXd, hj1, hk, Cm_inj, mB_inj, all_C]; (try (revert hK; intro hK; (repeat' first | (refine And.intro ?_ ?_) | (intro hc; first | cases hc | ((try rw [hc]); (try simp only [stH] at hc); (try (exfalso; omega))))); all_goals first | (refine hK _ _ ?_; clear hK K; simp only [stU]) | exact hK | omega)))) <;> (fail_if_success (show False; skip)))
  refine AW.loop_wk (fun n : Nat => stB3 b o i t k n) (fun n => n ≤ i) (fun n => i - n) 0 (Nat.zero_le _) ?_ ?_
  · intro w0 oa a w hs
    refine Wk.sr (ρ := nm []) (Wk.of ?_) (nil_sr 19 201 29 5 rfl (by simp) rfl (by decide) hs)
    have h0 : yK b i k 0 = [] := rfl
    simp (disch := omega) only [go_sem, Int.reduceEq, ↓reduceIte, reduceCtorEq, Nat.reduceEqDiff, Nat.reduceLT, Nat.reduceLeDiff, Nat.reduceAdd, Nat.reduceSub, Nat.reduceMul, Int.reduceToNat, Int.reduceLE, Int.reduceLT, QK, Sp_overdubkeep_CutCopy_byte, Sp_overdubkeep_Within, Sp_cells_Split, Sp_overdublaw15_small, Sp_cells_Join, Sp_overdubkeep_Same_byte, Sp_overdublaw15_wakes, stB3, h0]
  intro n hn
  have hYl := yK_len b i k n
  by_cases hn1 : n < i
  · have hsu := yK_succ b i k n
    obtain ⟨Y, hY⟩ : ∃ Y, yK b i k n = Y := ⟨_, rfl⟩
    rw [hY] at hsu hYl
    have hq := hel n hn1
    have hck : celK b i n = ⟨7, 3, (n : Int), (i : Int), (b.drop (112 * n)).take 112⟩ := rfl
    obtain ⟨dq, hdq⟩ : ∃ dq, (b.drop (112 * n)).take 112 = dq := ⟨_, rfl⟩
    rw [hdq] at hck hq
    have hY1 : ∀ c : Ce, (Y ++ [c]).length = Y.length + 1 := fun c => by simp
    by_cases hnk : n = k
    · rw [if_neg (by simpa using hnk), List.append_nil] at hsu
      have hnk' : (n : Int) = (k : Int) := by omega
      repeat' ((first
 | refine AW.seq ?_
 | refine AW.block ?_
 | refine AW.regl QK_ok [0, 1, 2, 3, 4, 10, 11, 12, 13, 14, 15, 16, 17, 18, 19, 20, 22, 24, 41, 43, 44, 45, 65, 87, 88, 89, 93] ?_
 | refine then_n ?_
 | refine then_r ?_
 | refine then_x ?_
 | refine block_x ?_
 | refine block_o (by decide) ?_
 | refine block_n ?_
 | refine block_r ?_
 | refine AW.skip ?_
 | refine AW.ret ?_
 | refine AW.exit ?_
 | refine AW.cond rfl ?_ ?_
 | refine awl_none rfl ?_
 | refine awl_nil2 ?_
 | refine awl_some rfl rfl (Nat.le_of_ble_eq_true rfl) rfl rfl ?_ ?_
 | (refine fun (hc : _ = _) => ?_; first | cases hc | ((try rw [hc]); (try simp only [stH] at hc); (try (exfalso; omega))); (try (show Awl _ _ _ _ _; simp only [stU])))
 | ((first | refine fun (K : V → List _ → _) hK => ?_ | refine fun (_ : V → V) => ?_); simp (disch := omega) only [go_sem, Int.reduceEq, ↓reduceIte, reduceCtorEq, Nat.reduceEqDiff, Nat.reduceLT, Nat.reduceLeDiff, Nat.reduceAdd, Nat.reduceSub, Nat.reduceMul, Int.reduceToNat, Int.reduceLE, Int.reduceLT, QK, Sp_overdubkeep_CutCopy_byte, Sp_overdubkeep_Within, Sp_cells_Split, Sp_overdublaw15_small, Sp_cells_Join, Sp_overdubkeep_Same_byte, Sp_overdublaw15_wakes, stB3, hY, hnk']; (try (revert hK; intro hK; (repeat' first | (refine And.intro ?_ ?_) | (intro hc; first | cases hc | ((try rw [hc]); (try simp only [stH] at hc); (try (exfalso; omega))))); all_goals first | (refine hK _ _ ?_; clear hK K; simp only [stU]) | exact hK | omega)))) <;> (fail_if_success (show False; skip)))
      refine ⟨n + 1, by omega, by omega, nm [], Wk.of ?_⟩
      simp (disch := omega) only [go_sem, Int.reduceEq, ↓reduceIte, reduceCtorEq, Nat.reduceEqDiff, Nat.reduceLT, Nat.reduceLeDiff, Nat.reduceAdd, Nat.reduceSub, Nat.reduceMul, Int.reduceToNat, Int.reduceLE, Int.reduceLT, QK, Sp_overdubkeep_CutCopy_byte, Sp_overdubkeep_Within, Sp_cells_Split, Sp_overdublaw15_small, Sp_cells_Join, Sp_overdubkeep_Same_byte, Sp_overdublaw15_wakes, stB3, hY, hsu]
      rw [← hnk']; rfl
    · rw [if_pos hnk, hck] at hsu
      have hnk' : ¬ (n : Int) = (k : Int) := by omega
      repeat' ((first
 | refine AW.seq ?_
 | refine AW.block ?_
 | refine AW.regl QK_ok [0, 1, 2, 3, 4, 10, 11, 12, 13, 14, 15, 16, 17, 18, 19, 20, 22, 24, 41, 43, 44, 45, 65, 87, 88, 89, 93] ?_
 | refine then_n ?_
 | refine then_r ?_
 | refine then_x ?_
 | refine block_x ?_
 | refine block_o (by decide) ?_
 | refine block_n ?_
 | refine block_r ?_
 | refine AW.skip ?_
 | refine AW.ret ?_
 | refine AW.exit ?_
 | refine AW.cond rfl ?_ ?_
 | refine awl_none rfl ?_
 | refine awl_nil2 ?_
 | refine awl_some rfl rfl (Nat.le_of_ble_eq_true rfl) rfl rfl ?_ ?_
 | (refine fun (hc : _ = _) => ?_; first | cases hc | ((try rw [hc]); (try simp only [stH] at hc); (try (exfalso; omega))); (try (show Awl _ _ _ _ _; simp only [stU])))
 | ((first | refine fun (K : V → List _ → _) hK => ?_ | refine fun (_ : V → V) => ?_); simp (disch := omega) only [go_sem, Int.reduceEq, ↓reduceIte, reduceCtorEq, Nat.reduceEqDiff, Nat.reduceLT, Nat.reduceLeDiff, Nat.reduceAdd, Nat.reduceSub, Nat.reduceMul, Int.reduceToNat, Int.reduceLE, Int.reduceLT, QK, Sp_overdubkeep_CutCopy_byte, Sp_overdubkeep_Within, Sp_cells_Split, Sp_overdublaw15_small, Sp_cells_Join, Sp_overdubkeep_Same_byte, Sp_overdublaw15_wakes, stB3, hY, hnk', hsl, hq, hsnoc, hY1, mB_inj, all_C]; (try (revert hK; intro hK; (repeat' first | (refine And.intro ?_ ?_) | (intro hc; first | cases hc | ((try rw [hc]); (try simp only [stH] at hc); (try (exfalso; omega))))); all_goals first | (refine hK _ _ ?_; clear hK K; simp only [stU]) | exact hK | omega)))) <;> (fail_if_success (show False; skip)))
      refine ⟨n + 1, by omega, by omega, nm [(201, 100)], Wk.of ?_⟩
      simp (disch := omega) only [go_sem, Int.reduceEq, ↓reduceIte, reduceCtorEq, Nat.reduceEqDiff, Nat.reduceLT, Nat.reduceLeDiff, Nat.reduceAdd, Nat.reduceSub, Nat.reduceMul, Int.reduceToNat, Int.reduceLE, Int.reduceLT, QK, Sp_overdubkeep_CutCopy_byte, Sp_overdubkeep_Within, Sp_cells_Split, Sp_overdublaw15_small, Sp_cells_Join, Sp_overdubkeep_Same_byte, Sp_overdublaw15_wakes, stB3, hsu, hY1]
      rfl
  obtain rfl : n = i := by omega
  have hYt : ((yK b n k n).map eC).take (yK b n k n).length = (yK b n k n).map eC := List.take_of_length_le (by simp)
  have hYd : (∀ c ∈ yK b n k n, c.dt.length ≤ 1000000) = True := eq_true yK_dt
  repeat' ((first
 | refine AW.seq ?_
 | refine AW.block ?_
 | refine AW.regl QK_ok [0, 1, 2, 3, 4, 10, 11, 12, 13, 14, 15, 16, 17, 18, 19, 20, 22, 24, 41, 43, 44, 45, 65, 87, 88, 89, 93] ?_
 | refine then_n ?_
 | refine then_r ?_
 | refine then_x ?_
 | refine block_x ?_
 | refine block_o (by decide) ?_
 | refine block_n ?_
 | refine block_r ?_
 | refine AW.skip ?_
 | refine AW.ret ?_
 | refine AW.exit ?_
 | refine AW.cond rfl ?_ ?_
 | refine awl_none rfl ?_
 | refine awl_nil2 ?_
 | refine awl_some rfl rfl (Nat.le_of_ble_eq_true rfl) rfl rfl ?_ ?_
 | (refine fun (hc : _ = _) => ?_; first | cases hc | ((try rw [hc]); (try simp only [stH] at hc); (try (exfalso; omega))); (try (show Awl _ _ _ _ _; simp only [stU])))
 | ((first | refine fun (K : V → List _ → _) hK => ?_ | refine fun (_ : V → V) => ?_); simp (disch := omega) only [go_sem, Int.reduceEq, ↓reduceIte, reduceCtorEq, Nat.reduceEqDiff, Nat.reduceLT, Nat.reduceLeDiff, Nat.reduceAdd, Nat.reduceSub, Nat.reduceMul, Int.reduceToNat, Int.reduceLE, Int.reduceLT, QK, Sp_overdubkeep_CutCopy_byte, Sp_overdubkeep_Within, Sp_cells_Split, Sp_overdublaw15_small, Sp_cells_Join, Sp_overdubkeep_Same_byte, Sp_overdublaw15_wakes, stB3, hXt, hXd, hYt, hYd, hj2, hj3, hbt, Cm_inj, mB_inj, all_C]; (try (revert hK; intro hK; (repeat' first | (refine And.intro ?_ ?_) | (intro hc; first | cases hc | ((try rw [hc]); (try simp only [stH] at hc); (try (exfalso; omega))))); all_goals first | (refine hK _ _ ?_; clear hK K; simp only [stU]) | exact hK | omega)))) <;> (fail_if_success (show False; skip)))
  all_goals (refine Ends.of (nm []) (by first | exact .inl rfl | exact .inr rfl) ?_; simp (disch := omega) only [go_sem, Int.reduceEq, ↓reduceIte, reduceCtorEq, Nat.reduceEqDiff, Nat.reduceLT, Nat.reduceLeDiff, Nat.reduceAdd, Nat.reduceSub, Nat.reduceMul, Int.reduceToNat, Int.reduceLE, Int.reduceLT, QK, Sp_overdubkeep_CutCopy_byte, Sp_overdubkeep_Within, Sp_cells_Split, Sp_overdublaw15_small, Sp_cells_Join, Sp_overdubkeep_Same_byte, Sp_overdublaw15_wakes])
theorem ent_overdublaw15_CellBack : Ent Try.prog 6 := ⟨_, Try.func6, rfl, by decide⟩
end Go.Proofs.Ytaiaackeljlbfaa.Am
