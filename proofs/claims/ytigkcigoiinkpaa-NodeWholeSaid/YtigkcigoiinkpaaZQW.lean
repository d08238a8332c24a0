import Derived.Test.YtigkcigoiinkpaaZNP
import Derived.Test.YtigkcigoiinkpaaZD1
set_option linter.unusedVariables false
set_option linter.unusedSimpArgs false
set_option maxRecDepth 10000
set_option maxHeartbeats 0
namespace Go.Proofs.Ytigkcigoiinkpaa.Am
open Go Go.RowKit Go.Proofs
def rsmN (b : List Int) : List Int := b.take 124 ++ sumL (b.take 124)
theorem rsmN_len {b : List Int} (h : 124 ≤ b.length) : (rsmN b).length = 128 := by
  unfold rsmN; rw [List.length_append, List.length_take, sumL_len]; omega
theorem rsmN_byt {b : List Int} (h : Byt b) : Byt (rsmN b) := byt_append (byt_take h _) (sumL_byt _)
theorem sumd_resN (b : List Int) : sumdL (b.take 124) 0 = rsmN b := by
  have e : toL (b.take 124) 0 = b.take 124 := by unfold toL; simp
  unfold sumdL rsmN; rw [e]
theorem rsmN_getD {b : List Int} (h : 124 ≤ b.length) {i : Nat} (hi : i < 124) : (rsmN b).getD i 0 = b.getD i 0 := by
  unfold rsmN
  rw [List.getD_eq_getElem?_getD, List.getD_eq_getElem?_getD, List.getElem?_append_left (by rw [List.length_take]; omega), List.getElem?_take, if_pos hi]
theorem rsmN_take {b : List Int} (h : 124 ≤ b.length) : (rsmN b).take 124 = b.take 124 := List.take_left' (by rw [List.length_take]; omega)
theorem rsmN_nod {k n : Int} {it : List Int} : rsmN (nodP k n it) = nodP k n it := by
  have ho := nodP_open k n it
  unfold rsmN
  have h2 := ho.2
  rw [h2]
  exact List.take_append_drop _ _
theorem byt_xor8 (x y : Int) : 0 ≤ Go.bits .xor .u8 x y ∧ Go.bits .xor .u8 x y < 256 := QC.xor8_rng _ _
theorem xor8_zero {x : Int} (hx : 0 ≤ x ∧ x < 256) : Go.bits .xor .u8 x 0 = x := by
  rw [bits8]
  have e1 : ((b8 x).toNat : Int) = x := by simp only [b8, BitVec.toNat_ofInt]; omega
  have e2 : b8 0 = 0#8 := rfl
  rw [e2, BitVec.xor_zero, e1]
theorem leaf_behind {l : List Xt} (h : mayF l) {K : Nat} (hK : 3 + 7 * l.length ≤ K) (hK2 : K < 124) {y : Int} (hy : y ≠ (leafP l).getD K 0) : ¬ leafOk (rsmN ((leafP l).set K y)) := by
  rintro ⟨h1, h2, h3, h4⟩
  have h8 : (leafP l).length = 128 := nodP_len _ _ _
  have hN : nN (leafP l) = l.length := nodP_nN (mayF_len h)
  obtain ⟨hb1, hb2⟩ := leaf_back h
  have hn : nN (rsmN ((leafP l).set K y)) = l.length := by
    unfold nN
    rw [rsmN_getD (by rw [List.length_set]; omega) (by omega), List.getD_eq_getElem?_getD, List.getElem?_set_ne (by omega), ← List.getD_eq_getElem?_getD]
    exact hN
  have hi : (nI (rsmN ((leafP l).set K y))).take (7 * l.length) = (nI (leafP l)).take (7 * l.length) := by
    unfold nI
    rw [rsmN_take (by rw [List.length_set]; omega), List.take_set, List.drop_set, if_neg (by omega), List.take_set, List.set_eq_of_length_le]
    rw [List.length_take]
    omega
  have hF : fE (rsmN ((leafP l).set K y)) = l := by
    unfold fE
    rw [hn, Int.toNat_natCast, hi]
    have e := hb2
    unfold fE at e
    rw [hN, Int.toNat_natCast] at e
    exact e
  rw [hF] at h4
  have h5 : (leafP l).getD K 0 = (rsmN ((leafP l).set K y)).getD K 0 := congrArg (fun b => b.getD K 0) h4
  rw [rsmN_getD (by rw [List.length_set]; omega) hK2, List.getD_eq_getElem?_getD (l := (leafP l).set K y), List.getElem?_set_self (by omega)] at h5
  exact hy h5.symm
theorem leaf_kind {l : List Xt} (h : mayF l) {c : Int} (hc : c ≠ 1) : ¬ leafOk (rsmN ((leafP l).set 1 c)) := by
  rintro ⟨⟨_, _, h1⟩, _⟩
  have h8 : (leafP l).length = 128 := nodP_len _ _ _
  rw [rsmN_getD (by rw [List.length_set]; omega) (by omega), List.getD_eq_getElem?_getD, List.getElem?_set_self (by omega)] at h1
  exact hc h1
noncomputable def QW : Env := ⟨Try.prog, fun f ds out => (f = 20 ∧ Sp_overdubkeep_Within ds out) ∨ (f = 16 ∧ Sp_overdublaw16_Row ds out) ∨ (f = 17 ∧ Sp_overdublaw20_wakes ds out) ∨ (f = 18 ∧ Sp_node_PackLeaf ds out) ∨ (f = 46 ∧ Sp_overdubkeep_Copy_byte ds out) ∨ (f = 35 ∧ Sp_overdubref01_Summed ds out) ∨ (f = 39 ∧ Sp_node_Leaf ds out) ∨ (f = 19 ∧ Sp_overdubkeep_Same_api_Extent ds out) ∨ (f = 45 ∧ Sp_node_Kind ds out), Es, fun _ => false⟩
theorem QW_sp : ∀ f ds out, QW.Sp f ds out → Ent QW.P f ∧ Good QW.P f (fun a b => a = ds ∧ b = out) := by
  rintro f ds out (⟨rfl, h⟩ | ⟨rfl, h⟩ | ⟨rfl, h⟩ | ⟨rfl, h⟩ | ⟨rfl, h⟩ | ⟨rfl, h⟩ | ⟨rfl, h⟩ | ⟨rfl, h⟩ | ⟨rfl, h⟩)
  · exact ⟨ent_overdubkeep_Within, good_overdubkeep_Within.one h⟩
  · exact ⟨ent_overdublaw16_Row, good_overdublaw16_Row.one h⟩
  · exact ⟨ent_overdublaw20_wakes, good_overdublaw20_wakes.one h⟩
  · exact ⟨ent_node_PackLeaf, good_node_PackLeaf.one h⟩
  · exact ⟨ent_overdubkeep_Copy_byte, good_overdubkeep_Copy_byte.one h⟩
  · exact ⟨ent_overdubref01_Summed, good_overdubref01_Summed.one h⟩
  · exact ⟨ent_node_Leaf, good_node_Leaf.one h⟩
  · exact ⟨ent_overdubkeep_Same_api_Extent, good_overdubkeep_Same_api_Extent.one h⟩
  · exact ⟨ent_node_Kind, good_node_Kind.one h⟩
theorem QW_ok : QW.Ok := ⟨QW_sp, Es_ok⟩
def Sp_overdublaw20_NodeWhole (ds : List D) (out : Out) : Prop := ∃ (l : List Xt) (kd at' c : Int), ds = [.list (l.map eD), .v (.int .u8 kd), .v (.int .i64 at'), .v (.int .u8 c)] ∧ l.length ≤ 9223372036854775807 ∧ (∀ e ∈ l, numE e) ∧ (0 ≤ kd ∧ kd < 256) ∧ (0 ≤ c ∧ c < 256) ∧ out = ⟨.d (.v (.bool true)), []⟩
theorem good_overdublaw20_NodeWhole : Good Try.prog 9 Sp_overdublaw20_NodeWhole := by
  refine good_body (E := QW) (nt := 104) (rs := #[.tmp 8]) Try.func9 rfl rfl rfl ?_
  rintro ds out ⟨l, kd, at', c, rfl, hl, hn, hkd, hc, rfl⟩
  refine ⟨by simp, ?_⟩
  have hq : (∀ e ∈ l, numE e) = True := eq_true hn
  have hg := rowG_ok 7 0 l (by omega) (by omega)
  have hg7 := hg.2
  have hmr : 1 ≤ (rowG 7 0 l).length → mayF (rowG 7 0 l) := may_row l (by omega)
  have n7 : (7 : Int).toNat = 7 := rfl
  have tr : ((rowG 7 0 l).map eD).take (rowG 7 0 l).length = (rowG 7 0 l).map eD := List.take_of_length_le (by simp)
  clear hg hn
  obtain ⟨r, hr⟩ : ∃ r, rowG 7 0 l = r := ⟨_, rfl⟩
  rw [hr] at hg7 hmr tr
  by_cases h0 : r.length = 0
  · repeat' first
 | (refine AW.seq ?_)
 | (refine AW.block ?_)
 | (refine AW.regl QW_ok [0, 1, 2, 3, 8, 9, 10, 11, 12, 14, 15, 16, 17, 18, 23, 36, 46, 52] ?_)
 | (refine then_n ?_)
 | (refine then_r ?_)
 | (refine then_x ?_)
 | (refine block_x ?_)
 | (refine block_o (by decide) ?_)
 | (refine block_n ?_)
 | (refine block_r ?_)
 | (refine AW.skip ?_)
 | (refine AW.ret ?_)
 | (refine AW.exit ?_)
 | (refine AW.cond rfl ?_ ?_ <;> (intro hc; first | cases hc | ((try rw [hc]); (try simp only [stH] at hc); (try (exfalso; omega)))))
 | ((first
       | (refine awl_none rfl fun K hK => ?_)
       | (refine awl_nil ?_)
       | (refine awl_some rfl rfl (Nat.le_of_ble_eq_true rfl) rfl rfl ?_ ?_ <;> (intro hc; first | cases hc | ((try rw [hc]); (try simp only [stH] at hc); (try (exfalso; omega)))) <;> (try intro K hK))
       | (refine awl_skip rfl rfl (Nat.le_of_ble_eq_true rfl) rfl rfl ?_))
    all_goals first
      | (show Awl _ _ _ _ _; simp only [St.upd, St.put, List.nil_append, List.cons_append, List.singleton_append, List.append_nil])
      | (simp (disch := omega) only [go_sem, Int.reduceEq, ↓reduceIte, reduceCtorEq, Nat.reduceEqDiff, Nat.reduceLT, Nat.reduceLeDiff, Nat.reduceAdd, Nat.reduceSub, Nat.reduceMul, Int.reduceToNat, Int.reduceLE, Int.reduceLT, QW, Sp_overdublaw16_Row, Sp_overdublaw20_wakes, Sp_node_PackLeaf, Sp_overdubkeep_Copy_byte, Sp_overdubref01_Summed, Sp_node_Leaf, Sp_overdubkeep_Within, Sp_overdubkeep_Same_api_Extent, Sp_node_Kind, hq, hr, n7, h0, eD_inj, sc_E]
         (try ((repeat' first | (refine And.intro ?_ ?_) | (intro hc; first | cases hc | ((try rw [hc]); (try simp only [stH] at hc); (try (exfalso; omega)))))
               all_goals first | (refine hK _ _ ?_; clear hK K; simp only [St.upd, St.put, List.nil_append, List.cons_append, List.singleton_append, List.append_nil]) | exact hK | omega))))
    (refine Ends.of (nm []) (by first | exact .inl rfl | exact .inr rfl) ?_; simp (disch := omega) only [go_sem, Int.reduceEq, ↓reduceIte, reduceCtorEq, Nat.reduceEqDiff, Nat.reduceLT, Nat.reduceLeDiff, Nat.reduceAdd, Nat.reduceSub, Nat.reduceMul, Int.reduceToNat, Int.reduceLE, Int.reduceLT, QW, Sp_overdublaw16_Row, Sp_overdublaw20_wakes, Sp_node_PackLeaf, Sp_overdubkeep_Copy_byte, Sp_overdubref01_Summed, Sp_node_Leaf, Sp_overdubkeep_Within, Sp_overdubkeep_Same_api_Extent, Sp_node_Kind])
  have hm := hmr (by omega)
  clear hmr
  have hpk : packFOut r = ⟨.tup [.sl 0 1 0 128 true, .d (.v (.bool true))], [(0, .row 5 1 ((leafP r).map mB))]⟩ := if_pos hm
  have hPb : Byt (leafP r) := nodP_byt (by omega) (by omega) (exsB_bytF r)
  have hPl : (leafP r).length = 128 := nodP_len _ _ _
  have hlb := leaf_back hm
  have hlo : leafOut (leafP r) = ⟨.tup [.sl 0 5 0 r.length true, .d (.v (.bool true))], [(0, .row 42 5 (r.map eD))]⟩ := by rw [leafOut, if_pos hlb.1, hlb.2]
  have hkn := kind_leaf hm
  have hrs : rsmN (leafP r) = leafP r := rsmN_nod
  have hbk : kd ≠ 1 → leafOut (rsmN ((leafP r).set 1 kd)) = ⟨.tup [.nil, .d (.v (.bool false))], []⟩ := fun h => if_neg (leaf_kind hm h)
  have hbe : ∀ K y, 3 + 7 * r.length ≤ K → K < 124 → y ≠ (leafP r).getD K 0 → leafOut (rsmN ((leafP r).set K y)) = ⟨.tup [.nil, .d (.v (.bool false))], []⟩ ∧ decide (kindN (rsmN ((leafP r).set K y)) = 1) = false := fun K y h1 h2 h3 => by
    have h := leaf_behind hm h1 h2 h3
    refine ⟨if_neg h, decide_eq_false fun hk => ?_⟩
    unfold kindN at hk
    rw [if_neg h] at hk
    split at hk
    · omega
    · split at hk
      · omega
      · split at hk <;> omega
  clear hm hlb
  generalize leafP r = P at *
  have wa := within_rngh (v := at') (n := 124 - (3 + 7 * (r.length : Int))) (by omega)
  obtain ⟨j, hj⟩ : ∃ j : Nat, within at' (124 - (3 + 7 * (r.length : Int))) = j := ⟨(within at' (124 - (3 + 7 * (r.length : Int)))).toNat, by omega⟩
  obtain ⟨K, hK⟩ : ∃ K : Nat, K = 3 + 7 * r.length + j := ⟨_, rfl⟩
  have hK2 : K < 124 := by omega
  have hKi : (3 + 7 * (r.length : Int) + (j : Int)) = (K : Int) := by omega
  have e6 : nth (P.map mB) K = .v (.int .u8 (P.getD K 0)) := nth_B P K (by omega)
  have e2 := getD_byt hPb K
  have hs1 : (P.map mB).set 1 (.v (.int .u8 kd)) = (P.set 1 kd).map mB := by rw [List.map_set]; rfl
  have hX1 : Byt (P.set 1 kd) := fun z hz => by
    rcases List.mem_or_eq_of_mem_set hz with h | rfl
    · exact hPb z h
    · exact hkd
  have hXl1 : (P.set 1 kd).length = 128 := by rw [List.length_set, hPl]
  have hXm1 : ((P.set 1 kd).map mB).take 124 = ((P.set 1 kd).take 124).map mB := List.map_take.symm
  have hXk1 : ((P.set 1 kd).take 124).length = 124 := by rw [List.length_take]; omega
  have hXy1 : Byt ((P.set 1 kd).take 124) = True := eq_true (byt_take hX1 _)
  have hsu1 := sumd_resN (P.set 1 kd)
  have hrl1 := rsmN_len (b := P.set 1 kd) (by omega)
  have hrb1 : Byt (rsmN (P.set 1 kd)) = True := eq_true (rsmN_byt hX1)
  obtain ⟨y, hy⟩ : ∃ y, Go.bits .xor .u8 (P.getD K 0) c = y := ⟨_, rfl⟩
  have hyr : 0 ≤ y ∧ y < 256 := hy ▸ byt_xor8 _ _
  have hs2 : (P.map mB).set K (.v (.int .u8 y)) = (P.set K y).map mB := by rw [List.map_set]; rfl
  have hX2 : Byt (P.set K y) := fun z hz => by
    rcases List.mem_or_eq_of_mem_set hz with h | rfl
    · exact hPb z h
    · exact hyr
  have hXl2 : (P.set K y).length = 128 := by rw [List.length_set, hPl]
  have hXm2 : ((P.set K y).map mB).take 124 = ((P.set K y).take 124).map mB := List.map_take.symm
  have hXk2 : ((P.set K y).take 124).length = 124 := by rw [List.length_take]; omega
  have hXy2 : Byt ((P.set K y).take 124) = True := eq_true (byt_take hX2 _)
  have hsu2 := sumd_resN (P.set K y)
  have hrl2 := rsmN_len (b := P.set K y) (by omega)
  have hrb2 : Byt (rsmN (P.set K y)) = True := eq_true (rsmN_byt hX2)
  have hPy : Byt P = True := eq_true hPb
  have hPt : (P.map mB).take 128 = P.map mB := List.take_of_length_le (by rw [List.length_map, hPl]; omega)
  have ht1 : ((rsmN (P.set 1 kd)).map mB).take 128 = (rsmN (P.set 1 kd)).map mB := List.take_of_length_le (by rw [List.length_map, hrl1]; omega)
  have ht2 : ((rsmN (P.set K y)).map mB).take 128 = (rsmN (P.set K y)).map mB := List.take_of_length_le (by rw [List.length_map, hrl2]; omega)
  have dr : decide (r = r) = true := decide_eq_true rfl
  refine AW.m9 (⟨[(1, .d (.v (.int .u8 kd))), (2, .d (.v (.int .i64 at'))), (3, .d (.v (.int .u8 c))), (9, .sl 100 5 0 r.length true), (10, .sl 101 1 0 128 true)], [(100, .row 42 5 (r.map eD)), (101, .row 5 1 (P.map mB))], 104⟩) ?_ ?_
  · by_cases hk1 : kd = 1
    · have dk : decide (¬ kd = 1) = false := decide_eq_false fun h => h hk1
      clear hbk hbe
      repeat' first
 | (refine AW.seq ?_)
 | (refine AW.block ?_)
 | (refine AW.regl QW_ok [0, 1, 2, 3, 8, 9, 10, 11, 12, 14, 15, 16, 17, 18, 23, 36, 46, 52] ?_)
 | (refine then_n ?_)
 | (refine then_r ?_)
 | (refine then_x ?_)
 | (refine block_x ?_)
 | (refine block_o (by decide) ?_)
 | (refine block_n ?_)
 | (refine block_r ?_)
 | (refine AW.skip ?_)
 | (refine AW.ret ?_)
 | (refine AW.exit ?_)
 | (refine AW.cond rfl ?_ ?_ <;> (intro hc; first | cases hc | ((try rw [hc]); (try simp only [stH] at hc); (try (exfalso; omega)))))
 | ((first
       | (refine awl_none rfl fun K hK => ?_)
       | (refine awl_nil ?_)
       | (refine awl_some rfl rfl (Nat.le_of_ble_eq_true rfl) rfl rfl ?_ ?_ <;> (intro hc; first | cases hc | ((try rw [hc]); (try simp only [stH] at hc); (try (exfalso; omega)))) <;> (try intro K hK))
       | (refine awl_skip rfl rfl (Nat.le_of_ble_eq_true rfl) rfl rfl ?_))
    all_goals first
      | (show Awl _ _ _ _ _; simp only [St.upd, St.put, List.nil_append, List.cons_append, List.singleton_append, List.append_nil])
      | (simp (disch := omega) only [go_sem, Int.reduceEq, ↓reduceIte, reduceCtorEq, Nat.reduceEqDiff, Nat.reduceLT, Nat.reduceLeDiff, Nat.reduceAdd, Nat.reduceSub, Nat.reduceMul, Int.reduceToNat, Int.reduceLE, Int.reduceLT, QW, Sp_overdublaw16_Row, Sp_overdublaw20_wakes, Sp_node_PackLeaf, Sp_overdubkeep_Copy_byte, Sp_overdubref01_Summed, Sp_node_Leaf, Sp_overdubkeep_Within, Sp_overdubkeep_Same_api_Extent, Sp_node_Kind, hq, hr, n7, h0, tr, hpk, hPl, hPy, hPt, hs1, hXl1, hXm1, hXk1, hXy1, hsu1, hrl1, dk, mB_inj, eD_inj, sc_E]
         (try ((repeat' first | (refine And.intro ?_ ?_) | (intro hc; first | cases hc | ((try rw [hc]); (try simp only [stH] at hc); (try (exfalso; omega)))))
               all_goals first | (refine hK _ _ ?_; clear hK K; simp only [St.upd, St.put, List.nil_append, List.cons_append, List.singleton_append, List.append_nil]) | exact hK | omega))))
      refine ⟨nm [(100, 20), (101, 27)], Wk.of ?_⟩
      simp (disch := omega) only [go_sem, Int.reduceEq, ↓reduceIte, reduceCtorEq, Nat.reduceEqDiff, Nat.reduceLT, Nat.reduceLeDiff, Nat.reduceAdd, Nat.reduceSub, Nat.reduceMul, Int.reduceToNat, Int.reduceLE, Int.reduceLT, QW, Sp_overdublaw16_Row, Sp_overdublaw20_wakes, Sp_node_PackLeaf, Sp_overdubkeep_Copy_byte, Sp_overdubref01_Summed, Sp_node_Leaf, Sp_overdubkeep_Within, Sp_overdubkeep_Same_api_Extent, Sp_node_Kind]
      all_goals first | done | rfl | exact ⟨rfl, rfl⟩ | trace_state
    · have dk : decide (¬ kd = 1) = true := decide_eq_true hk1
      have hb := hbk hk1
      clear hbk hbe
      repeat' first
 | (refine AW.seq ?_)
 | (refine AW.block ?_)
 | (refine AW.regl QW_ok [0, 1, 2, 3, 8, 9, 10, 11, 12, 14, 15, 16, 17, 18, 23, 36, 46, 52] ?_)
 | (refine then_n ?_)
 | (refine then_r ?_)
 | (refine then_x ?_)
 | (refine block_x ?_)
 | (refine block_o (by decide) ?_)
 | (refine block_n ?_)
 | (refine block_r ?_)
 | (refine AW.skip ?_)
 | (refine AW.ret ?_)
 | (refine AW.exit ?_)
 | (refine AW.cond rfl ?_ ?_ <;> (intro hc; first | cases hc | ((try rw [hc]); (try simp only [stH] at hc); (try (exfalso; omega)))))
 | ((first
       | (refine awl_none rfl fun K hK => ?_)
       | (refine awl_nil ?_)
       | (refine awl_some rfl rfl (Nat.le_of_ble_eq_true rfl) rfl rfl ?_ ?_ <;> (intro hc; first | cases hc | ((try rw [hc]); (try simp only [stH] at hc); (try (exfalso; omega)))) <;> (try intro K hK))
       | (refine awl_skip rfl rfl (Nat.le_of_ble_eq_true rfl) rfl rfl ?_))
    all_goals first
      | (show Awl _ _ _ _ _; simp only [St.upd, St.put, List.nil_append, List.cons_append, List.singleton_append, List.append_nil])
      | (simp (disch := omega) only [go_sem, Int.reduceEq, ↓reduceIte, reduceCtorEq, Nat.reduceEqDiff, Nat.reduceLT, Nat.reduceLeDiff, Nat.reduceAdd, Nat.reduceSub, Nat.reduceMul, Int.reduceToNat, Int.reduceLE, Int.reduceLT, QW, Sp_overdublaw16_Row, Sp_overdublaw20_wakes, Sp_node_PackLeaf, Sp_overdubkeep_Copy_byte, Sp_overdubref01_Summed, Sp_node_Leaf, Sp_overdubkeep_Within, Sp_overdubkeep_Same_api_Extent, Sp_node_Kind, hq, hr, n7, h0, tr, hpk, hPl, hPy, hPt, hs1, hXl1, hXm1, hXk1, hXy1, hsu1, hrl1, hrb1, ht1, hb, dk, mB_inj, eD_inj, sc_E]
         (try ((repeat' first | (refine And.intro ?_ ?_) | (intro hc; first | cases hc | ((try rw [hc]); (try simp only [stH] at hc); (try (exfalso; omega)))))
               all_goals first | (refine hK _ _ ?_; clear hK K; simp only [St.upd, St.put, List.nil_append, List.cons_append, List.singleton_append, List.append_nil]) | exact hK | omega))))
      refine ⟨nm [(100, 20), (101, 27)], Wk.of ?_⟩
      simp (disch := omega) only [go_sem, Int.reduceEq, ↓reduceIte, reduceCtorEq, Nat.reduceEqDiff, Nat.reduceLT, Nat.reduceLeDiff, Nat.reduceAdd, Nat.reduceSub, Nat.reduceMul, Int.reduceToNat, Int.reduceLE, Int.reduceLT, QW, Sp_overdublaw16_Row, Sp_overdublaw20_wakes, Sp_node_PackLeaf, Sp_overdubkeep_Copy_byte, Sp_overdubref01_Summed, Sp_node_Leaf, Sp_overdubkeep_Within, Sp_overdubkeep_Same_api_Extent, Sp_node_Kind]
      all_goals first | done | rfl | exact ⟨rfl, rfl⟩ | trace_state
  · clear hsu1 hrl1 hrb1 ht1 hs1 hX1 hXl1 hXm1 hXk1 hXy1 hbk
    by_cases hc0 : c = 0
    · have dc : decide (c = 0) = true := decide_eq_true hc0
      have hyP : y = P.getD K 0 := by rw [← hy, hc0]; exact xor8_zero e2
      have hsP : P.set K y = P := by
        rw [hyP, List.getD_eq_getElem?_getD, List.getElem?_eq_getElem (by omega), Option.getD_some, List.set_getElem_self]
      have hq1 : rsmN (P.set K y) = P := by rw [hsP, hrs]
      have dk : decide (kindN (rsmN (P.set K y)) = 1) = true := decide_eq_true (by rw [hq1]; exact hkn)
      have hlo1 : leafOut (rsmN (P.set K y)) = ⟨.tup [.sl 0 5 0 r.length true, .d (.v (.bool true))], [(0, .row 42 5 (r.map eD))]⟩ := by rw [hq1]; exact hlo
      clear hbe hyP hsP hkn hq1 hlo
      repeat' first
 | (refine AW.seq ?_)
 | (refine AW.block ?_)
 | (refine AW.regl QW_ok [0, 1, 2, 3, 8, 9, 10, 11, 12, 14, 15, 16, 17, 18, 23, 36, 46, 52] ?_)
 | (refine then_n ?_)
 | (refine then_r ?_)
 | (refine then_x ?_)
 | (refine block_x ?_)
 | (refine block_o (by decide) ?_)
 | (refine block_n ?_)
 | (refine block_r ?_)
 | (refine AW.skip ?_)
 | (refine AW.ret ?_)
 | (refine AW.exit ?_)
 | (refine AW.cond rfl ?_ ?_ <;> (intro hc; first | cases hc | ((try rw [hc]); (try simp only [stH] at hc); (try (exfalso; omega)))))
 | ((first
       | (refine awl_none rfl fun K hK => ?_)
       | (refine awl_nil ?_)
       | (refine awl_some rfl rfl (Nat.le_of_ble_eq_true rfl) rfl rfl ?_ ?_ <;> (intro hc; first | cases hc | ((try rw [hc]); (try simp only [stH] at hc); (try (exfalso; omega)))) <;> (try intro K hK))
       | (refine awl_skip rfl rfl (Nat.le_of_ble_eq_true rfl) rfl rfl ?_))
    all_goals first
      | (show Awl _ _ _ _ _; simp only [St.upd, St.put, List.nil_append, List.cons_append, List.singleton_append, List.append_nil])
      | (simp (disch := omega) only [go_sem, Int.reduceEq, ↓reduceIte, reduceCtorEq, Nat.reduceEqDiff, Nat.reduceLT, Nat.reduceLeDiff, Nat.reduceAdd, Nat.reduceSub, Nat.reduceMul, Int.reduceToNat, Int.reduceLE, Int.reduceLT, QW, Sp_overdublaw16_Row, Sp_overdublaw20_wakes, Sp_node_PackLeaf, Sp_overdubkeep_Copy_byte, Sp_overdubref01_Summed, Sp_node_Leaf, Sp_overdubkeep_Within, Sp_overdubkeep_Same_api_Extent, Sp_node_Kind, hq, hr, n7, tr, hPl, hPy, hPt, hj, hKi, e6, hy, hs2, hXl2, hXm2, hXk2, hXy2, hsu2, hrl2, hrb2, ht2, hlo1, dc, dk, dr, mB_inj, eD_inj, sc_E]
         (try ((repeat' first | (refine And.intro ?_ ?_) | (intro hc; first | cases hc | ((try rw [hc]); (try simp only [stH] at hc); (try (exfalso; omega)))))
               all_goals first | (refine hK _ _ ?_; clear hK K; simp only [St.upd, St.put, List.nil_append, List.cons_append, List.singleton_append, List.append_nil]) | exact hK | omega))))
      (refine Ends.of (nm []) (by first | exact .inl rfl | exact .inr rfl) ?_; simp (disch := omega) only [go_sem, Int.reduceEq, ↓reduceIte, reduceCtorEq, Nat.reduceEqDiff, Nat.reduceLT, Nat.reduceLeDiff, Nat.reduceAdd, Nat.reduceSub, Nat.reduceMul, Int.reduceToNat, Int.reduceLE, Int.reduceLT, QW, Sp_overdublaw16_Row, Sp_overdublaw20_wakes, Sp_node_PackLeaf, Sp_overdubkeep_Copy_byte, Sp_overdubref01_Summed, Sp_node_Leaf, Sp_overdubkeep_Within, Sp_overdubkeep_Same_api_Extent, Sp_node_Kind])
    · have dc : decide (c = 0) = false := decide_eq_false hc0
      obtain ⟨hb, dk⟩ := hbe K y (by omega) hK2 (hy ▸ xor8_ne e2 (by omega))
      clear hbe hkn hlo hrs
      repeat' first
 | (refine AW.seq ?_)
 | (refine AW.block ?_)
 | (refine AW.regl QW_ok [0, 1, 2, 3, 8, 9, 10, 11, 12, 14, 15, 16, 17, 18, 23, 36, 46, 52] ?_)
 | (refine then_n ?_)
 | (refine then_r ?_)
 | (refine then_x ?_)
 | (refine block_x ?_)
 | (refine block_o (by decide) ?_)
 | (refine block_n ?_)
 | (refine block_r ?_)
 | (refine AW.skip ?_)
 | (refine AW.ret ?_)
 | (refine AW.exit ?_)
 | (refine AW.cond rfl ?_ ?_ <;> (intro hc; first | cases hc | ((try rw [hc]); (try simp only [stH] at hc); (try (exfalso; omega)))))
 | ((first
       | (refine awl_none rfl fun K hK => ?_)
       | (refine awl_nil ?_)
       | (refine awl_some rfl rfl (Nat.le_of_ble_eq_true rfl) rfl rfl ?_ ?_ <;> (intro hc; first | cases hc | ((try rw [hc]); (try simp only [stH] at hc); (try (exfalso; omega)))) <;> (try intro K hK))
       | (refine awl_skip rfl rfl (Nat.le_of_ble_eq_true rfl) rfl rfl ?_))
    all_goals first
      | (show Awl _ _ _ _ _; simp only [St.upd, St.put, List.nil_append, List.cons_append, List.singleton_append, List.append_nil])
      | (simp (disch := omega) only [go_sem, Int.reduceEq, ↓reduceIte, reduceCtorEq, Nat.reduceEqDiff, Nat.reduceLT, Nat.reduceLeDiff, Nat.reduceAdd, Nat.reduceSub, Nat.reduceMul, Int.reduceToNat, Int.reduceLE, Int.reduceLT, QW, Sp_overdublaw16_Row, Sp_overdublaw20_wakes, Sp_node_PackLeaf, Sp_overdubkeep_Copy_byte, Sp_overdubref01_Summed, Sp_node_Leaf, Sp_overdubkeep_Within, Sp_overdubkeep_Same_api_Extent, Sp_node_Kind, hq, hr, n7, tr, hPl, hPy, hPt, hj, hKi, e6, hy, hs2, hXl2, hXm2, hXk2, hXy2, hsu2, hrl2, hrb2, ht2, hb, dc, dk, dr, mB_inj, eD_inj, sc_E]
         (try ((repeat' first | (refine And.intro ?_ ?_) | (intro hc; first | cases hc | ((try rw [hc]); (try simp only [stH] at hc); (try (exfalso; omega)))))
               all_goals first | (refine hK _ _ ?_; clear hK K; simp only [St.upd, St.put, List.nil_append, List.cons_append, List.singleton_append, List.append_nil]) | exact hK | omega))))
      (refine Ends.of (nm []) (by first | exact .inl rfl | exact .inr rfl) ?_; simp (disch := omega) only [go_sem, Int.reduceEq, ↓reduceIte, reduceCtorEq, Nat.reduceEqDiff, Nat.reduceLT, Nat.reduceLeDiff, Nat.reduceAdd, Nat.reduceSub, Nat.reduceMul, Int.reduceToNat, Int.reduceLE, Int.reduceLT, QW, Sp_overdublaw16_Row, Sp_overdublaw20_wakes, Sp_node_PackLeaf, Sp_overdubkeep_Copy_byte, Sp_overdubref01_Summed, Sp_node_Leaf, Sp_overdubkeep_Within, Sp_overdubkeep_Same_api_Extent, Sp_node_Kind])
end Go.Proofs.Ytigkcigoiinkpaa.Am
