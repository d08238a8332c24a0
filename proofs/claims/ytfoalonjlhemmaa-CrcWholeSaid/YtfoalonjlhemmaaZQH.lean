import Derived.Test.YtfoalonjlhemmaaZKC
import Derived.Test.YtfoalonjlhemmaaZCL
set_option linter.unusedVariables false
set_option linter.unusedSimpArgs false
set_option maxRecDepth 10000
set_option maxHeartbeats 0
namespace Go.Proofs.Ytfoalonjlhemmaa.Am
open Go Go.RowKit Go.Proofs
theorem within_rngW {v n : Int} (h : 0 < n) : 0 ≤ within v n ∧ within v n < n := by
  unfold within
  rw [if_neg (by omega)]
  have h1 := Int.tmod_lt_of_pos v h
  have h2 := Int.lt_tmod_of_pos v h
  split <;> omega
def own4 (l : List Int) : List Int := l ++ by4 (QC.crcSum l)
theorem own4_len (l : List Int) : (own4 l).length = l.length + 4 := by simp [own4, by4]
theorem own4_sum {l : List Int} (h : Byt l) : QC.crcSum (own4 l) = 0 := sum_own h
theorem own4_more {l : List Int} (h : Byt l) (z : List Int) : QC.crcSum (own4 l ++ z) = QC.crcAdd 0 z := by
  unfold QC.crcSum
  rw [crcAdd_append]
  have := own4_sum h
  unfold QC.crcSum at this
  rw [this]
theorem p24 : (2 : Int) ^ 24 = 16777216 := by decide
theorem p16 : (2 : Int) ^ 16 = 65536 := by decide
theorem p8 : (2 : Int) ^ 8 = 256 := by decide
theorem inT_int : inT Try.prog 3 = true := by kernel_rfl
noncomputable def QH : Env := ⟨Try.prog, fun f ds out => (f = 14 ∧ Sp_overdubkeep_Cut_byte ds out) ∨ (f = 15 ∧ Sp_overdubkeep_Copy_byte ds out) ∨ (f = 10 ∧ Sp_crc_New ds out) ∨ (f = 12 ∧ Sp_overdubkeep_Within ds out) ∨ (f = 13 ∧ Sp_overdublaw03_wakes ds out), Es, fun _ => false, fun f vs lent out => (f = 11 ∧ Sm_crc_Table_Sum vs lent out), fun f => if f = 11 then some [1000000] else none⟩
theorem QH_sp : ∀ f ds out, QH.Sp f ds out → Ent QH.P f ∧ Good QH.P f (fun a b => a = ds ∧ b = out) := by
  rintro f ds out (⟨rfl, h⟩ | ⟨rfl, h⟩ | ⟨rfl, h⟩ | ⟨rfl, h⟩ | ⟨rfl, h⟩)
  · exact ⟨ent_overdubkeep_Cut_byte, good_overdubkeep_Cut_byte.one h⟩
  · exact ⟨ent_overdubkeep_Copy_byte, good_overdubkeep_Copy_byte.one h⟩
  · exact ⟨ent_crc_New, good_crc_New.one h⟩
  · exact ⟨ent_overdubkeep_Within, good_overdubkeep_Within.one h⟩
  · exact ⟨ent_overdublaw03_wakes, good_overdublaw03_wakes.one h⟩
theorem QH_sm : ∀ f vs lent out, QH.Sm f vs lent out → Ent QH.P f ∧ GoodM QH.P f (fun a l b => a = vs ∧ l = lent ∧ b = out) := by
  rintro f vs lent out ⟨rfl, h⟩
  exact ⟨ent_crc_Table_Sum, goodM_crc_Table_Sum.one h⟩
theorem QH_ok : QH.Ok := ⟨QH_sp, Es_ok, QH_sm⟩
def Sp_overdublaw03_CrcWhole (ds : List D) (out : Out) : Prop := ∃ (a b : List Int) (n : Int), ds = [.list (a.map mB), .list (b.map mB), .v (.int .i64 n)] ∧ Byt a ∧ a.length ≤ 9223372036854775807 ∧ Byt b ∧ b.length ≤ 9223372036854775807 ∧ out = ⟨.d (.v (.bool true)), []⟩
theorem good_overdublaw03_CrcWhole : Good Try.prog 4 Sp_overdublaw03_CrcWhole := by
  refine good_body (E := QH) (nt := 77) (rs := #[.tmp 6]) Try.func4 rfl rfl rfl ?_
  rintro ds out ⟨a0, b0, n0, rfl, ha0, hal, hb0, hbl, rfl⟩
  refine ⟨by simp, ?_⟩
  obtain ⟨a, hA⟩ : ∃ l, a0.take 80 = l := ⟨_, rfl⟩
  obtain ⟨b, hB⟩ : ∃ l, b0.take 80 = l := ⟨_, rfl⟩
  have ha : Byt a := hA ▸ byt_take ha0 80
  have hb : Byt b := hB ▸ byt_take hb0 80
  have ha2 : a.length ≤ 80 := by rw [← hA, List.length_take]; omega
  have hb2 : b.length ≤ 80 := by rw [← hB, List.length_take]; omega
  have wn := within_rngW (v := n0) (n := 9) (by omega)
  obtain ⟨n, hn⟩ : ∃ n : Nat, within n0 9 = n := ⟨(within n0 9).toNat, by omega⟩
  have hn9 : n < 9 := by omega
  clear wn
  have ra := QC.crcSum_rng a
  have rb := QC.crcSum_rng b
  have sa : (a.map mB ++ [.v (.int .u8 (QC.crcSum a / 2 ^ 24 % 256)), .v (.int .u8 (QC.crcSum a / 2 ^ 16 % 256)), .v (.int .u8 (QC.crcSum a / 2 ^ 8 % 256)), .v (.int .u8 (QC.crcSum a % 256))] : List D) = (own4 a).map mB := by rw [p24, p16, p8, own4, List.map_append]; rfl
  have sb : (b.map mB ++ [.v (.int .u8 (QC.crcSum b / 2 ^ 24 % 256)), .v (.int .u8 (QC.crcSum b / 2 ^ 16 % 256)), .v (.int .u8 (QC.crcSum b / 2 ^ 8 % 256)), .v (.int .u8 (QC.crcSum b % 256))] : List D) = (own4 b).map mB := by rw [p24, p16, p8, own4, List.map_append]; rfl
  have la := own4_len a
  have lb := own4_len b
  have la3 : (own4 a).length ≤ 9223372036854775807 := by omega
  have hat : (a.map mB).take a.length = a.map mB := List.take_of_length_le (by simp)
  have hbt : (b.map mB).take b.length = b.map mB := List.take_of_length_le (by simp)
  have hxt : ((own4 a).map mB).take (a.length + 4) = (own4 a).map mB := List.take_of_length_le (by simp [la])
  have hyt : ((own4 b).map mB).take (b.length + 4) = (own4 b).map mB := List.take_of_length_le (by simp [lb])
  have za := own4_sum ha
  have ma := own4_more ha (List.replicate n 0)
  have mb := own4_more hb (List.replicate n 0)
  have ga : (own4 a).map mB ++ List.replicate n (.v (.int .u8 0)) = (own4 a ++ List.replicate n 0).map mB := by rw [List.map_append, List.map_replicate]; rfl
  have gb : (own4 b).map mB ++ List.replicate n (.v (.int .u8 0)) = (own4 b ++ List.replicate n 0).map mB := by rw [List.map_append, List.map_replicate]; rfl
  have gal : (own4 a ++ List.replicate n 0).length = a.length + 4 + n := by rw [List.length_append, la, List.length_replicate]
  have gbl : (own4 b ++ List.replicate n 0).length = b.length + 4 + n := by rw [List.length_append, lb, List.length_replicate]
  have gat : ((own4 a ++ List.replicate n 0).map mB).take (a.length + 4 + n) = (own4 a ++ List.replicate n 0).map mB := List.take_of_length_le (by simp [la])
  have gbt : ((own4 b ++ List.replicate n 0).map mB).take (b.length + 4 + n) = (own4 b ++ List.replicate n 0).map mB := List.take_of_length_le (by simp [lb])
  repeat' first
 | refine AW.seq ?_
 | refine AW.block ?_
 | refine AW.regl QH_ok [0, 1, 2, 6, 7, 8, 9, 10, 11, 20] ?_
 | refine then_n ?_
 | refine then_r ?_
 | refine then_x ?_
 | refine block_x ?_
 | refine block_o (by decide) ?_
 | refine block_n ?_
 | refine block_r ?_
 | refine AW.skip ?_
 | refine AW.ret ?_
 | refine AW.exit ?_
 | refine AW.cond rfl ?_ ?_
 | refine awl_none rfl ?_
 | refine awl_nil2 ?_
 | refine awl_some rfl rfl (Nat.le_of_ble_eq_true rfl) rfl rfl ?_ ?_
 | (refine fun (hc : _ = _) => ?_; first | cases hc | ((try rw [hc]); (try simp only [stH] at hc); (try (exfalso; omega))); (try (show Awl _ _ _ _ _; simp only [stU])))
 | ((first | refine fun (K : V → List _ → _) hK => ?_ | refine fun (_ : V → V) => ?_); simp (disch := omega) only [go_sem, Int.reduceEq, ↓reduceIte, reduceCtorEq, Nat.reduceEqDiff, Nat.reduceLT, Nat.reduceLeDiff, Nat.reduceAdd, Nat.reduceSub, Nat.reduceMul, Int.reduceToNat, Int.reduceLE, Int.reduceLT, QH, Sp_overdubkeep_Cut_byte, Sp_overdubkeep_Within, Sp_crc_New, Sm_crc_Table_Sum, Sp_overdubkeep_Copy_byte, Sp_overdublaw03_wakes, hA, hB, hn, hal, hbl, sa, sb, la, lb, hat, hbt, hxt, hyt, za, ma, mb, ga, gb, gal, gbl, gat, gbt, inT_int, wrap_u8, all_B, mB_inj, RT_inj, V.d.injEq, V.ptr.injEq, Prod.mk.injEq, Ob.opq.injEq]; (try (revert hK; intro hK; (repeat' first | (refine And.intro ?_ ?_) | (intro hc; first | cases hc | ((try rw [hc]); (try simp only [stH] at hc); (try (exfalso; omega))))); all_goals first | (refine hK _ _ ?_; clear hK K; simp only [stU]) | exact hK | omega)))
  all_goals (refine Ends.of (nm []) (by first | exact .inl rfl | exact .inr rfl) ?_; simp (disch := omega) only [go_sem, Int.reduceEq, ↓reduceIte, reduceCtorEq, Nat.reduceEqDiff, Nat.reduceLT, Nat.reduceLeDiff, Nat.reduceAdd, Nat.reduceSub, Nat.reduceMul, Int.reduceToNat, Int.reduceLE, Int.reduceLT, QH, Sp_overdubkeep_Cut_byte, Sp_overdubkeep_Within, Sp_crc_New, Sm_crc_Table_Sum, Sp_overdubkeep_Copy_byte, Sp_overdublaw03_wakes])
end Go.Proofs.Ytfoalonjlhemmaa.Am
