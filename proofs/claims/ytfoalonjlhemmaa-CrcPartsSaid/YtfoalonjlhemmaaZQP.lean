import Derived.Test.YtfoalonjlhemmaaZKC
import Derived.Test.YtfoalonjlhemmaaZCL
set_option linter.unusedVariables false
set_option linter.unusedSimpArgs false
set_option maxRecDepth 10000
set_option maxHeartbeats 0
namespace Go.Proofs.Ytfoalonjlhemmaa.Am
open Go Go.RowKit Go.Proofs
theorem within_rngP {v n : Int} (h : 0 < n) : 0 ≤ within v n ∧ within v n < n := by
  unfold within
  rw [if_neg (by omega)]
  have h1 := Int.tmod_lt_of_pos v h
  have h2 := Int.lt_tmod_of_pos v h
  split <;> omega
def xorL (a b : List Int) (i n : Nat) : List Int := List.zipWith x8 (a.take i) (b.take i) ++ List.replicate (n - i) 0
theorem xorL_len {a b : List Int} {i n : Nat} (ha : a.length = n) (hb : b.length = n) (hi : i ≤ n) : (xorL a b i n).length = n := by
  simp [xorL, ha, hb]; omega
theorem xorL_set {a b : List Int} {i n : Nat} (ha : a.length = n) (hb : b.length = n) (hi : i < n) : (xorL a b i n).set i (x8 (a.getD i 0) (b.getD i 0)) = xorL a b (i + 1) n := by
  have hl : (List.zipWith x8 (a.take i) (b.take i)).length = i := by simp [ha, hb]; omega
  have e1 : a.take (i + 1) = a.take i ++ [a.getD i 0] := by rw [List.take_add_one, List.getD_eq_getElem?_getD, List.getElem?_eq_getElem (by omega)]; rfl
  have e2 : b.take (i + 1) = b.take i ++ [b.getD i 0] := by rw [List.take_add_one, List.getD_eq_getElem?_getD, List.getElem?_eq_getElem (by omega)]; rfl
  unfold xorL
  rw [show n - i = (n - (i + 1)) + 1 by omega, List.replicate_succ, e1, e2, List.zipWith_append (by simp [ha, hb]), List.append_assoc]
  have := set_app (List.zipWith x8 (a.take i) (b.take i)) 0 (x8 (a.getD i 0) (b.getD i 0)) (List.replicate (n - (i + 1)) 0)
  rw [hl] at this
  rw [this, List.append_assoc]; rfl
theorem x8_zero {b : Int} (hb : 0 ≤ b ∧ b < 256) : x8 b 0 = b := by
  refine b8_inj (x8_rng _ _) hb ?_
  rw [b8_x8, b8_zero, BitVec.xor_zero]
theorem zip_zero : ∀ (l : List Int), (∀ x ∈ l, 0 ≤ x ∧ x < 256) → List.zipWith x8 l (List.replicate l.length 0) = l
  | [], _ => rfl
  | x :: l, h => by
    rw [List.length_cons, List.replicate_succ, List.zipWith_cons_cons, x8_zero (h x (List.mem_cons_self ..)), zip_zero l fun y hy => h y (List.mem_cons_of_mem _ hy)]
theorem zip_byt (a b : List Int) : ∀ x ∈ List.zipWith x8 a b, 0 ≤ x ∧ x < 256 := by
  intro x hx
  obtain ⟨i, hi⟩ := List.getElem?_of_mem hx
  rw [List.getElem?_zipWith] at hi
  split at hi
  · cases hi; exact x8_rng _ _
  · cases hi
theorem sum_three {a b : List Int} (ha : Byt a) (hb : Byt b) (hl : a.length = b.length) : Go.bits .xor .u32 (Go.bits .xor .u32 (QC.crcSum a) (QC.crcSum b)) (QC.crcSum (List.replicate a.length 0)) = QC.crcSum (List.zipWith x8 a b) := by
  have e : ∀ l : List Int, (∀ x ∈ l, 0 ≤ x ∧ x < 256) → QC.crcSum l = iv (cA (bv 4294967295) l) := fun l h => crcAdd_bv l h (by omega) (by omega)
  rw [e a ha, e b hb, e _ (zip_byt a b), e (List.replicate a.length 0) (fun x hx => by rw [List.eq_of_mem_replicate hx]; omega), bits32, bits32, bv_iv, bv_iv, bv_iv, bv_iv]
  congr 1
  rw [← cA_xor a b _ _ hl, ← cA_xor _ _ _ _ (by simp; omega)]
  have hz : List.zipWith x8 (List.zipWith x8 a b) (List.replicate a.length 0) = List.zipWith x8 a b := by
    have h2 : a.length = (List.zipWith x8 a b).length := by simp; omega
    rw [h2]; exact zip_zero _ (zip_byt a b)
  rw [hz]
  generalize bv 4294967295 = M
  rw [BitVec.xor_self, BitVec.zero_xor]
def stP (a b : List Int) (n : Nat) (cut : Int) (i : Nat) : St := ⟨[(0, .d (.list (a.map mB))), (1, .d (.list (b.map mB))), (2, .d (.v (.int .i64 cut))), (6, .d (.v (.bool false))), (7, .d (.v (.int .i64 n))), (8, .ptr 24 0), (9, .sl 28 1 0 n true), (10, .sl 30 1 0 n true), (32, .d (.v (.int .i64 n))), (33, .d (.v (.int .i64 i)))],
  [(30, .row 5 1 ((List.replicate n 0).map mB)), (28, .row 5 1 ((xorL a b i n).map mB)), (24, .opq (RT false))], 87⟩
noncomputable def QP : Env := ⟨Try.prog, fun f ds out => (f = 10 ∧ Sp_crc_New ds out) ∨ (f = 12 ∧ Sp_overdubkeep_Within ds out) ∨ (f = 13 ∧ Sp_overdublaw03_wakes ds out), Es, fun _ => false, fun f vs lent out => (f = 11 ∧ Sm_crc_Table_Sum vs lent out) ∨ (f = 16 ∧ Sm_crc_Table_Add vs lent out), fun f => if f = 11 then some [1000000] else if f = 16 then some [1000000] else none⟩
theorem QP_sp : ∀ f ds out, QP.Sp f ds out → Ent QP.P f ∧ Good QP.P f (fun a b => a = ds ∧ b = out) := by
  rintro f ds out (⟨rfl, h⟩ | ⟨rfl, h⟩ | ⟨rfl, h⟩)
  · exact ⟨ent_crc_New, good_crc_New.one h⟩
  · exact ⟨ent_overdubkeep_Within, good_overdubkeep_Within.one h⟩
  · exact ⟨ent_overdublaw03_wakes, good_overdublaw03_wakes.one h⟩
theorem QP_sm : ∀ f vs lent out, QP.Sm f vs lent out → Ent QP.P f ∧ GoodM QP.P f (fun a l b => a = vs ∧ l = lent ∧ b = out) := by
  rintro f vs lent out (⟨rfl, h⟩ | ⟨rfl, h⟩)
  · exact ⟨ent_crc_Table_Sum, goodM_crc_Table_Sum.one h⟩
  · exact ⟨ent_crc_Table_Add, goodM_crc_Table_Add.one h⟩
theorem QP_ok : QP.Ok := ⟨QP_sp, Es_ok, QP_sm⟩
def Sp_overdublaw03_CrcParts (ds : List D) (out : Out) : Prop := ∃ (a b : List Int) (n : Int), ds = [.list (a.map mB), .list (b.map mB), .v (.int .i64 n)] ∧ Byt a ∧ a.length ≤ 9223372036854775807 ∧ Byt b ∧ b.length ≤ 9223372036854775807 ∧ out = ⟨.d (.v (.bool true)), []⟩
def bb_overdublaw03_CrcParts_10 : List Nat := [0, 0, 0, 0, 12, 28, 0, 0, 192, 448, 1020, 2047, 4095]
def bb_overdublaw03_CrcParts_13 : List Nat := [0, 0, 0, 0, 12, 30, 0, 0, 192, 511, 0, 0, 4095, 8191, 16383, 32767, 32767, 131071, 32767, 32767, 1048575, 2097151, 32767, 32767, 14680063, 33554431, 32767, 32767, 232783871, 536870911, 1073741823, 2147483647, 4294967295, 8589934591, 17179869183]
def bb_overdublaw03_CrcParts_2 : List Nat := [0, 0, 3, 0, 0, 24, 7, 127]
def bb_overdublaw03_CrcParts_6 : List Nat := [0, 1, 0, 4, 3, 31]
def cc_overdublaw03_CrcParts_10 : List (List (Option Bool)) := [[some false, none, none, none, none, none, none, none, none, none, none, some false, some false], [none, some false, none, none, none, none, none, none, none, none, none, some false, some false], [none, none, some false, none, some false, some false, none, none, none, none, some false, some false, some false], [none, none, none, some false, some false, some false, none, none, none, none, some false, some false, some false], [none, none, some true, some true, some false, some false, none, none, none, none, some false, some false, some false], [none, none, some true, some true, some true, some false, none, none, none, none, some false, some false, some false], [none, none, none, none, none, none, some false, none, some false, some false, some false, some false, some false], [none, none, none, none, none, none, none, some false, some false, some false, some false, some false, some false], [none, none, none, none, none, none, some true, some true, some false, some false, some false, some false, some false], [none, none, none, none, none, none, some true, some true, some true, some false, some false, some false, some false], [none, none, some true, some true, some true, some true, some true, some true, some true, some true, some false, some false, some false], [some true, some true, some true, some true, some true, some true, some true, some true, some true, some true, some true, some false, some false], [some true, some true, some true, some true, some true, some true, some true, some true, some true, some true, some true, some true, some false]]
def cc_overdublaw03_CrcParts_13 : List (List (Option Bool)) := [[some false, none, none, none, none, none, none, none, none, some false, none, none, some false, some false, some false, some false, some false, some false, some false, some false, some false, some false, some false, some false, some false, some false, some false, some false, some false, some false, some false, some false, some false, some false, some false], [none, some false, none, none, none, some false, none, none, none, some false, none, none, some false, some false, some false, some false, some false, some false, some false, some false, some false, some false, some false, some false, some false, some false, some false, some false, some false, some false, some false, some false, some false, some false, some false], [none, none, some false, none, some false, some false, none, none, none, some false, none, none, some false, some false, some false, some false, some false, some false, some false, some false, some false, some false, some false, some false, some false, some false, some false, some false, some false, some false, some false, some false, some false, some false, some false], [none, none, none, some false, some false, some false, none, none, none, some false, none, none, some false, some false, some false, some false, some false, some false, some false, some false, some false, some false, some false, some false, some false, some false, some false, some false, some false, some false, some false, some false, some false, some false, some false], [none, none, some true, some true, some false, some false, none, none, none, some false, none, none, some false, some false, some false, some false, some false, some false, some false, some false, some false, some false, some false, some false, some false, some false, some false, some false, some false, some false, some false, some false, some false, some false, some false], [none, some true, some true, some true, some true, some false, none, none, none, some false, none, none, some false, some false, some false, some false, some false, some false, some false, some false, some false, some false, some false, some false, some false, some false, some false, some false, some false, some false, some false, some false, some false, some false, some false], [none, none, none, none, none, none, some false, none, some false, some false, none, none, some false, some false, some false, some false, some false, some false, some false, some false, some false, some false, some false, some false, some false, some false, some false, some false, some false, some false, some false, some false, some false, some false, some false], [none, none, none, none, none, none, none, some false, some false, some false, none, none, some false, some false, some false, some false, some false, some false, some false, some false, some false, some false, some false, some false, some false, some false, some false, some false, some false, some false, some false, some false, some false, some false, some false], [none, none, none, none, none, none, some true, some true, some false, some false, none, none, some false, some false, some false, some false, some false, some false, some false, some false, some false, some false, some false, some false, some false, some false, some false, some false, some false, some false, some false, some false, some false, some false, some false], [some true, some true, some true, some true, some true, some true, some true, some true, some true, some false, none, none, some false, some false, some false, some false, some false, some false, some false, some false, some false, some false, some false, some false, some false, some false, some false, some false, some false, some false, some false, some false, some false, some false, some false], [none, none, none, none, none, none, none, none, none, none, some false, none, some false, some false, some false, some false, some false, some false, some false, some false, some false, some false, some false, some false, some false, some false, some false, some false, some false, some false, some false, some false, some false, some false, some false], [none, none, none, none, none, none, none, none, none, none, none, some false, some false, some false, some false, some false, some false, some false, some false, some false, some false, some false, some false, some false, some false, some false, some false, some false, some false, some false, some false, some false, some false, some false, some false], [some true, some true, some true, some true, some true, some true, some true, some true, some true, some true, some true, some true, some false, some false, some false, some false, some false, some false, some false, some false, some false, some false, some false, some false, some false, some false, some false, some false, some false, some false, some false, some false, some false, some false, some false], [some true, some true, some true, some true, some true, some true, some true, some true, some true, some true, some true, some true, some true, some false, some false, some false, some false, some false, some false, some false, some false, some false, some false, some false, some false, some false, some false, some false, some false, some false, some false, some false, some false, some false, some false], [some true, some true, some true, some true, some true, some true, some true, some true, some true, some true, some true, some true, some true, some true, some false, some false, some false, some false, some false, some false, some false, some false, some false, some false, some false, some false, some false, some false, some false, some false, some false, some false, some false, some false, some false], [some true, some true, some true, some true, some true, some true, some true, some true, some true, some true, some true, some true, some true, some true, some true, some false, none, some false, none, none, some false, some false, none, none, some false, some false, none, none, some false, some false, some false, some false, some false, some false, some false], [some true, some true, some true, some true, some true, some true, some true, some true, some true, some true, some true, some true, some true, some true, some true, none, some false, some false, none, none, some false, some false, none, none, some false, some false, none, none, some false, some false, some false, some false, some false, some false, some false], [some true, some true, some true, some true, some true, some true, some true, some true, some true, some true, some true, some true, some true, some true, some true, some true, some true, some false, none, none, some false, some false, none, none, some false, some false, none, none, some false, some false, some false, some false, some false, some false, some false], [some true, some true, some true, some true, some true, some true, some true, some true, some true, some true, some true, some true, some true, some true, some true, none, none, none, some false, none, some false, some false, none, none, some false, some false, none, none, some false, some false, some false, some false, some false, some false, some false], [some true, some true, some true, some true, some true, some true, some true, some true, some true, some true, some true, some true, some true, some true, some true, none, none, none, none, some false, some false, some false, none, none, some false, some false, none, none, some false, some false, some false, some false, some false, some false, some false], [some true, some true, some true, some true, some true, some true, some true, some true, some true, some true, some true, some true, some true, some true, some true, some true, some true, some true, some true, some true, some false, some false, none, none, some false, some false, none, none, some false, some false, some false, some false, some false, some false, some false], [some true, some true, some true, some true, some true, some true, some true, some true, some true, some true, some true, some true, some true, some true, some true, some true, some true, some true, some true, some true, some true, some false, none, none, none, some false, none, none, none, some false, some false, some false, some false, some false, some false], [some true, some true, some true, some true, some true, some true, some true, some true, some true, some true, some true, some true, some true, some true, some true, none, none, none, none, none, none, none, some false, none, some false, some false, none, none, some false, some false, some false, some false, some false, some false, some false], [some true, some true, some true, some true, some true, some true, some true, some true, some true, some true, some true, some true, some true, some true, some true, none, none, none, none, none, none, none, none, some false, some false, some false, none, none, some false, some false, some false, some false, some false, some false, some false], [some true, some true, some true, some true, some true, some true, some true, some true, some true, some true, some true, some true, some true, some true, some true, some true, some true, some true, some true, some true, some true, none, some true, some true, some false, some false, none, none, some false, some false, some false, some false, some false, some false, some false], [some true, some true, some true, some true, some true, some true, some true, some true, some true, some true, some true, some true, some true, some true, some true, some true, some true, some true, some true, some true, some true, some true, some true, some true, some true, some false, none, none, none, some false, some false, some false, some false, some false, some false], [some true, some true, some true, some true, some true, some true, some true, some true, some true, some true, some true, some true, some true, some true, some true, none, none, none, none, none, none, none, none, none, none, none, some false, none, some false, some false, some false, some false, some false, some false, some false], [some true, some true, some true, some true, some true, some true, some true, some true, some true, some true, some true, some true, some true, some true, some true, none, none, none, none, none, none, none, none, none, none, none, none, some false, some false, some false, some false, some false, some false, some false, some false], [some true, some true, some true, some true, some true, some true, some true, some true, some true, some true, some true, some true, some true, some true, some true, some true, some true, some true, some true, some true, some true, none, some true, some true, some true, none, some true, some true, some false, some false, some false, some false, some false, some false, some false], [some true, some true, some true, some true, some true, some true, some true, some true, some true, some true, some true, some true, some true, some true, some true, some true, some true, some true, some true, some true, some true, some true, some true, some true, some true, some true, some true, some true, some true, some false, some false, some false, some false, some false, some false], [some true, some true, some true, some true, some true, some true, some true, some true, some true, some true, some true, some true, some true, some true, some true, some true, some true, some true, some true, some true, some true, some true, some true, some true, some true, some true, some true, some true, some true, some true, some false, some false, some false, some false, some false], [some true, some true, some true, some true, some true, some true, some true, some true, some true, some true, some true, some true, some true, some true, some true, some true, some true, some true, some true, some true, some true, some true, some true, some true, some true, some true, some true, some true, some true, some true, some true, some false, some false, some false, some false], [some true, some true, some true, some true, some true, some true, some true, some true, some true, some true, some true, some true, some true, some true, some true, some true, some true, some true, some true, some true, some true, some true, some true, some true, some true, some true, some true, some true, some true, some true, some true, some true, some false, some false, some false], [some true, some true, some true, some true, some true, some true, some true, some true, some true, some true, some true, some true, some true, some true, some true, some true, some true, some true, some true, some true, some true, some true, some true, some true, some true, some true, some true, some true, some true, some true, some true, some true, some true, some false, some false], [some true, some true, some true, some true, some true, some true, some true, some true, some true, some true, some true, some true, some true, some true, some true, some true, some true, some true, some true, some true, some true, some true, some true, some true, some true, some true, some true, some true, some true, some true, some true, some true, some true, some true, some false]]
def cc_overdublaw03_CrcParts_2 : List (List (Option Bool)) := [[some false, none, some false, none, none, none, some false, some false], [none, some false, some false, none, none, none, some false, some false], [some true, some true, some false, none, none, none, some false, some false], [none, none, none, some false, none, some false, none, some false], [none, none, none, none, some false, some false, none, some false], [none, none, none, some true, some true, some false, none, some false], [some true, some true, some true, none, none, none, some false, some false], [some true, some true, some true, some true, some true, some true, some true, some false]]
def cc_overdublaw03_CrcParts_6 : List (List (Option Bool)) := [[some false, some false, none, none, some false, some false], [some true, some false, none, none, some false, some false], [none, none, some false, some false, none, some false], [none, none, some true, some false, none, some false], [some true, some true, none, none, some false, some false], [some true, some true, some true, some true, some true, some false]]
theorem good_overdublaw03_CrcParts : Good Try.prog 5 Sp_overdublaw03_CrcParts := by
  refine good_body (E := QP) (nt := 87) (rs := #[.tmp 6]) Try.func5 rfl rfl rfl ?_
  rintro ds out ⟨a0, b0, cut, rfl, ha0, hal, hb0, hbl, rfl⟩
  refine ⟨by simp, ?_⟩
  obtain ⟨n, hn⟩ : ∃ n : Nat, min (a0.length : Int) (min b0.length 120) = n := ⟨(min (a0.length : Int) (min b0.length 120)).toNat, by omega⟩
  have hn2 : min (min (a0.length : Int) b0.length) 120 = n := by omega
  have hna : n ≤ a0.length := by omega
  have hnb : n ≤ b0.length := by omega
  have hn120 : n ≤ 120 := by omega
  have hna' : (n : Int) ≤ a0.length := by omega
  have hnb' : (n : Int) ≤ b0.length := by omega
  obtain ⟨a, hA⟩ : ∃ l, a0.take n = l := ⟨_, rfl⟩
  obtain ⟨b, hB⟩ : ∃ l, b0.take n = l := ⟨_, rfl⟩
  have ha : Byt a := hA ▸ byt_take ha0 n
  have hb : Byt b := hB ▸ byt_take hb0 n
  have hla : a.length = n := by rw [← hA, List.length_take]; omega
  have hlb : b.length = n := by rw [← hB, List.length_take]; omega
  have hz : List.replicate n (D.v (.int .u8 0)) = (List.replicate n 0).map mB := by rw [List.map_replicate]; rfl
  repeat' first
 | refine AW.seq ?_
 | refine AW.block ?_
 | refine AW.regl QP_ok [0, 1, 2, 6, 7, 8, 9, 10, 11, 12, 26, 32, 33, 34] ?_
 | (refine AW.regc (id := 2) QP_ok follows bb_overdublaw03_CrcParts_2 (by kernel_rfl) [0, 1, 2, 6, 7, 8, 9, 10, 11, 12, 26, 32, 33, 34] ?_)
 | (refine AW.regc (id := 6) QP_ok follows bb_overdublaw03_CrcParts_6 (by kernel_rfl) [0, 1, 2, 6, 7, 8, 9, 10, 11, 12, 26, 32, 33, 34] ?_)
 | (refine AW.regc (id := 10) QP_ok follows bb_overdublaw03_CrcParts_10 (by kernel_rfl) [0, 1, 2, 6, 7, 8, 9, 10, 11, 12, 26, 32, 33, 34] ?_)
 | (refine AW.regc (id := 13) QP_ok follows bb_overdublaw03_CrcParts_13 (by kernel_rfl) [0, 1, 2, 6, 7, 8, 9, 10, 11, 12, 26, 32, 33, 34] ?_)
 | refine then_n ?_
 | refine then_r ?_
 | refine then_x ?_
 | refine block_x ?_
 | refine block_o (by decide) ?_
 | refine block_n ?_
 | refine block_r ?_
 | refine AW.skip ?_
 | refine AW.ret ?_
 | refine AW.exit ?_
 | refine AW.cond rfl ?_ ?_
 | refine awl_none rfl ?_
 | refine awl_nil2 ?_
 | refine awc_none rfl ?_
 | refine awc_some rfl rfl (Nat.le_of_ble_eq_true rfl) rfl rfl ?_ ?_
 | exact each_nil
 | (refine each_some rfl rfl (Nat.le_of_ble_eq_true rfl) rfl ?_ ?_; first | (rw [if_pos rfl]) | (rw [if_neg (by decide)]; exact ⟨rfl, rfl⟩))
 | refine each_none rfl ?_ ?_
 | refine awc_leaf2 [some 18, some 19, some 20, some 21, some 22, some 23, some 0, some 1] cc_overdublaw03_CrcParts_2 rfl (by kernel_rfl) (by kernel_rfl) ?_ ?_
 | refine awc_leaf2 [some 27, some 28, some 29, some 30, some 9, some 10] cc_overdublaw03_CrcParts_6 rfl (by kernel_rfl) (by kernel_rfl) ?_ ?_
 | refine awc_leaf2 [some 36, some 37, some 38, some 39, some 40, some 41, some 42, some 43, some 44, some 45, some 46, some 47, none] cc_overdublaw03_CrcParts_10 rfl (by kernel_rfl) (by kernel_rfl) ?_ ?_
 | refine awc_leaf2 [some 53, some 54, some 55, some 56, some 57, some 58, some 59, some 60, some 61, some 62, some 63, some 64, some 65, some 66, some 67, some 68, some 69, some 70, some 71, some 72, some 73, some 74, some 75, some 76, some 77, some 78, some 79, some 80, some 81, some 82, some 83, some 84, some 85, some 86, some 6] cc_overdublaw03_CrcParts_13 rfl (by kernel_rfl) (by kernel_rfl) ?_ ?_
 | (refine fun (hc : _ = _) => ?_; first | cases hc | ((try rw [hc]); (try simp only [stH] at hc); (try (exfalso; omega))); (try ((first | show Awl _ _ _ _ _ | show Awc _ _ _ _ _ _); simp only [stU])))
 | ((first | refine fun (K : V → List _ → _) hK => ?_ | refine fun (_ : V → V) => ?_ | refine fun (bb : Nat → Bool) K hK => ?_); simp (disch := omega) only [go_sem, Int.reduceEq, ↓reduceIte, reduceCtorEq, Nat.reduceEqDiff, Nat.reduceLT, Nat.reduceLeDiff, Nat.reduceAdd, Nat.reduceSub, Nat.reduceMul, Int.reduceToNat, Int.reduceLE, Int.reduceLT, QP, Sp_crc_New, Sp_overdubkeep_Within, Sm_crc_Table_Sum, Sm_crc_Table_Add, Sp_overdublaw03_wakes, hA, hB, hn, hn2, hna, hnb, hna', hnb', hal, hbl, cutOk, map_take', all_B, mB_inj, RT_inj, V.d.injEq, V.ptr.injEq, Prod.mk.injEq, Ob.opq.injEq, Sg3, St.updIf, ifc_nil, gt_ifc, go_ifc, ite_self, Option.none_or, Option.some_or]; (try (revert hK; intro hK; (repeat' first | (refine And.intro ?_ ?_) | (intro hc; first | cases hc | ((try rw [hc]); (try simp only [stH] at hc); (try (exfalso; omega))))); all_goals first | (refine hK _ _ ?_; clear hK K; simp only [stU]) | exact hK | omega)))
  refine AW.loop_wk (fun i : Nat => stP a b n cut i) (fun i => i ≤ n) (fun i => n - i) 0 (by omega) (fun w0 oa q w hs => Wk.sr (ρ := nm []) (Wk.of ?_) hs) ?_
  · simp (disch := omega) only [go_sem, Int.reduceEq, ↓reduceIte, reduceCtorEq, Nat.reduceEqDiff, Nat.reduceLT, Nat.reduceLeDiff, Nat.reduceAdd, Nat.reduceSub, Nat.reduceMul, Int.reduceToNat, Int.reduceLE, Int.reduceLT, QP, Sp_crc_New, Sp_overdubkeep_Within, Sm_crc_Table_Sum, Sm_crc_Table_Add, Sp_overdublaw03_wakes, stP, hz, xorL, List.take_zero, List.zipWith_nil_left, List.nil_append, Nat.sub_zero]
  intro i hi
  by_cases hin : i < n
  · have e1 : nth (a.map mB) i = .v (.int .u8 (a.getD i 0)) := nth_B a i (by omega)
    have e2 : nth (b.map mB) i = .v (.int .u8 (b.getD i 0)) := nth_B b i (by omega)
    have e3 : Go.bits .xor .u8 (a.getD i 0) (b.getD i 0) = x8 (a.getD i 0) (b.getD i 0) := rfl
    have e4 := xorL_len hla hlb hi
    have e5 : ((xorL a b i n).map mB).set i (.v (.int .u8 (x8 (a.getD i 0) (b.getD i 0)))) = (xorL a b (i + 1) n).map mB := by
      rw [← xorL_set hla hlb hin, List.map_set]; rfl
    repeat' first
 | refine AW.seq ?_
 | refine AW.block ?_
 | refine AW.regl QP_ok [0, 1, 2, 6, 7, 8, 9, 10, 11, 12, 26, 32, 33, 34] ?_
 | (refine AW.regc (id := 2) QP_ok follows bb_overdublaw03_CrcParts_2 (by kernel_rfl) [0, 1, 2, 6, 7, 8, 9, 10, 11, 12, 26, 32, 33, 34] ?_)
 | (refine AW.regc (id := 6) QP_ok follows bb_overdublaw03_CrcParts_6 (by kernel_rfl) [0, 1, 2, 6, 7, 8, 9, 10, 11, 12, 26, 32, 33, 34] ?_)
 | (refine AW.regc (id := 10) QP_ok follows bb_overdublaw03_CrcParts_10 (by kernel_rfl) [0, 1, 2, 6, 7, 8, 9, 10, 11, 12, 26, 32, 33, 34] ?_)
 | (refine AW.regc (id := 13) QP_ok follows bb_overdublaw03_CrcParts_13 (by kernel_rfl) [0, 1, 2, 6, 7, 8, 9, 10, 11, 12, 26, 32, 33, 34] ?_)
 | refine then_n ?_
 | refine then_r ?_
 | refine then_x ?_
 | refine block_x ?_
 | refine block_o (by decide) ?_
 | refine block_n ?_
 | refine block_r ?_
 | refine AW.skip ?_
 | refine AW.ret ?_
 | refine AW.exit ?_
 | refine AW.cond rfl ?_ ?_
 | refine awl_none rfl ?_
 | refine awl_nil2 ?_
 | refine awc_none rfl ?_
 | refine awc_some rfl rfl (Nat.le_of_ble_eq_true rfl) rfl rfl ?_ ?_
 | exact each_nil
 | (refine each_some rfl rfl (Nat.le_of_ble_eq_true rfl) rfl ?_ ?_; first | (rw [if_pos rfl]) | (rw [if_neg (by decide)]; exact ⟨rfl, rfl⟩))
 | refine each_none rfl ?_ ?_
 | refine awc_leaf2 [some 18, some 19, some 20, some 21, some 22, some 23, some 0, some 1] cc_overdublaw03_CrcParts_2 rfl (by kernel_rfl) (by kernel_rfl) ?_ ?_
 | refine awc_leaf2 [some 27, some 28, some 29, some 30, some 9, some 10] cc_overdublaw03_CrcParts_6 rfl (by kernel_rfl) (by kernel_rfl) ?_ ?_
 | refine awc_leaf2 [some 36, some 37, some 38, some 39, some 40, some 41, some 42, some 43, some 44, some 45, some 46, some 47, none] cc_overdublaw03_CrcParts_10 rfl (by kernel_rfl) (by kernel_rfl) ?_ ?_
 | refine awc_leaf2 [some 53, some 54, some 55, some 56, some 57, some 58, some 59, some 60, some 61, some 62, some 63, some 64, some 65, some 66, some 67, some 68, some 69, some 70, some 71, some 72, some 73, some 74, some 75, some 76, some 77, some 78, some 79, some 80, some 81, some 82, some 83, some 84, some 85, some 86, some 6] cc_overdublaw03_CrcParts_13 rfl (by kernel_rfl) (by kernel_rfl) ?_ ?_
 | (refine fun (hc : _ = _) => ?_; first | cases hc | ((try rw [hc]); (try simp only [stH] at hc); (try (exfalso; omega))); (try ((first | show Awl _ _ _ _ _ | show Awc _ _ _ _ _ _); simp only [stU])))
 | ((first | refine fun (K : V → List _ → _) hK => ?_ | refine fun (_ : V → V) => ?_ | refine fun (bb : Nat → Bool) K hK => ?_); simp (disch := omega) only [go_sem, Int.reduceEq, ↓reduceIte, reduceCtorEq, Nat.reduceEqDiff, Nat.reduceLT, Nat.reduceLeDiff, Nat.reduceAdd, Nat.reduceSub, Nat.reduceMul, Int.reduceToNat, Int.reduceLE, Int.reduceLT, QP, Sp_crc_New, Sp_overdubkeep_Within, Sm_crc_Table_Sum, Sm_crc_Table_Add, Sp_overdublaw03_wakes, stP, e1, e2, e3, e4, e5, hla, hlb, hn, hn2, hna, hnb, hna', hnb', hal, hbl, cutOk, map_take', all_B, mB_inj, RT_inj, V.d.injEq, V.ptr.injEq, Prod.mk.injEq, Ob.opq.injEq, Sg3, St.updIf, ifc_nil, gt_ifc, go_ifc, ite_self, Option.none_or, Option.some_or]; (try (revert hK; intro hK; (repeat' first | (refine And.intro ?_ ?_) | (intro hc; first | cases hc | ((try rw [hc]); (try simp only [stH] at hc); (try (exfalso; omega))))); all_goals first | (refine hK _ _ ?_; clear hK K; simp only [stU]) | exact hK | omega)))
    refine ⟨i + 1, by omega, by omega, nm [], Wk.of ?_⟩
    simp (disch := omega) only [go_sem, Int.reduceEq, ↓reduceIte, reduceCtorEq, Nat.reduceEqDiff, Nat.reduceLT, Nat.reduceLeDiff, Nat.reduceAdd, Nat.reduceSub, Nat.reduceMul, Int.reduceToNat, Int.reduceLE, Int.reduceLT, QP, Sp_crc_New, Sp_overdubkeep_Within, Sm_crc_Table_Sum, Sm_crc_Table_Add, Sp_overdublaw03_wakes, stP]
    rfl
  · obtain rfl : i = n := by omega
    have hX : xorL a b i i = List.zipWith x8 a b := by rw [xorL, Nat.sub_self, List.take_of_length_le (by omega), List.take_of_length_le (by omega)]; simp
    have hXl : (List.zipWith x8 a b).length = i := by simp [hla, hlb]
    have hXt : ((List.zipWith x8 a b).map mB).take i = (List.zipWith x8 a b).map mB := List.take_of_length_le (by simp [hla, hlb])
    have hZt : ((List.replicate i (0 : Int)).map mB).take i = (List.replicate i 0).map mB := List.take_of_length_le (by simp)
    have wk := within_rngP (v := cut) (n := i + 1) (by omega)
    obtain ⟨k, hk⟩ : ∃ k : Nat, within cut (i + 1) = k := ⟨(within cut (i + 1)).toNat, by omega⟩
    have hki : k ≤ i := by omega
    have hki' : (k : Int) ≤ i := by omega
    clear wk
    have hiw : IntKind.i64.wrap ((i : Int) + 1) = (i : Int) + 1 := wrap_id _ (by omega) (by omega)
    have hadd : QC.crcAdd (QC.crcSum (a.take k)) (a.drop k) = QC.crcSum a := by unfold QC.crcSum; rw [← crcAdd_append, List.take_append_drop]
    have r1 := QC.crcSum_rng (a.take k)
    have hlk : (a.take k).length ≤ 9223372036854775807 := by rw [List.length_take]; omega
    have hld : (a.drop k).length ≤ 9223372036854775807 := by rw [List.length_drop]; omega
    have hta : a.take i = a := List.take_of_length_le (by omega)
    have htb : b.take i = b := List.take_of_length_le (by omega)
    have hzl : (List.replicate i (0 : Int)).length = i := List.length_replicate
    have hi63 : i ≤ 9223372036854775807 := by omega
    have h3 := sum_three ha hb (by omega)
    rw [hla] at h3
    repeat' first
 | refine AW.seq ?_
 | refine AW.block ?_
 | refine AW.regl QP_ok [0, 1, 2, 6, 7, 8, 9, 10, 11, 12, 26, 32, 33, 34] ?_
 | (refine AW.regc (id := 2) QP_ok follows bb_overdublaw03_CrcParts_2 (by kernel_rfl) [0, 1, 2, 6, 7, 8, 9, 10, 11, 12, 26, 32, 33, 34] ?_)
 | (refine AW.regc (id := 6) QP_ok follows bb_overdublaw03_CrcParts_6 (by kernel_rfl) [0, 1, 2, 6, 7, 8, 9, 10, 11, 12, 26, 32, 33, 34] ?_)
 | (refine AW.regc (id := 10) QP_ok follows bb_overdublaw03_CrcParts_10 (by kernel_rfl) [0, 1, 2, 6, 7, 8, 9, 10, 11, 12, 26, 32, 33, 34] ?_)
 | (refine AW.regc (id := 13) QP_ok follows bb_overdublaw03_CrcParts_13 (by kernel_rfl) [0, 1, 2, 6, 7, 8, 9, 10, 11, 12, 26, 32, 33, 34] ?_)
 | refine then_n ?_
 | refine then_r ?_
 | refine then_x ?_
 | refine block_x ?_
 | refine block_o (by decide) ?_
 | refine block_n ?_
 | refine block_r ?_
 | refine AW.skip ?_
 | refine AW.ret ?_
 | refine AW.exit ?_
 | refine AW.cond rfl ?_ ?_
 | refine awl_none rfl ?_
 | refine awl_nil2 ?_
 | refine awc_none rfl ?_
 | refine awc_some rfl rfl (Nat.le_of_ble_eq_true rfl) rfl rfl ?_ ?_
 | exact each_nil
 | (refine each_some rfl rfl (Nat.le_of_ble_eq_true rfl) rfl ?_ ?_; first | (rw [if_pos rfl]) | (rw [if_neg (by decide)]; exact ⟨rfl, rfl⟩))
 | refine each_none rfl ?_ ?_
 | refine awc_leaf2 [some 18, some 19, some 20, some 21, some 22, some 23, some 0, some 1] cc_overdublaw03_CrcParts_2 rfl (by kernel_rfl) (by kernel_rfl) ?_ ?_
 | refine awc_leaf2 [some 27, some 28, some 29, some 30, some 9, some 10] cc_overdublaw03_CrcParts_6 rfl (by kernel_rfl) (by kernel_rfl) ?_ ?_
 | refine awc_leaf2 [some 36, some 37, some 38, some 39, some 40, some 41, some 42, some 43, some 44, some 45, some 46, some 47, none] cc_overdublaw03_CrcParts_10 rfl (by kernel_rfl) (by kernel_rfl) ?_ ?_
 | refine awc_leaf2 [some 53, some 54, some 55, some 56, some 57, some 58, some 59, some 60, some 61, some 62, some 63, some 64, some 65, some 66, some 67, some 68, some 69, some 70, some 71, some 72, some 73, some 74, some 75, some 76, some 77, some 78, some 79, some 80, some 81, some 82, some 83, some 84, some 85, some 86, some 6] cc_overdublaw03_CrcParts_13 rfl (by kernel_rfl) (by kernel_rfl) ?_ ?_
 | (refine fun (hc : _ = _) => ?_; first | cases hc | ((try rw [hc]); (try simp only [stH] at hc); (try (exfalso; omega))); (try ((first | show Awl _ _ _ _ _ | show Awc _ _ _ _ _ _); simp only [stU])))
 | ((first | refine fun (K : V → List _ → _) hK => ?_ | refine fun (_ : V → V) => ?_ | refine fun (bb : Nat → Bool) K hK => ?_); simp (disch := omega) only [go_sem, Int.reduceEq, ↓reduceIte, reduceCtorEq, Nat.reduceEqDiff, Nat.reduceLT, Nat.reduceLeDiff, Nat.reduceAdd, Nat.reduceSub, Nat.reduceMul, Int.reduceToNat, Int.reduceLE, Int.reduceLT, QP, Sp_crc_New, Sp_overdubkeep_Within, Sm_crc_Table_Sum, Sm_crc_Table_Add, Sp_overdublaw03_wakes, stP, hX, hXl, hXt, hZt, hk, hki, hki', hiw, hadd, r1.1, r1.2, hlk, hld, hi63, hta, htb, hzl, Nat.le_refl, h3, hla, hlb, map_drop', beq_self_eq_true, hn, hn2, hna, hnb, hna', hnb', hal, hbl, cutOk, map_take', all_B, mB_inj, RT_inj, V.d.injEq, V.ptr.injEq, Prod.mk.injEq, Ob.opq.injEq, Sg3, St.updIf, ifc_nil, gt_ifc, go_ifc, ite_self, Option.none_or, Option.some_or]; (try (revert hK; intro hK; (repeat' first | (refine And.intro ?_ ?_) | (intro hc; first | cases hc | ((try rw [hc]); (try simp only [stH] at hc); (try (exfalso; omega))))); all_goals first | (refine hK _ _ ?_; clear hK K; simp only [stU]) | exact hK | omega)))
    all_goals (refine Ends.of (nm []) (by first | exact .inl rfl | exact .inr rfl) ?_; simp (disch := omega) only [go_sem, Int.reduceEq, ↓reduceIte, reduceCtorEq, Nat.reduceEqDiff, Nat.reduceLT, Nat.reduceLeDiff, Nat.reduceAdd, Nat.reduceSub, Nat.reduceMul, Int.reduceToNat, Int.reduceLE, Int.reduceLT, QP, Sp_crc_New, Sp_overdubkeep_Within, Sm_crc_Table_Sum, Sm_crc_Table_Add, Sp_overdublaw03_wakes])
end Go.Proofs.Ytfoalonjlhemmaa.Am
