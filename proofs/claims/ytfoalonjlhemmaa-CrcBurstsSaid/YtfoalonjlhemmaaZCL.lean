import Derived.Test.YtfoalonjlhemmaaZCA
set_option linter.unusedVariables false
set_option linter.unusedSimpArgs false
set_option linter.unnecessarySimpa false
set_option maxRecDepth 10000
namespace Go.Proofs.Ytfoalonjlhemmaa.Am
open Go Go.RowKit Go.Proofs
theorem ones_zero : ∀ n, ones n 0#32 = 0#32
  | 0 => rfl
  | n + 1 => by rw [ones, show one 0#32 = 0#32 by decide, ones_zero n]
theorem ones_add : ∀ (n m : Nat) (x : BitVec 32), ones (n + m) x = ones m (ones n x)
  | 0, m, x => by rw [Nat.zero_add]; rfl
  | n + 1, m, x => by rw [show n + 1 + m = (n + m) + 1 by omega, ones, ones, ones_add n m]
theorem cB_zero (x : BitVec 32) : cB x 0#8 = ones 8 x := by
  unfold cB
  rw [show (BitVec.zeroExtend 32 0#8 <<< 24) = 0#32 by decide, BitVec.xor_zero]
theorem ze_xor (b c : BitVec 8) : BitVec.zeroExtend 32 (b ^^^ c) <<< 24 = (BitVec.zeroExtend 32 b <<< 24) ^^^ (BitVec.zeroExtend 32 c <<< 24) := by
  rw [← BitVec.shiftLeft_xor_distrib]
  refine congrArg (fun v : BitVec 32 => v <<< 24) ?_
  simp [BitVec.setWidth_xor]
theorem cB_xor (x y : BitVec 32) (b c : BitVec 8) : cB (x ^^^ y) (b ^^^ c) = cB x b ^^^ cB y c := by
  unfold cB
  rw [← ones_xor, ze_xor]
  refine congrArg (ones 8) ?_
  generalize BitVec.zeroExtend 32 b <<< 24 = p
  generalize BitVec.zeroExtend 32 c <<< 24 = q
  ac_rfl
def x8 (b c : Int) : Int := Go.bits .xor .u8 b c
theorem x8_rng (b c : Int) : 0 ≤ x8 b c ∧ x8 b c < 256 := QC.xor8_rng _ _
theorem b8_x8 (b c : Int) : b8 (x8 b c) = b8 b ^^^ b8 c := by
  unfold x8
  rw [bits8]
  apply BitVec.eq_of_toNat_eq
  have := (b8 b ^^^ b8 c).isLt
  simp only [b8, BitVec.toNat_ofInt] at *
  omega
def top (x : BitVec 32) : BitVec 8 := (x >>> 24).setWidth 8
theorem cB_top (x : BitVec 32) : cB x (top x) = x <<< 8 := by
  rw [cB_tab]
  unfold top
  rw [BitVec.xor_self, show (BitVec.setWidth 32 0#8 <<< 24) = 0#32 by decide, ones_zero, BitVec.xor_zero]
def by4 (s : Int) : List Int := [s / 16777216 % 256, s / 65536 % 256, s / 256 % 256, s % 256]
theorem top_shift {s : Int} (h0 : 0 ≤ s) (h1 : s < 4294967296) (x : BitVec 32) (hx : (x.toNat : Int) = s) : top x = b8 (s / 16777216 % 256) := by
  apply BitVec.eq_of_toNat_eq
  simp only [top, b8, BitVec.toNat_setWidth, BitVec.toNat_ushiftRight, BitVec.toNat_ofInt, Nat.shiftRight_eq_div_pow]
  omega
theorem cA_own {s : Int} (h0 : 0 ≤ s) (h1 : s < 4294967296) : cA (bv s) (by4 s) = 0#32 := by
  have e0 : ((bv s).toNat : Int) = s := iv_bv h0 h1
  have sh : ∀ (x : BitVec 32), ((x <<< 8).toNat : Int) = (x.toNat : Int) * 256 % 4294967296 := by
    intro x
    simp only [BitVec.toNat_shiftLeft, Nat.shiftLeft_eq]
    omega
  have t1 : top (bv s) = b8 (s / 16777216 % 256) := top_shift h0 h1 _ e0
  have e1 : ((bv s <<< 8).toNat : Int) = s * 256 % 4294967296 := by rw [sh, e0]
  have t2 : top (bv s <<< 8) = b8 (s / 65536 % 256) := by rw [top_shift (by omega) (by omega) _ e1]; congr 1; omega
  have e2 : ((bv s <<< 8 <<< 8).toNat : Int) = s * 65536 % 4294967296 := by rw [sh, e1]; omega
  have t3 : top (bv s <<< 8 <<< 8) = b8 (s / 256 % 256) := by rw [top_shift (by omega) (by omega) _ e2]; congr 1; omega
  have e3 : ((bv s <<< 8 <<< 8 <<< 8).toNat : Int) = s * 16777216 % 4294967296 := by rw [sh, e2]; omega
  have t4 : top (bv s <<< 8 <<< 8 <<< 8) = b8 (s % 256) := by rw [top_shift (by omega) (by omega) _ e3]; congr 1; omega
  have e4 : ((bv s <<< 8 <<< 8 <<< 8 <<< 8).toNat : Int) = 0 := by rw [sh, e3]; omega
  unfold by4
  simp only [cA]
  rw [← t1, cB_top, ← t2, cB_top, ← t3, cB_top, ← t4, cB_top]
  exact BitVec.eq_of_toNat_eq (by simpa using e4)
theorem by4_byt (s : Int) : ∀ x ∈ by4 s, 0 ≤ x ∧ x < 256 := by
  intro x hx
  simp only [by4, List.mem_cons, List.not_mem_nil, or_false] at hx
  rcases hx with rfl | rfl | rfl | rfl <;> omega
theorem sum_own {l : List Int} (h : ∀ x ∈ l, 0 ≤ x ∧ x < 256) : QC.crcSum (l ++ by4 (QC.crcSum l)) = 0 := by
  have hr := QC.crcSum_rng l
  have hs : QC.crcSum l = iv (cA (bv 4294967295) l) := crcAdd_bv l h (by omega) (by omega)
  unfold QC.crcSum
  rw [crcAdd_bv _ (fun x hx => by
    rcases List.mem_append.1 hx with hx | hx
    · exact h x hx
    · exact by4_byt _ x hx) (by omega) (by omega), cA_append]
  have e : bv (QC.crcSum l) = cA (bv 4294967295) l := by rw [hs, bv_iv]
  rw [← e]
  show iv (cA (bv (QC.crcSum l)) (by4 (QC.crcSum l))) = 0
  rw [cA_own hr.1 hr.2]; rfl
end Go.Proofs.Ytfoalonjlhemmaa.Am
