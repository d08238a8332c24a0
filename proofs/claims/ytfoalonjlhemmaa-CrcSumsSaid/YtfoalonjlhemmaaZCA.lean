import Derived.Test.YtfoalonjlhemmaaZCrc
set_option linter.unusedVariables false
set_option linter.unusedSimpArgs false
namespace Go.Proofs.Ytfoalonjlhemmaa.Am
open Go Go.RowKit Go.Proofs
def cP : BitVec 32 := 0x04C11DB7#32
def one (x : BitVec 32) : BitVec 32 := if x.msb then (x <<< 1) ^^^ cP else x <<< 1
def ones : Nat → BitVec 32 → BitVec 32
  | 0, x => x
  | n + 1, x => ones n (one x)
theorem one_xor (x y : BitVec 32) : one (x ^^^ y) = one x ^^^ one y := by
  unfold one
  rw [BitVec.msb_xor, BitVec.shiftLeft_xor_distrib]
  cases x.msb <;> cases y.msb <;> simp
  · exact BitVec.xor_assoc _ _ _
  · rw [BitVec.xor_assoc, BitVec.xor_assoc, BitVec.xor_comm cP]
  · rw [show (x <<< 1 ^^^ cP) ^^^ (y <<< 1 ^^^ cP) = (x <<< 1 ^^^ y <<< 1) ^^^ (cP ^^^ cP) by ac_rfl, BitVec.xor_self, BitVec.xor_zero]
theorem ones_xor : ∀ (n : Nat) (x y : BitVec 32), ones n (x ^^^ y) = ones n x ^^^ ones n y
  | 0, _, _ => rfl
  | n + 1, x, y => by rw [ones, ones, ones, one_xor, ones_xor n]
theorem ones_low : ∀ (n : Nat) (x : BitVec 32), n ≤ 8 → (∀ i, 32 - n ≤ i → x.getLsbD i = false) → ones n x = x <<< n
  | 0, x, _, _ => by simp [ones]
  | n + 1, x, hn, h => by
    have hm : x.msb = false := by rw [BitVec.msb_eq_getLsbD_last]; exact h 31 (by omega)
    have e : one x = x <<< 1 := by unfold one; rw [if_neg (by simp [hm])]
    rw [ones, e, ones_low n _ (by omega) (fun i hi => by
      rw [BitVec.getLsbD_shiftLeft]
      by_cases hi32 : i < 32
      · have : x.getLsbD (i - 1) = false := h (i - 1) (by omega)
        simp [this]
      · simp [hi32]), ← BitVec.shiftLeft_add, Nat.add_comm]
def cB (x : BitVec 32) (b : BitVec 8) : BitVec 32 := ones 8 (x ^^^ (b.zeroExtend 32 <<< 24))
theorem mask24 : ∀ i : Fin 32, (0x00FFFFFF#32).getLsbD i.val = decide (i.val < 24) := by decide
theorem cB_tab (x : BitVec 32) (b : BitVec 8) : cB x b = (x <<< 8) ^^^ ones 8 (((x >>> 24).setWidth 8 ^^^ b).setWidth 32 <<< 24) := by
  have hm : ∀ i, (x &&& 0x00FFFFFF#32).getLsbD i = (decide (i < 24) && x.getLsbD i) := by
    intro i
    rw [BitVec.getLsbD_and]
    by_cases h : i < 32
    · rw [mask24 ⟨i, h⟩, Bool.and_comm]
    · rw [BitVec.getLsbD_of_ge x i (by omega)]; simp
  have e : x ^^^ (b.zeroExtend 32 <<< 24) = (x &&& 0x00FFFFFF#32) ^^^ (((x >>> 24).setWidth 8 ^^^ b).setWidth 32 <<< 24) := by
    apply BitVec.eq_of_getLsbD_eq
    intro i hi
    rw [BitVec.getLsbD_xor, BitVec.getLsbD_xor, hm]
    simp only [BitVec.getLsbD_xor, BitVec.getLsbD_shiftLeft, BitVec.getLsbD_setWidth, BitVec.getLsbD_ushiftRight]
    by_cases h : i < 24
    · simp [h]
    · simp [h, hi, show 24 + (i - 24) = i by omega, show i - 24 < 8 by omega, show i - 24 < 32 by omega]
  have l : ones 8 (x &&& 0x00FFFFFF#32) = x <<< 8 := by
    rw [ones_low 8 _ (by omega) (fun i hi => by rw [hm, decide_eq_false (by omega), Bool.false_and])]
    apply BitVec.eq_of_getLsbD_eq
    intro i hi
    rw [BitVec.getLsbD_shiftLeft, BitVec.getLsbD_shiftLeft, hm]
    by_cases h : i < 8
    · simp [h]
    · simp [show i - 8 < 24 by omega]
  unfold cB
  rw [e, ones_xor, l]
def bv (n : Int) : BitVec 32 := BitVec.ofInt 32 n
def b8 (n : Int) : BitVec 8 := BitVec.ofInt 8 n
def iv (x : BitVec 32) : Int := x.toNat
theorem bv_iv (x : BitVec 32) : bv (iv x) = x := by
  apply BitVec.eq_of_toNat_eq; simp [bv, iv]
theorem iv_bv {n : Int} (h0 : 0 ≤ n) (h1 : n < 4294967296) : iv (bv n) = n := by
  unfold iv bv; rw [BitVec.toNat_ofInt]; omega
theorem wrap32 (y : BitVec 32) : IntKind.u32.wrap (y.toNat : Int) = iv y := by
  have := y.isLt
  unfold iv
  simp only [IntKind.wrap, IntKind.bits, IntKind.signed, Bool.false_and, Bool.false_eq_true, if_false]
  omega
theorem wrap8 (y : BitVec 8) : IntKind.u8.wrap (y.toNat : Int) = (y.toNat : Int) := by
  have := y.isLt
  simp only [IntKind.wrap, IntKind.bits, IntKind.signed, Bool.false_and, Bool.false_eq_true, if_false]
  omega
theorem bits32 (a b : Int) : Go.bits .xor .u32 a b = iv (bv a ^^^ bv b) := wrap32 _
theorem bits8 (a b : Int) : Go.bits .xor .u8 a b = ((b8 a ^^^ b8 b).toNat : Int) := wrap8 _
theorem crcOne_bv {s : Int} (h0 : 0 ≤ s) (h1 : s < 4294967296) : QC.crcOne s = iv (one (bv s)) := by
  have hm : (bv s).msb = decide (s / 2147483648 = 1) := by
    rw [BitVec.msb_eq_decide]
    have : ((bv s).toNat : Int) = s := iv_bv h0 h1
    simp only [decide_eq_decide]
    omega
  have hs : bv ((s * 2) % 4294967296) = bv s <<< 1 := by
    apply BitVec.eq_of_toNat_eq
    simp only [bv, BitVec.toNat_shiftLeft, BitVec.toNat_ofInt, Nat.shiftLeft_eq]
    omega
  unfold QC.crcOne one
  by_cases c : s / 2147483648 = 1
  · rw [if_pos c, if_pos (by rw [hm]; exact decide_eq_true c), bits32, hs]; rfl
  · rw [if_neg c, if_neg (by rw [hm, decide_eq_false c]; simp), ← hs, iv_bv (by omega) (by omega)]
theorem iv_rng (x : BitVec 32) : 0 ≤ iv x ∧ iv x < 4294967296 := by
  have := x.isLt; unfold iv; omega
theorem crcOnes_bv : ∀ (n : Nat) {s : Int}, 0 ≤ s → s < 4294967296 → QC.crcOnes n s = iv (ones n (bv s))
  | 0, s, h0, h1 => (iv_bv h0 h1).symm
  | n + 1, s, h0, h1 => by
    rw [QC.crcOnes, crcOne_bv h0 h1, crcOnes_bv n (iv_rng _).1 (iv_rng _).2, bv_iv]; rfl
def cA : BitVec 32 → List Int → BitVec 32
  | x, [] => x
  | x, b :: l => cA (cB x (b8 b)) l
theorem crcAdd_bv : ∀ (l : List Int) {s : Int}, (∀ x ∈ l, 0 ≤ x ∧ x < 256) → 0 ≤ s → s < 4294967296 → QC.crcAdd s l = iv (cA (bv s) l)
  | [], s, _, h0, h1 => (iv_bv h0 h1).symm
  | b :: l, s, hl, h0, h1 => by
    have hb := hl b (List.mem_cons_self ..)
    have e1 : bv ((s * 256) % 4294967296) = bv s <<< 8 := by
      apply BitVec.eq_of_toNat_eq
      simp only [bv, BitVec.toNat_shiftLeft, BitVec.toNat_ofInt, Nat.shiftLeft_eq]
      omega
    have e2 : bv (Go.bits .xor .u8 ((s / 16777216) % 256) b * 16777216 % 4294967296) = (((bv s >>> 24).setWidth 8 ^^^ b8 b).setWidth 32 <<< 24) := by
      have e3 : BitVec.ofInt 8 (s / 16777216 % 256) = (bv s >>> 24).setWidth 8 := by
        apply BitVec.eq_of_toNat_eq
        simp only [bv, BitVec.toNat_setWidth, BitVec.toNat_ushiftRight, BitVec.toNat_ofInt, Nat.shiftRight_eq_div_pow]
        omega
      have e4 : Go.bits .xor .u8 ((s / 16777216) % 256) b = (((bv s >>> 24).setWidth 8 ^^^ b8 b).toNat : Int) := by
        rw [bits8, ← e3]; rfl
      rw [e4]
      generalize ((bv s >>> 24).setWidth 8 ^^^ b8 b) = y
      have := y.isLt
      apply BitVec.eq_of_toNat_eq
      simp only [bv, BitVec.toNat_shiftLeft, BitVec.toNat_setWidth, BitVec.toNat_ofInt, Nat.shiftLeft_eq]
      omega
    rw [QC.crcAdd, crcAdd_bv l (fun x hx => hl x (List.mem_cons_of_mem _ hx)) (QC.xor32_rng _ _).1 (QC.xor32_rng _ _).2, cA, cB_tab, bits32, bv_iv, e1, QC.crcTab, crcOnes_bv 8 (by omega) (by omega), bv_iv, e2]
theorem cA_append : ∀ (a b : List Int) (x : BitVec 32), cA x (a ++ b) = cA (cA x a) b
  | [], _, _ => rfl
  | c :: a, b, x => cA_append a b _
end Go.Proofs.Ytfoalonjlhemmaa.Am
