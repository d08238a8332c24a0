import Derived.Test.YtfoalonjlhemmaaZCA
set_option linter.unusedVariables false
set_option linter.unusedSimpArgs false
set_option linter.unnecessarySimpa false
set_option maxRecDepth 10000
namespace Go.Proofs.Ytfoalonjlhemmaa.Am
open Go Go.RowKit Go.Proofs
theorem b8_zero : b8 0 = 0#8 := rfl
theorem ze_xor (b c : BitVec 8) : BitVec.zeroExtend 32 (b ^^^ c) <<< 24 = (BitVec.zeroExtend 32 b <<< 24) ^^^ (BitVec.zeroExtend 32 c <<< 24) := by
  rw [← BitVec.shiftLeft_xor_distrib]
  refine congrArg (fun v : BitVec 32 => v <<< 24) ?_
  simp [BitVec.setWidth_xor]
theorem cB_xor (x y : BitVec 32) (b c : BitVec 8) : cB (x ^^^ y) (b ^^^ c) = cB x b ^^^ cB y c := by
  unfold cB
  rw [← ones_xor, ze_xor]
  refine congrArg (ones 8) ?_
  generalize BitVec.zeroExtend 32 b <<< 24 = p
  generalize BitVec.zeroExtend 32 c <<< 24 = q
  ac_rfl
def x8 (b c : Int) : Int := Go.bits .xor .u8 b c
theorem x8_rng (b c : Int) : 0 ≤ x8 b c ∧ x8 b c < 256 := QC.xor8_rng _ _
theorem b8_x8 (b c : Int) : b8 (x8 b c) = b8 b ^^^ b8 c := by
  unfold x8
  rw [bits8]
  apply BitVec.eq_of_toNat_eq
  have := (b8 b ^^^ b8 c).isLt
  simp only [b8, BitVec.toNat_ofInt] at *
  omega
theorem cA_xor : ∀ (a b : List Int) (x y : BitVec 32), a.length = b.length → cA (x ^^^ y) (List.zipWith x8 a b) = cA x a ^^^ cA y b
  | [], [], x, y, _ => rfl
  | p :: a, q :: b, x, y, h => by
    simp only [List.zipWith_cons_cons, cA]
    rw [b8_x8, cB_xor]
    exact cA_xor a b _ _ (by simpa using h)
theorem crcAdd_append : ∀ (a b : List Int) (s : Int), QC.crcAdd s (a ++ b) = QC.crcAdd (QC.crcAdd s a) b
  | [], _, _ => rfl
  | x :: a, b, s => by rw [List.cons_append, QC.crcAdd, QC.crcAdd, crcAdd_append a b]
end Go.Proofs.Ytfoalonjlhemmaa.Am
