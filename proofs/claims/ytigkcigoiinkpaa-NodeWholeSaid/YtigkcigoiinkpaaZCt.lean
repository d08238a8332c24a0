import Derived.Test.YtigkcigoiinkpaaZS1
import Derived.Test.YtigkcigoiinkpaaZR1
import Derived.Test.YtigkcigoiinkpaaZCm
set_option linter.unusedVariables false
set_option linter.unusedSimpArgs false
namespace Go.Proofs.Ytigkcigoiinkpaa.Am
open Go Go.RowKit Go.Proofs
theorem xor8_ne {x m : Int} (hx : 0 ≤ x ∧ x < 256) (hm : 0 < m ∧ m < 256) : Go.bits .xor .u8 x m ≠ x := by
  rw [bits8]
  intro h
  have e1 : ((b8 x).toNat : Int) = x := by simp only [b8, BitVec.toNat_ofInt]; omega
  have e2 : b8 x ^^^ b8 m = b8 x := BitVec.eq_of_toNat_eq (by omega)
  have e3 := congrArg (fun v => b8 x ^^^ v) e2
  simp only [← BitVec.xor_assoc, BitVec.xor_self, BitVec.zero_xor] at e3
  have e4 := congrArg BitVec.toNat e3
  simp only [b8, BitVec.toNat_ofInt] at e4
  simp at e4
  omega
end Go.Proofs.Ytigkcigoiinkpaa.Am
