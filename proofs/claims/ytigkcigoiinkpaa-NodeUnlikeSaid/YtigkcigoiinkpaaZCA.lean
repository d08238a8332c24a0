import Derived.Test.YtigkcigoiinkpaaZCrc
import Derived.Test.YtigkcigoiinkpaaZSA
import Derived.Test.YtigkcigoiinkpaaZRA
section
set_option linter.unusedVariables false
set_option linter.unusedSimpArgs false
namespace Go.Proofs.Ytigkcigoiinkpaa.Am
open Go Go.RowKit Go.Proofs
def cP : BitVec 32 := 0x04C11DB7#32
def one (x : BitVec 32) : BitVec 32 := if x.msb then (x <<< 1) ^^^ cP else x <<< 1
def ones : Nat → BitVec 32 → BitVec 32
  | 0, x => x
  | n + 1, x => ones n (one x)
def cB (x : BitVec 32) (b : BitVec 8) : BitVec 32 := ones 8 (x ^^^ (b.zeroExtend 32 <<< 24))
def iv (x : BitVec 32) : Int := x.toNat
theorem wrap32 (y : BitVec 32) : IntKind.u32.wrap (y.toNat : Int) = iv y := by
  have := y.isLt
  unfold iv
  simp only [IntKind.wrap, IntKind.bits, IntKind.signed, Bool.false_and, Bool.false_eq_true, if_false]
  omega
end Go.Proofs.Ytigkcigoiinkpaa.Am
end
section
set_option linter.unusedVariables false
set_option linter.unusedSimpArgs false
namespace Go.Proofs.Ytigkcigoiinkpaa.Am
open Go Go.RowKit Go.Proofs
end Go.Proofs.Ytigkcigoiinkpaa.Am
end
