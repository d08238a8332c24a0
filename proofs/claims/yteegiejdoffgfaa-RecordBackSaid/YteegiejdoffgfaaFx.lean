/- Facts about this program's types, each by computation. -/
import Derived.Test.YteegiejdoffgfaaProg
import Derived.Test.YteegiejdoffgfaaAm15
import Derived.KernelRfl
set_option linter.unusedVariables false
namespace Go.Proofs.Yteegiejdoffgfaa.Am
open Go Go.RowKit Go.Proofs
def Es (t : TypeId) (n : Nat) : Prop := eqSN Try.prog t = some n
theorem Es_ok : ∀ t n, Es t n → EqS Try.prog t n := fun _ _ h => eqSN_ok h
theorem x_ar22 : ar Try.prog 22 = none := by kernel_rfl
theorem x_ar26 : ar Try.prog 26 = none := by kernel_rfl
theorem x_ar46 : ar Try.prog 46 = none := by kernel_rfl
theorem x_ar51 : ar Try.prog 51 = none := by kernel_rfl
theorem x_bt3 : isBoolT Try.prog 3 = false := by kernel_rfl
theorem x_bt9 : isBoolT Try.prog 9 = false := by kernel_rfl
theorem x_bt27 : isBoolT Try.prog 27 = false := by kernel_rfl
theorem x_bt40 : isBoolT Try.prog 40 = false := by kernel_rfl
theorem x_bt52 : isBoolT Try.prog 52 = false := by kernel_rfl
theorem x_el3 : el Try.prog 3 = none := by kernel_rfl
theorem x_el5 : el Try.prog 5 = none := by kernel_rfl
theorem x_el22 : el Try.prog 22 = some (40, 5, 40) := by kernel_rfl
theorem x_el26 : el Try.prog 26 = some (5, 1, 1) := by kernel_rfl
theorem x_el46 : el Try.prog 46 = some (3, 1, 8) := by kernel_rfl
theorem x_el51 : el Try.prog 51 = some (26, 1, 24) := by kernel_rfl
theorem x_el52 : el Try.prog 52 = none := by kernel_rfl
theorem x_es40 : Es 40 5 = True := eq_true (by show eqSN Try.prog 40 = some 5; kernel_rfl)
theorem x_fo24_0 : fo Try.prog 24 0 = some (0, 3) := by kernel_rfl
theorem x_fo24_1 : fo Try.prog 24 1 = some (1, 3) := by kernel_rfl
theorem x_fo24_2 : fo Try.prog 24 2 = some (2, 3) := by kernel_rfl
theorem x_fo24_3 : fo Try.prog 24 3 = some (3, 3) := by kernel_rfl
theorem x_fo24_4 : fo Try.prog 24 4 = some (4, 22) := by kernel_rfl
theorem x_fo40_0 : fo Try.prog 40 0 = some (0, 3) := by kernel_rfl
theorem x_fo40_1 : fo Try.prog 40 1 = some (1, 3) := by kernel_rfl
theorem x_fo40_2 : fo Try.prog 40 2 = some (2, 3) := by kernel_rfl
theorem x_fo40_3 : fo Try.prog 40 3 = some (3, 3) := by kernel_rfl
theorem x_fo40_4 : fo Try.prog 40 4 = some (4, 3) := by kernel_rfl
theorem x_ik3 : ik Try.prog 3 = some Go.IntKind.i64 := by kernel_rfl
theorem x_ik5 : ik Try.prog 5 = some Go.IntKind.u8 := by kernel_rfl
theorem x_ik9 : ik Try.prog 9 = none := by kernel_rfl
theorem x_ik26 : ik Try.prog 26 = none := by kernel_rfl
theorem x_ik52 : ik Try.prog 52 = some Go.IntKind.u64 := by kernel_rfl
theorem x_pl24 : pl Try.prog 24 = some [(0, 1), (1, 1), (2, 1), (3, 1), (4, 1)] := by kernel_rfl
theorem x_pl40 : pl Try.prog 40 = some [(0, 1), (1, 1), (2, 1), (3, 1), (4, 1)] := by kernel_rfl
theorem x_pt3 : isPtrT Try.prog 3 = false := by kernel_rfl
theorem x_pt9 : isPtrT Try.prog 9 = false := by kernel_rfl
theorem x_pt27 : isPtrT Try.prog 27 = false := by kernel_rfl
theorem x_pt40 : isPtrT Try.prog 40 = false := by kernel_rfl
theorem x_pt52 : isPtrT Try.prog 52 = false := by kernel_rfl
theorem x_slt22 : slT Try.prog 22 = true := by kernel_rfl
theorem x_slt26 : slT Try.prog 26 = true := by kernel_rfl
theorem x_slt46 : slT Try.prog 46 = true := by kernel_rfl
theorem x_slt51 : slT Try.prog 51 = true := by kernel_rfl
theorem x_st3 : strT Try.prog 3 = false := by kernel_rfl
theorem x_st5 : strT Try.prog 5 = false := by kernel_rfl
theorem x_st9 : strT Try.prog 9 = true := by kernel_rfl
theorem x_st52 : strT Try.prog 52 = false := by kernel_rfl
theorem x_tk3 : tk Try.prog 3 = some (false, 1) := by kernel_rfl
theorem x_tk5 : tk Try.prog 5 = some (false, 1) := by kernel_rfl
theorem x_tk22 : tk Try.prog 22 = some (false, 1) := by kernel_rfl
theorem x_tk24 : tk Try.prog 24 = some (true, 5) := by kernel_rfl
theorem x_tk26 : tk Try.prog 26 = some (false, 1) := by kernel_rfl
theorem x_tk40 : tk Try.prog 40 = some (true, 5) := by kernel_rfl
theorem x_un3 : (Try.prog.underlying 3).isSome = true := by kernel_rfl
theorem x_un5 : (Try.prog.underlying 5).isSome = true := by kernel_rfl
theorem x_un26 : (Try.prog.underlying 26).isSome = true := by kernel_rfl
theorem x_un52 : (Try.prog.underlying 52).isSome = true := by kernel_rfl
theorem x_zc3 : zc Try.prog 3 = some [Go.Value.int Go.IntKind.i64 0] := by kernel_rfl
theorem x_zc5 : zc Try.prog 5 = some [Go.Value.int Go.IntKind.u8 0] := by kernel_rfl
theorem x_zc24 : zc Try.prog 24 = some [Go.Value.int Go.IntKind.i64 0, Go.Value.int Go.IntKind.i64 0, Go.Value.int Go.IntKind.i64 0, Go.Value.int Go.IntKind.i64 0, Go.Value.slice none 0 0] := by kernel_rfl
theorem x_zc26 : zc Try.prog 26 = some [Go.Value.slice none 0 0] := by kernel_rfl
theorem x_zc40 : zc Try.prog 40 = some [Go.Value.int Go.IntKind.i64 0, Go.Value.int Go.IntKind.i64 0, Go.Value.int Go.IntKind.i64 0, Go.Value.int Go.IntKind.i64 0, Go.Value.int Go.IntKind.i64 0] := by kernel_rfl
end Go.Proofs.Yteegiejdoffgfaa.Am
