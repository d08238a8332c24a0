/- Facts about this program's types, each by computation. -/
import Derived.Test.YtdkolncifhgmkaaProg
import Derived.Test.YtdkolncifhgmkaaAm15
import Derived.KernelRfl
set_option linter.unusedVariables false
namespace Go.Proofs.Ytdkolncifhgmkaa.Am
open Go Go.RowKit Go.Proofs
def Es (t : TypeId) (n : Nat) : Prop := eqSN Try.prog t = some n
theorem Es_ok : ∀ t n, Es t n → EqS Try.prog t n := fun _ _ h => eqSN_ok h
theorem x_ar23 : ar Try.prog 23 = none := by kernel_rfl
theorem x_ar28 : ar Try.prog 28 = none := by kernel_rfl
theorem x_ar42 : ar Try.prog 42 = none := by kernel_rfl
theorem x_ar49 : ar Try.prog 49 = none := by kernel_rfl
theorem x_bt3 : isBoolT Try.prog 3 = false := by kernel_rfl
theorem x_bt4 : isBoolT Try.prog 4 = true := by kernel_rfl
theorem x_bt9 : isBoolT Try.prog 9 = false := by kernel_rfl
theorem x_bt25 : isBoolT Try.prog 25 = false := by kernel_rfl
theorem x_bt29 : isBoolT Try.prog 29 = false := by kernel_rfl
theorem x_bt50 : isBoolT Try.prog 50 = false := by kernel_rfl
theorem x_el3 : el Try.prog 3 = none := by kernel_rfl
theorem x_el5 : el Try.prog 5 = none := by kernel_rfl
theorem x_el23 : el Try.prog 23 = some (25, 5, 40) := by kernel_rfl
theorem x_el28 : el Try.prog 28 = some (5, 1, 1) := by kernel_rfl
theorem x_el42 : el Try.prog 42 = some (3, 1, 8) := by kernel_rfl
theorem x_el49 : el Try.prog 49 = some (28, 1, 24) := by kernel_rfl
theorem x_el50 : el Try.prog 50 = none := by kernel_rfl
theorem x_es25 : Es 25 5 = True := eq_true (by show eqSN Try.prog 25 = some 5; kernel_rfl)
theorem x_fo25_0 : fo Try.prog 25 0 = some (0, 3) := by kernel_rfl
theorem x_fo25_1 : fo Try.prog 25 1 = some (1, 3) := by kernel_rfl
theorem x_fo25_2 : fo Try.prog 25 2 = some (2, 3) := by kernel_rfl
theorem x_fo25_3 : fo Try.prog 25 3 = some (3, 3) := by kernel_rfl
theorem x_fo25_4 : fo Try.prog 25 4 = some (4, 3) := by kernel_rfl
theorem x_fo27_0 : fo Try.prog 27 0 = some (0, 3) := by kernel_rfl
theorem x_fo27_1 : fo Try.prog 27 1 = some (1, 3) := by kernel_rfl
theorem x_fo27_2 : fo Try.prog 27 2 = some (2, 3) := by kernel_rfl
theorem x_fo27_3 : fo Try.prog 27 3 = some (3, 3) := by kernel_rfl
theorem x_fo27_4 : fo Try.prog 27 4 = some (4, 23) := by kernel_rfl
theorem x_ik3 : ik Try.prog 3 = some Go.IntKind.i64 := by kernel_rfl
theorem x_ik5 : ik Try.prog 5 = some Go.IntKind.u8 := by kernel_rfl
theorem x_ik9 : ik Try.prog 9 = none := by kernel_rfl
theorem x_ik28 : ik Try.prog 28 = none := by kernel_rfl
theorem x_ik50 : ik Try.prog 50 = some Go.IntKind.u64 := by kernel_rfl
theorem x_pl25 : pl Try.prog 25 = some [(0, 1), (1, 1), (2, 1), (3, 1), (4, 1)] := by kernel_rfl
theorem x_pl27 : pl Try.prog 27 = some [(0, 1), (1, 1), (2, 1), (3, 1), (4, 1)] := by kernel_rfl
theorem x_pt3 : isPtrT Try.prog 3 = false := by kernel_rfl
theorem x_pt4 : isPtrT Try.prog 4 = false := by kernel_rfl
theorem x_pt9 : isPtrT Try.prog 9 = false := by kernel_rfl
theorem x_pt25 : isPtrT Try.prog 25 = false := by kernel_rfl
theorem x_pt29 : isPtrT Try.prog 29 = false := by kernel_rfl
theorem x_pt50 : isPtrT Try.prog 50 = false := by kernel_rfl
theorem x_slt23 : slT Try.prog 23 = true := by kernel_rfl
theorem x_slt28 : slT Try.prog 28 = true := by kernel_rfl
theorem x_slt42 : slT Try.prog 42 = true := by kernel_rfl
theorem x_slt49 : slT Try.prog 49 = true := by kernel_rfl
theorem x_st3 : strT Try.prog 3 = false := by kernel_rfl
theorem x_st5 : strT Try.prog 5 = false := by kernel_rfl
theorem x_st9 : strT Try.prog 9 = true := by kernel_rfl
theorem x_st50 : strT Try.prog 50 = false := by kernel_rfl
theorem x_tk3 : tk Try.prog 3 = some (false, 1) := by kernel_rfl
theorem x_tk5 : tk Try.prog 5 = some (false, 1) := by kernel_rfl
theorem x_tk23 : tk Try.prog 23 = some (false, 1) := by kernel_rfl
theorem x_tk25 : tk Try.prog 25 = some (true, 5) := by kernel_rfl
theorem x_tk27 : tk Try.prog 27 = some (true, 5) := by kernel_rfl
theorem x_tk28 : tk Try.prog 28 = some (false, 1) := by kernel_rfl
theorem x_un3 : (Try.prog.underlying 3).isSome = true := by kernel_rfl
theorem x_un5 : (Try.prog.underlying 5).isSome = true := by kernel_rfl
theorem x_un28 : (Try.prog.underlying 28).isSome = true := by kernel_rfl
theorem x_un50 : (Try.prog.underlying 50).isSome = true := by kernel_rfl
theorem x_zc3 : zc Try.prog 3 = some [Go.Value.int Go.IntKind.i64 0] := by kernel_rfl
theorem x_zc5 : zc Try.prog 5 = some [Go.Value.int Go.IntKind.u8 0] := by kernel_rfl
theorem x_zc25 : zc Try.prog 25 = some [Go.Value.int Go.IntKind.i64 0, Go.Value.int Go.IntKind.i64 0, Go.Value.int Go.IntKind.i64 0, Go.Value.int Go.IntKind.i64 0, Go.Value.int Go.IntKind.i64 0] := by kernel_rfl
theorem x_zc27 : zc Try.prog 27 = some [Go.Value.int Go.IntKind.i64 0, Go.Value.int Go.IntKind.i64 0, Go.Value.int Go.IntKind.i64 0, Go.Value.int Go.IntKind.i64 0, Go.Value.slice none 0 0] := by kernel_rfl
theorem x_zc28 : zc Try.prog 28 = some [Go.Value.slice none 0 0] := by kernel_rfl
end Go.Proofs.Ytdkolncifhgmkaa.Am
