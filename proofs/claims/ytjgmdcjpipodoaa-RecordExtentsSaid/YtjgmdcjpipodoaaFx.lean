/- Facts about this program's types, each by computation. -/
import Derived.Test.YtjgmdcjpipodoaaProg
import Derived.Test.YtjgmdcjpipodoaaAm15
import Derived.KernelRfl
set_option linter.unusedVariables false
namespace Go.Proofs.Ytjgmdcjpipodoaa.Am
open Go Go.RowKit Go.Proofs
def Es (t : TypeId) (n : Nat) : Prop := eqSN Try.prog t = some n
theorem Es_ok : ∀ t n, Es t n → EqS Try.prog t n := fun _ _ h => eqSN_ok h
theorem x_ar22 : ar Try.prog 22 = none := by kernel_rfl
theorem x_ar24 : ar Try.prog 24 = none := by kernel_rfl
theorem x_ar36 : ar Try.prog 36 = none := by kernel_rfl
theorem x_ar44 : ar Try.prog 44 = none := by kernel_rfl
theorem x_bt3 : isBoolT Try.prog 3 = false := by kernel_rfl
theorem x_bt30 : isBoolT Try.prog 30 = false := by kernel_rfl
theorem x_bt39 : isBoolT Try.prog 39 = false := by kernel_rfl
theorem x_bt45 : isBoolT Try.prog 45 = false := by kernel_rfl
theorem x_el3 : el Try.prog 3 = none := by kernel_rfl
theorem x_el5 : el Try.prog 5 = none := by kernel_rfl
theorem x_el22 : el Try.prog 22 = some (30, 5, 40) := by kernel_rfl
theorem x_el24 : el Try.prog 24 = some (5, 1, 1) := by kernel_rfl
theorem x_el36 : el Try.prog 36 = some (3, 1, 8) := by kernel_rfl
theorem x_el44 : el Try.prog 44 = some (24, 1, 24) := by kernel_rfl
theorem x_el45 : el Try.prog 45 = none := by kernel_rfl
theorem x_es30 : Es 30 5 = True := eq_true (by show eqSN Try.prog 30 = some 5; kernel_rfl)
theorem x_fo30_0 : fo Try.prog 30 0 = some (0, 3) := by kernel_rfl
theorem x_fo30_1 : fo Try.prog 30 1 = some (1, 3) := by kernel_rfl
theorem x_fo30_2 : fo Try.prog 30 2 = some (2, 3) := by kernel_rfl
theorem x_fo30_3 : fo Try.prog 30 3 = some (3, 3) := by kernel_rfl
theorem x_fo30_4 : fo Try.prog 30 4 = some (4, 3) := by kernel_rfl
theorem x_fo43_0 : fo Try.prog 43 0 = some (0, 3) := by kernel_rfl
theorem x_fo43_1 : fo Try.prog 43 1 = some (1, 3) := by kernel_rfl
theorem x_fo43_2 : fo Try.prog 43 2 = some (2, 3) := by kernel_rfl
theorem x_fo43_3 : fo Try.prog 43 3 = some (3, 3) := by kernel_rfl
theorem x_fo43_4 : fo Try.prog 43 4 = some (4, 22) := by kernel_rfl
theorem x_ik3 : ik Try.prog 3 = some Go.IntKind.i64 := by kernel_rfl
theorem x_ik5 : ik Try.prog 5 = some Go.IntKind.u8 := by kernel_rfl
theorem x_ik45 : ik Try.prog 45 = some Go.IntKind.u64 := by kernel_rfl
theorem x_pl30 : pl Try.prog 30 = some [(0, 1), (1, 1), (2, 1), (3, 1), (4, 1)] := by kernel_rfl
theorem x_pl43 : pl Try.prog 43 = some [(0, 1), (1, 1), (2, 1), (3, 1), (4, 1)] := by kernel_rfl
theorem x_pt3 : isPtrT Try.prog 3 = false := by kernel_rfl
theorem x_pt30 : isPtrT Try.prog 30 = false := by kernel_rfl
theorem x_pt39 : isPtrT Try.prog 39 = false := by kernel_rfl
theorem x_pt45 : isPtrT Try.prog 45 = false := by kernel_rfl
theorem x_slt22 : slT Try.prog 22 = true := by kernel_rfl
theorem x_slt24 : slT Try.prog 24 = true := by kernel_rfl
theorem x_slt36 : slT Try.prog 36 = true := by kernel_rfl
theorem x_slt44 : slT Try.prog 44 = true := by kernel_rfl
theorem x_st3 : strT Try.prog 3 = false := by kernel_rfl
theorem x_st5 : strT Try.prog 5 = false := by kernel_rfl
theorem x_st45 : strT Try.prog 45 = false := by kernel_rfl
theorem x_tk3 : tk Try.prog 3 = some (false, 1) := by kernel_rfl
theorem x_tk5 : tk Try.prog 5 = some (false, 1) := by kernel_rfl
theorem x_tk22 : tk Try.prog 22 = some (false, 1) := by kernel_rfl
theorem x_tk24 : tk Try.prog 24 = some (false, 1) := by kernel_rfl
theorem x_tk30 : tk Try.prog 30 = some (true, 5) := by kernel_rfl
theorem x_tk43 : tk Try.prog 43 = some (true, 5) := by kernel_rfl
theorem x_un3 : (Try.prog.underlying 3).isSome = true := by kernel_rfl
theorem x_un5 : (Try.prog.underlying 5).isSome = true := by kernel_rfl
theorem x_un45 : (Try.prog.underlying 45).isSome = true := by kernel_rfl
theorem x_zc3 : zc Try.prog 3 = some [Go.Value.int Go.IntKind.i64 0] := by kernel_rfl
theorem x_zc5 : zc Try.prog 5 = some [Go.Value.int Go.IntKind.u8 0] := by kernel_rfl
theorem x_zc24 : zc Try.prog 24 = some [Go.Value.slice none 0 0] := by kernel_rfl
theorem x_zc30 : zc Try.prog 30 = some [Go.Value.int Go.IntKind.i64 0, Go.Value.int Go.IntKind.i64 0, Go.Value.int Go.IntKind.i64 0, Go.Value.int Go.IntKind.i64 0, Go.Value.int Go.IntKind.i64 0] := by kernel_rfl
theorem x_zc43 : zc Try.prog 43 = some [Go.Value.int Go.IntKind.i64 0, Go.Value.int Go.IntKind.i64 0, Go.Value.int Go.IntKind.i64 0, Go.Value.int Go.IntKind.i64 0, Go.Value.slice none 0 0] := by kernel_rfl
end Go.Proofs.Ytjgmdcjpipodoaa.Am
