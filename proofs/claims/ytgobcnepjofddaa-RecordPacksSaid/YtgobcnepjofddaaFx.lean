/- Facts about this program's types, each by computation. -/
import Derived.Test.YtgobcnepjofddaaProg
import Derived.Test.YtgobcnepjofddaaAm15
import Derived.KernelRfl
set_option linter.unusedVariables false
namespace Go.Proofs.Ytgobcnepjofddaa.Am
open Go Go.RowKit Go.Proofs
def Es (t : TypeId) (n : Nat) : Prop := eqSN Try.prog t = some n
theorem Es_ok : ∀ t n, Es t n → EqS Try.prog t n := fun _ _ h => eqSN_ok h
theorem x_ar22 : ar Try.prog 22 = none := by kernel_rfl
theorem x_ar32 : ar Try.prog 32 = none := by kernel_rfl
theorem x_ar46 : ar Try.prog 46 = none := by kernel_rfl
theorem x_bt3 : isBoolT Try.prog 3 = false := by kernel_rfl
theorem x_bt4 : isBoolT Try.prog 4 = true := by kernel_rfl
theorem x_bt5 : isBoolT Try.prog 5 = false := by kernel_rfl
theorem x_bt33 : isBoolT Try.prog 33 = false := by kernel_rfl
theorem x_bt47 : isBoolT Try.prog 47 = false := by kernel_rfl
theorem x_el3 : el Try.prog 3 = none := by kernel_rfl
theorem x_el22 : el Try.prog 22 = some (27, 5, 40) := by kernel_rfl
theorem x_el32 : el Try.prog 32 = some (5, 1, 1) := by kernel_rfl
theorem x_el46 : el Try.prog 46 = some (32, 1, 24) := by kernel_rfl
theorem x_el47 : el Try.prog 47 = none := by kernel_rfl
theorem x_fo24_0 : fo Try.prog 24 0 = some (0, 3) := by kernel_rfl
theorem x_fo24_1 : fo Try.prog 24 1 = some (1, 3) := by kernel_rfl
theorem x_fo24_2 : fo Try.prog 24 2 = some (2, 3) := by kernel_rfl
theorem x_fo24_3 : fo Try.prog 24 3 = some (3, 3) := by kernel_rfl
theorem x_fo24_4 : fo Try.prog 24 4 = some (4, 22) := by kernel_rfl
theorem x_fo27_0 : fo Try.prog 27 0 = some (0, 3) := by kernel_rfl
theorem x_fo27_1 : fo Try.prog 27 1 = some (1, 3) := by kernel_rfl
theorem x_fo27_2 : fo Try.prog 27 2 = some (2, 3) := by kernel_rfl
theorem x_fo27_3 : fo Try.prog 27 3 = some (3, 3) := by kernel_rfl
theorem x_fo27_4 : fo Try.prog 27 4 = some (4, 3) := by kernel_rfl
theorem x_ik3 : ik Try.prog 3 = some Go.IntKind.i64 := by kernel_rfl
theorem x_ik5 : ik Try.prog 5 = some Go.IntKind.u8 := by kernel_rfl
theorem x_ik47 : ik Try.prog 47 = some Go.IntKind.u64 := by kernel_rfl
theorem x_pl24 : pl Try.prog 24 = some [(0, 1), (1, 1), (2, 1), (3, 1), (4, 1)] := by kernel_rfl
theorem x_pl27 : pl Try.prog 27 = some [(0, 1), (1, 1), (2, 1), (3, 1), (4, 1)] := by kernel_rfl
theorem x_pt3 : isPtrT Try.prog 3 = false := by kernel_rfl
theorem x_pt4 : isPtrT Try.prog 4 = false := by kernel_rfl
theorem x_pt5 : isPtrT Try.prog 5 = false := by kernel_rfl
theorem x_pt33 : isPtrT Try.prog 33 = false := by kernel_rfl
theorem x_pt47 : isPtrT Try.prog 47 = false := by kernel_rfl
theorem x_slt22 : slT Try.prog 22 = true := by kernel_rfl
theorem x_slt32 : slT Try.prog 32 = true := by kernel_rfl
theorem x_slt46 : slT Try.prog 46 = true := by kernel_rfl
theorem x_st5 : strT Try.prog 5 = false := by kernel_rfl
theorem x_st47 : strT Try.prog 47 = false := by kernel_rfl
theorem x_tk3 : tk Try.prog 3 = some (false, 1) := by kernel_rfl
theorem x_tk5 : tk Try.prog 5 = some (false, 1) := by kernel_rfl
theorem x_tk22 : tk Try.prog 22 = some (false, 1) := by kernel_rfl
theorem x_tk24 : tk Try.prog 24 = some (true, 5) := by kernel_rfl
theorem x_tk27 : tk Try.prog 27 = some (true, 5) := by kernel_rfl
theorem x_tk32 : tk Try.prog 32 = some (false, 1) := by kernel_rfl
theorem x_un3 : (Try.prog.underlying 3).isSome = true := by kernel_rfl
theorem x_un47 : (Try.prog.underlying 47).isSome = true := by kernel_rfl
theorem x_zc5 : zc Try.prog 5 = some [Go.Value.int Go.IntKind.u8 0] := by kernel_rfl
theorem x_zc24 : zc Try.prog 24 = some [Go.Value.int Go.IntKind.i64 0, Go.Value.int Go.IntKind.i64 0, Go.Value.int Go.IntKind.i64 0, Go.Value.int Go.IntKind.i64 0, Go.Value.slice none 0 0] := by kernel_rfl
theorem x_zc27 : zc Try.prog 27 = some [Go.Value.int Go.IntKind.i64 0, Go.Value.int Go.IntKind.i64 0, Go.Value.int Go.IntKind.i64 0, Go.Value.int Go.IntKind.i64 0, Go.Value.int Go.IntKind.i64 0] := by kernel_rfl
theorem x_zc32 : zc Try.prog 32 = some [Go.Value.slice none 0 0] := by kernel_rfl
end Go.Proofs.Ytgobcnepjofddaa.Am
