/- Facts about this program's types, each by computation. -/
import Derived.Test.YtalhmpmdfjofbaaProg
import Derived.Test.YtalhmpmdfjofbaaAm15
import Derived.KernelRfl
set_option linter.unusedVariables false
namespace Go.Proofs.Ytalhmpmdfjofbaa.Am
open Go Go.RowKit Go.Proofs
theorem x_ar22 : ar Try.prog 22 = none := by kernel_rfl
theorem x_ar26 : ar Try.prog 26 = none := by kernel_rfl
theorem x_ar59 : ar Try.prog 59 = none := by kernel_rfl
theorem x_ar62 : ar Try.prog 62 = none := by kernel_rfl
theorem x_bt3 : isBoolT Try.prog 3 = false := by kernel_rfl
theorem x_bt4 : isBoolT Try.prog 4 = true := by kernel_rfl
theorem x_bt5 : isBoolT Try.prog 5 = false := by kernel_rfl
theorem x_bt9 : isBoolT Try.prog 9 = false := by kernel_rfl
theorem x_bt27 : isBoolT Try.prog 27 = false := by kernel_rfl
theorem x_bt39 : isBoolT Try.prog 39 = false := by kernel_rfl
theorem x_bt63 : isBoolT Try.prog 63 = false := by kernel_rfl
theorem x_el22 : el Try.prog 22 = some (39, 5, 40) := by kernel_rfl
theorem x_el26 : el Try.prog 26 = some (5, 1, 1) := by kernel_rfl
theorem x_el59 : el Try.prog 59 = some (3, 1, 8) := by kernel_rfl
theorem x_el62 : el Try.prog 62 = some (26, 1, 24) := by kernel_rfl
theorem x_fo24_0 : fo Try.prog 24 0 = some (0, 3) := by kernel_rfl
theorem x_fo24_1 : fo Try.prog 24 1 = some (1, 3) := by kernel_rfl
theorem x_fo24_2 : fo Try.prog 24 2 = some (2, 3) := by kernel_rfl
theorem x_fo24_3 : fo Try.prog 24 3 = some (3, 3) := by kernel_rfl
theorem x_fo24_4 : fo Try.prog 24 4 = some (4, 22) := by kernel_rfl
theorem x_fo39_0 : fo Try.prog 39 0 = some (0, 3) := by kernel_rfl
theorem x_fo39_1 : fo Try.prog 39 1 = some (1, 3) := by kernel_rfl
theorem x_fo39_2 : fo Try.prog 39 2 = some (2, 3) := by kernel_rfl
theorem x_fo39_3 : fo Try.prog 39 3 = some (3, 3) := by kernel_rfl
theorem x_fo39_4 : fo Try.prog 39 4 = some (4, 3) := by kernel_rfl
theorem x_ik3 : ik Try.prog 3 = some Go.IntKind.i64 := by kernel_rfl
theorem x_ik5 : ik Try.prog 5 = some Go.IntKind.u8 := by kernel_rfl
theorem x_ik9 : ik Try.prog 9 = none := by kernel_rfl
theorem x_ik26 : ik Try.prog 26 = none := by kernel_rfl
theorem x_ik63 : ik Try.prog 63 = some Go.IntKind.u64 := by kernel_rfl
theorem x_pl24 : pl Try.prog 24 = some [(0, 1), (1, 1), (2, 1), (3, 1), (4, 1)] := by kernel_rfl
theorem x_pl39 : pl Try.prog 39 = some [(0, 1), (1, 1), (2, 1), (3, 1), (4, 1)] := by kernel_rfl
theorem x_pt3 : isPtrT Try.prog 3 = false := by kernel_rfl
theorem x_pt4 : isPtrT Try.prog 4 = false := by kernel_rfl
theorem x_pt5 : isPtrT Try.prog 5 = false := by kernel_rfl
theorem x_pt9 : isPtrT Try.prog 9 = false := by kernel_rfl
theorem x_pt27 : isPtrT Try.prog 27 = false := by kernel_rfl
theorem x_pt39 : isPtrT Try.prog 39 = false := by kernel_rfl
theorem x_pt63 : isPtrT Try.prog 63 = false := by kernel_rfl
theorem x_slt22 : slT Try.prog 22 = true := by kernel_rfl
theorem x_slt26 : slT Try.prog 26 = true := by kernel_rfl
theorem x_slt59 : slT Try.prog 59 = true := by kernel_rfl
theorem x_slt62 : slT Try.prog 62 = true := by kernel_rfl
theorem x_tk3 : tk Try.prog 3 = some (false, 1) := by kernel_rfl
theorem x_tk5 : tk Try.prog 5 = some (false, 1) := by kernel_rfl
theorem x_tk22 : tk Try.prog 22 = some (false, 1) := by kernel_rfl
theorem x_tk24 : tk Try.prog 24 = some (true, 5) := by kernel_rfl
theorem x_tk26 : tk Try.prog 26 = some (false, 1) := by kernel_rfl
theorem x_tk39 : tk Try.prog 39 = some (true, 5) := by kernel_rfl
theorem x_un3 : (Try.prog.underlying 3).isSome = true := by kernel_rfl
theorem x_un5 : (Try.prog.underlying 5).isSome = true := by kernel_rfl
theorem x_un26 : (Try.prog.underlying 26).isSome = true := by kernel_rfl
theorem x_un63 : (Try.prog.underlying 63).isSome = true := by kernel_rfl
theorem x_zc3 : zc Try.prog 3 = some [Go.Value.int Go.IntKind.i64 0] := by kernel_rfl
theorem x_zc5 : zc Try.prog 5 = some [Go.Value.int Go.IntKind.u8 0] := by kernel_rfl
theorem x_zc24 : zc Try.prog 24 = some [Go.Value.int Go.IntKind.i64 0, Go.Value.int Go.IntKind.i64 0, Go.Value.int Go.IntKind.i64 0, Go.Value.int Go.IntKind.i64 0, Go.Value.slice none 0 0] := by kernel_rfl
theorem x_zc26 : zc Try.prog 26 = some [Go.Value.slice none 0 0] := by kernel_rfl
theorem x_zc39 : zc Try.prog 39 = some [Go.Value.int Go.IntKind.i64 0, Go.Value.int Go.IntKind.i64 0, Go.Value.int Go.IntKind.i64 0, Go.Value.int Go.IntKind.i64 0, Go.Value.int Go.IntKind.i64 0] := by kernel_rfl
end Go.Proofs.Ytalhmpmdfjofbaa.Am
