/- Facts about this program's types, each by computation. -/
import Derived.Test.YtljohhinokaklaaProg
import Derived.Test.YtljohhinokaklaaAm15
import Derived.KernelRfl
set_option linter.unusedVariables false
namespace Go.Proofs.Ytljohhinokaklaa.Am
open Go Go.RowKit Go.Proofs
def Es (t : TypeId) (n : Nat) : Prop := eqSN Try.prog t = some n
theorem Es_ok : ∀ t n, Es t n → EqS Try.prog t n := fun _ _ h => eqSN_ok h
theorem x_ar22 : ar Try.prog 22 = none := by kernel_rfl
theorem x_ar23 : ar Try.prog 23 = none := by kernel_rfl
theorem x_ar47 : ar Try.prog 47 = none := by kernel_rfl
theorem x_ar54 : ar Try.prog 54 = none := by kernel_rfl
theorem x_bt3 : isBoolT Try.prog 3 = false := by kernel_rfl
theorem x_bt4 : isBoolT Try.prog 4 = true := by kernel_rfl
theorem x_bt5 : isBoolT Try.prog 5 = false := by kernel_rfl
theorem x_bt9 : isBoolT Try.prog 9 = false := by kernel_rfl
theorem x_bt35 : isBoolT Try.prog 35 = false := by kernel_rfl
theorem x_bt50 : isBoolT Try.prog 50 = false := by kernel_rfl
theorem x_bt57 : isBoolT Try.prog 57 = false := by kernel_rfl
theorem x_el3 : el Try.prog 3 = none := by kernel_rfl
theorem x_el5 : el Try.prog 5 = none := by kernel_rfl
theorem x_el22 : el Try.prog 22 = some (5, 1, 1) := by kernel_rfl
theorem x_el23 : el Try.prog 23 = some (35, 5, 40) := by kernel_rfl
theorem x_el47 : el Try.prog 47 = some (3, 1, 8) := by kernel_rfl
theorem x_el54 : el Try.prog 54 = some (22, 1, 24) := by kernel_rfl
theorem x_el57 : el Try.prog 57 = none := by kernel_rfl
theorem x_es35 : Es 35 5 = True := eq_true (by show eqSN Try.prog 35 = some 5; kernel_rfl)
theorem x_fo25_0 : fo Try.prog 25 0 = some (0, 3) := by kernel_rfl
theorem x_fo25_1 : fo Try.prog 25 1 = some (1, 3) := by kernel_rfl
theorem x_fo25_2 : fo Try.prog 25 2 = some (2, 3) := by kernel_rfl
theorem x_fo25_3 : fo Try.prog 25 3 = some (3, 3) := by kernel_rfl
theorem x_fo25_4 : fo Try.prog 25 4 = some (4, 23) := by kernel_rfl
theorem x_fo35_0 : fo Try.prog 35 0 = some (0, 3) := by kernel_rfl
theorem x_fo35_1 : fo Try.prog 35 1 = some (1, 3) := by kernel_rfl
theorem x_fo35_2 : fo Try.prog 35 2 = some (2, 3) := by kernel_rfl
theorem x_fo35_3 : fo Try.prog 35 3 = some (3, 3) := by kernel_rfl
theorem x_fo35_4 : fo Try.prog 35 4 = some (4, 3) := by kernel_rfl
theorem x_ik3 : ik Try.prog 3 = some Go.IntKind.i64 := by kernel_rfl
theorem x_ik5 : ik Try.prog 5 = some Go.IntKind.u8 := by kernel_rfl
theorem x_ik9 : ik Try.prog 9 = none := by kernel_rfl
theorem x_ik22 : ik Try.prog 22 = none := by kernel_rfl
theorem x_ik57 : ik Try.prog 57 = some Go.IntKind.u64 := by kernel_rfl
theorem x_pl25 : pl Try.prog 25 = some [(0, 1), (1, 1), (2, 1), (3, 1), (4, 1)] := by kernel_rfl
theorem x_pl35 : pl Try.prog 35 = some [(0, 1), (1, 1), (2, 1), (3, 1), (4, 1)] := by kernel_rfl
theorem x_pt3 : isPtrT Try.prog 3 = false := by kernel_rfl
theorem x_pt4 : isPtrT Try.prog 4 = false := by kernel_rfl
theorem x_pt5 : isPtrT Try.prog 5 = false := by kernel_rfl
theorem x_pt9 : isPtrT Try.prog 9 = false := by kernel_rfl
theorem x_pt35 : isPtrT Try.prog 35 = false := by kernel_rfl
theorem x_pt50 : isPtrT Try.prog 50 = false := by kernel_rfl
theorem x_pt57 : isPtrT Try.prog 57 = false := by kernel_rfl
theorem x_slt22 : slT Try.prog 22 = true := by kernel_rfl
theorem x_slt23 : slT Try.prog 23 = true := by kernel_rfl
theorem x_slt47 : slT Try.prog 47 = true := by kernel_rfl
theorem x_slt54 : slT Try.prog 54 = true := by kernel_rfl
theorem x_st3 : strT Try.prog 3 = false := by kernel_rfl
theorem x_st5 : strT Try.prog 5 = false := by kernel_rfl
theorem x_st9 : strT Try.prog 9 = true := by kernel_rfl
theorem x_st57 : strT Try.prog 57 = false := by kernel_rfl
theorem x_tk3 : tk Try.prog 3 = some (false, 1) := by kernel_rfl
theorem x_tk5 : tk Try.prog 5 = some (false, 1) := by kernel_rfl
theorem x_tk22 : tk Try.prog 22 = some (false, 1) := by kernel_rfl
theorem x_tk23 : tk Try.prog 23 = some (false, 1) := by kernel_rfl
theorem x_tk25 : tk Try.prog 25 = some (true, 5) := by kernel_rfl
theorem x_tk35 : tk Try.prog 35 = some (true, 5) := by kernel_rfl
theorem x_un3 : (Try.prog.underlying 3).isSome = true := by kernel_rfl
theorem x_un5 : (Try.prog.underlying 5).isSome = true := by kernel_rfl
theorem x_un22 : (Try.prog.underlying 22).isSome = true := by kernel_rfl
theorem x_un57 : (Try.prog.underlying 57).isSome = true := by kernel_rfl
theorem x_zc3 : zc Try.prog 3 = some [Go.Value.int Go.IntKind.i64 0] := by kernel_rfl
theorem x_zc5 : zc Try.prog 5 = some [Go.Value.int Go.IntKind.u8 0] := by kernel_rfl
theorem x_zc22 : zc Try.prog 22 = some [Go.Value.slice none 0 0] := by kernel_rfl
theorem x_zc25 : zc Try.prog 25 = some [Go.Value.int Go.IntKind.i64 0, Go.Value.int Go.IntKind.i64 0, Go.Value.int Go.IntKind.i64 0, Go.Value.int Go.IntKind.i64 0, Go.Value.slice none 0 0] := by kernel_rfl
theorem x_zc35 : zc Try.prog 35 = some [Go.Value.int Go.IntKind.i64 0, Go.Value.int Go.IntKind.i64 0, Go.Value.int Go.IntKind.i64 0, Go.Value.int Go.IntKind.i64 0, Go.Value.int Go.IntKind.i64 0] := by kernel_rfl
end Go.Proofs.Ytljohhinokaklaa.Am
