import Derived.Test.YtaiaackeljlbfaaProg
import Derived.KernelRfl
import Derived.Test.YtaiaackeljlbfaaZSl
set_option linter.unusedVariables false
namespace Go.Proofs.Ytaiaackeljlbfaa.Am
open Go Go.RowKit Go.Proofs
def Es (t : TypeId) (n : Nat) : Prop := eqSN Try.prog t = some n
theorem Es_ok : ∀ t n, Es t n → EqS Try.prog t n := fun _ _ h => eqSN_ok h
theorem x_ar23 : ar Try.prog 23 = none := by kernel_rfl
theorem x_ar27 : ar Try.prog 27 = none := by kernel_rfl
theorem x_ar60 : ar Try.prog 60 = none := by kernel_rfl
theorem x_ar63 : ar Try.prog 63 = none := by kernel_rfl
theorem x_ar81 : ar Try.prog 81 = some (256, 1) := by kernel_rfl
theorem x_bt2 : isBoolT Try.prog 2 = false := by kernel_rfl
theorem x_bt3 : isBoolT Try.prog 3 = false := by kernel_rfl
theorem x_bt4 : isBoolT Try.prog 4 = true := by kernel_rfl
theorem x_bt5 : isBoolT Try.prog 5 = false := by kernel_rfl
theorem x_bt9 : isBoolT Try.prog 9 = false := by kernel_rfl
theorem x_bt21 : isBoolT Try.prog 21 = false := by kernel_rfl
theorem x_bt24 : isBoolT Try.prog 24 = false := by kernel_rfl
theorem x_bt56 : isBoolT Try.prog 56 = false := by kernel_rfl
theorem x_bt64 : isBoolT Try.prog 64 = false := by kernel_rfl
theorem x_el3 : el Try.prog 3 = none := by kernel_rfl
theorem x_el5 : el Try.prog 5 = none := by kernel_rfl
theorem x_el23 : el Try.prog 23 = some (29, 5, 56) := by kernel_rfl
theorem x_el27 : el Try.prog 27 = some (5, 1, 1) := by kernel_rfl
theorem x_el56 : el Try.prog 56 = none := by kernel_rfl
theorem x_el60 : el Try.prog 60 = some (3, 1, 8) := by kernel_rfl
theorem x_el63 : el Try.prog 63 = some (27, 1, 24) := by kernel_rfl
theorem x_el64 : el Try.prog 64 = none := by kernel_rfl
theorem x_el81 : el Try.prog 81 = none := by kernel_rfl
theorem x_el94 : el Try.prog 94 = none := by kernel_rfl
theorem x_fo29_0 : fo Try.prog 29 0 = some (0, 3) := by kernel_rfl
theorem x_fo29_1 : fo Try.prog 29 1 = some (1, 3) := by kernel_rfl
theorem x_fo29_2 : fo Try.prog 29 2 = some (2, 3) := by kernel_rfl
theorem x_fo29_3 : fo Try.prog 29 3 = some (3, 3) := by kernel_rfl
theorem x_fo29_4 : fo Try.prog 29 4 = some (4, 27) := by kernel_rfl
theorem x_fo74_1 : fo Try.prog 74 1 = some (0, 56) := by kernel_rfl
theorem x_fo76_0 : fo Try.prog 76 0 = some (0, 21) := by kernel_rfl
theorem x_fo76_1 : fo Try.prog 76 1 = some (1, 56) := by kernel_rfl
theorem x_fo78_1 : fo Try.prog 78 1 = some (0, 76) := by kernel_rfl
theorem x_fo80_1 : fo Try.prog 80 1 = some (0, 74) := by kernel_rfl
theorem x_fo80_2 : fo Try.prog 80 2 = some (1, 78) := by kernel_rfl
theorem x_fo83_0 : fo Try.prog 83 0 = some (0, 80) := by kernel_rfl
theorem x_fo83_1 : fo Try.prog 83 1 = some (3, 4) := by kernel_rfl
theorem x_fo83_2 : fo Try.prog 83 2 = some (4, 81) := by kernel_rfl
theorem x_ik3 : ik Try.prog 3 = some Go.IntKind.i64 := by kernel_rfl
theorem x_ik5 : ik Try.prog 5 = some Go.IntKind.u8 := by kernel_rfl
theorem x_ik9 : ik Try.prog 9 = none := by kernel_rfl
theorem x_ik27 : ik Try.prog 27 = none := by kernel_rfl
theorem x_ik56 : ik Try.prog 56 = some Go.IntKind.u32 := by kernel_rfl
theorem x_ik64 : ik Try.prog 64 = some Go.IntKind.u64 := by kernel_rfl
theorem x_ik94 : ik Try.prog 94 = none := by kernel_rfl
theorem x_ik98 : ik Try.prog 98 = none := by kernel_rfl
theorem x_pl29 : pl Try.prog 29 = some [(0, 1), (1, 1), (2, 1), (3, 1), (4, 1)] := by kernel_rfl
theorem x_pl83 : pl Try.prog 83 = some [(0, 3), (3, 1), (4, 256)] := by kernel_rfl
theorem x_pt2 : isPtrT Try.prog 2 = false := by kernel_rfl
theorem x_pt3 : isPtrT Try.prog 3 = false := by kernel_rfl
theorem x_pt4 : isPtrT Try.prog 4 = false := by kernel_rfl
theorem x_pt5 : isPtrT Try.prog 5 = false := by kernel_rfl
theorem x_pt9 : isPtrT Try.prog 9 = false := by kernel_rfl
theorem x_pt21 : isPtrT Try.prog 21 = false := by kernel_rfl
theorem x_pt24 : isPtrT Try.prog 24 = false := by kernel_rfl
theorem x_pt56 : isPtrT Try.prog 56 = false := by kernel_rfl
theorem x_pt64 : isPtrT Try.prog 64 = false := by kernel_rfl
theorem x_slt23 : slT Try.prog 23 = true := by kernel_rfl
theorem x_slt27 : slT Try.prog 27 = true := by kernel_rfl
theorem x_slt60 : slT Try.prog 60 = true := by kernel_rfl
theorem x_slt63 : slT Try.prog 63 = true := by kernel_rfl
theorem x_st3 : strT Try.prog 3 = false := by kernel_rfl
theorem x_st5 : strT Try.prog 5 = false := by kernel_rfl
theorem x_st9 : strT Try.prog 9 = true := by kernel_rfl
theorem x_st56 : strT Try.prog 56 = false := by kernel_rfl
theorem x_st64 : strT Try.prog 64 = false := by kernel_rfl
theorem x_st98 : strT Try.prog 98 = false := by kernel_rfl
theorem x_tk3 : tk Try.prog 3 = some (false, 1) := by kernel_rfl
theorem x_tk4 : tk Try.prog 4 = some (false, 1) := by kernel_rfl
theorem x_tk5 : tk Try.prog 5 = some (false, 1) := by kernel_rfl
theorem x_tk21 : tk Try.prog 21 = some (false, 1) := by kernel_rfl
theorem x_tk27 : tk Try.prog 27 = some (false, 1) := by kernel_rfl
theorem x_tk29 : tk Try.prog 29 = some (true, 5) := by kernel_rfl
theorem x_tk56 : tk Try.prog 56 = some (false, 1) := by kernel_rfl
theorem x_tk74 : tk Try.prog 74 = some (true, 1) := by kernel_rfl
theorem x_tk76 : tk Try.prog 76 = some (true, 2) := by kernel_rfl
theorem x_tk78 : tk Try.prog 78 = some (true, 2) := by kernel_rfl
theorem x_tk80 : tk Try.prog 80 = some (true, 3) := by kernel_rfl
theorem x_tk81 : tk Try.prog 81 = some (true, 256) := by kernel_rfl
theorem x_tk83 : tk Try.prog 83 = some (true, 260) := by kernel_rfl
theorem x_un3 : (Try.prog.underlying 3).isSome = true := by kernel_rfl
theorem x_un5 : (Try.prog.underlying 5).isSome = true := by kernel_rfl
theorem x_un27 : (Try.prog.underlying 27).isSome = true := by kernel_rfl
theorem x_un56 : (Try.prog.underlying 56).isSome = true := by kernel_rfl
theorem x_un64 : (Try.prog.underlying 64).isSome = true := by kernel_rfl
theorem x_un94 : (Try.prog.underlying 94).isSome = true := by kernel_rfl
theorem x_zc3 : zc Try.prog 3 = some [Go.Value.int Go.IntKind.i64 0] := by kernel_rfl
theorem x_zc5 : zc Try.prog 5 = some [Go.Value.int Go.IntKind.u8 0] := by kernel_rfl
theorem x_zc27 : zc Try.prog 27 = some [Go.Value.slice none 0 0] := by kernel_rfl
theorem x_zc29 : zc Try.prog 29 = some [Go.Value.int Go.IntKind.i64 0, Go.Value.int Go.IntKind.i64 0, Go.Value.int Go.IntKind.i64 0, Go.Value.int Go.IntKind.i64 0, Go.Value.slice none 0 0] := by kernel_rfl
theorem x_zc83 : zc Try.prog 83 = some [Go.Value.int Go.IntKind.u32 0, Go.Value.int Go.IntKind.i32 0, Go.Value.int Go.IntKind.u32 0, Go.Value.bool false, Go.Value.int Go.IntKind.u32 0, Go.Value.int Go.IntKind.u32 0, Go.Value.int Go.IntKind.u32 0, Go.Value.int Go.IntKind.u32 0, Go.Value.int Go.IntKind.u32 0, Go.Value.int Go.IntKind.u32 0, Go.Value.int Go.IntKind.u32 0, Go.Value.int Go.IntKind.u32 0, Go.Value.int Go.IntKind.u32 0, Go.Value.int Go.IntKind.u32 0, Go.Value.int Go.IntKind.u32 0, Go.Value.int Go.IntKind.u32 0, Go.Value.int Go.IntKind.u32 0, Go.Value.int Go.IntKind.u32 0, Go.Value.int Go.IntKind.u32 0, Go.Value.int Go.IntKind.u32 0, Go.Value.int Go.IntKind.u32 0, Go.Value.int Go.IntKind.u32 0, Go.Value.int Go.IntKind.u32 0, Go.Value.int Go.IntKind.u32 0, Go.Value.int Go.IntKind.u32 0, Go.Value.int Go.IntKind.u32 0, Go.Value.int Go.IntKind.u32 0, Go.Value.int Go.IntKind.u32 0, Go.Value.int Go.IntKind.u32 0, Go.Value.int Go.IntKind.u32 0, Go.Value.int Go.IntKind.u32 0, Go.Value.int Go.IntKind.u32 0, Go.Value.int Go.IntKind.u32 0, Go.Value.int Go.IntKind.u32 0, Go.Value.int Go.IntKind.u32 0, Go.Value.int Go.IntKind.u32 0, Go.Value.int Go.IntKind.u32 0, Go.Value.int Go.IntKind.u32 0, Go.Value.int Go.IntKind.u32 0, Go.Value.int Go.IntKind.u32 0, Go.Value.int Go.IntKind.u32 0, Go.Value.int Go.IntKind.u32 0, Go.Value.int Go.IntKind.u32 0, Go.Value.int Go.IntKind.u32 0, Go.Value.int Go.IntKind.u32 0, Go.Value.int Go.IntKind.u32 0, Go.Value.int Go.IntKind.u32 0, Go.Value.int Go.IntKind.u32 0, Go.Value.int Go.IntKind.u32 0, Go.Value.int Go.IntKind.u32 0, Go.Value.int Go.IntKind.u32 0, Go.Value.int Go.IntKind.u32 0, Go.Value.int Go.IntKind.u32 0, Go.Value.int Go.IntKind.u32 0, Go.Value.int Go.IntKind.u32 0, Go.Value.int Go.IntKind.u32 0, Go.Value.int Go.IntKind.u32 0, Go.Value.int Go.IntKind.u32 0, Go.Value.int Go.IntKind.u32 0, Go.Value.int Go.IntKind.u32 0, Go.Value.int Go.IntKind.u32 0, Go.Value.int Go.IntKind.u32 0, Go.Value.int Go.IntKind.u32 0, Go.Value.int Go.IntKind.u32 0, Go.Value.int Go.IntKind.u32 0, Go.Value.int Go.IntKind.u32 0, Go.Value.int Go.IntKind.u32 0, Go.Value.int Go.IntKind.u32 0, Go.Value.int Go.IntKind.u32 0, Go.Value.int Go.IntKind.u32 0, Go.Value.int Go.IntKind.u32 0, Go.Value.int Go.IntKind.u32 0, Go.Value.int Go.IntKind.u32 0, Go.Value.int Go.IntKind.u32 0, Go.Value.int Go.IntKind.u32 0, Go.Value.int Go.IntKind.u32 0, Go.Value.int Go.IntKind.u32 0, Go.Value.int Go.IntKind.u32 0, Go.Value.int Go.IntKind.u32 0, Go.Value.int Go.IntKind.u32 0, Go.Value.int Go.IntKind.u32 0, Go.Value.int Go.IntKind.u32 0, Go.Value.int Go.IntKind.u32 0, Go.Value.int Go.IntKind.u32 0, Go.Value.int Go.IntKind.u32 0, Go.Value.int Go.IntKind.u32 0, Go.Value.int Go.IntKind.u32 0, Go.Value.int Go.IntKind.u32 0, Go.Value.int Go.IntKind.u32 0, Go.Value.int Go.IntKind.u32 0, Go.Value.int Go.IntKind.u32 0, Go.Value.int Go.IntKind.u32 0, Go.Value.int Go.IntKind.u32 0, Go.Value.int Go.IntKind.u32 0, Go.Value.int Go.IntKind.u32 0, Go.Value.int Go.IntKind.u32 0, Go.Value.int Go.IntKind.u32 0, Go.Value.int Go.IntKind.u32 0, Go.Value.int Go.IntKind.u32 0, Go.Value.int Go.IntKind.u32 0, Go.Value.int Go.IntKind.u32 0, Go.Value.int Go.IntKind.u32 0, Go.Value.int Go.IntKind.u32 0, Go.Value.int Go.IntKind.u32 0, Go.Value.int Go.IntKind.u32 0, Go.Value.int Go.IntKind.u32 0, Go.Value.int Go.IntKind.u32 0, Go.Value.int Go.IntKind.u32 0, Go.Value.int Go.IntKind.u32 0, Go.Value.int Go.IntKind.u32 0, Go.Value.int Go.IntKind.u32 0, Go.Value.int Go.IntKind.u32 0, Go.Value.int Go.IntKind.u32 0, Go.Value.int Go.IntKind.u32 0, Go.Value.int Go.IntKind.u32 0, Go.Value.int Go.IntKind.u32 0, Go.Value.int Go.IntKind.u32 0, Go.Value.int Go.IntKind.u32 0, Go.Value.int Go.IntKind.u32 0, Go.Value.int Go.IntKind.u32 0, Go.Value.int Go.IntKind.u32 0, Go.Value.int Go.IntKind.u32 0, Go.Value.int Go.IntKind.u32 0, Go.Value.int Go.IntKind.u32 0, Go.Value.int Go.IntKind.u32 0, Go.Value.int Go.IntKind.u32 0, Go.Value.int Go.IntKind.u32 0, Go.Value.int Go.IntKind.u32 0, Go.Value.int Go.IntKind.u32 0, Go.Value.int Go.IntKind.u32 0, Go.Value.int Go.IntKind.u32 0, Go.Value.int Go.IntKind.u32 0, Go.Value.int Go.IntKind.u32 0, Go.Value.int Go.IntKind.u32 0, Go.Value.int Go.IntKind.u32 0, Go.Value.int Go.IntKind.u32 0, Go.Value.int Go.IntKind.u32 0, Go.Value.int Go.IntKind.u32 0, Go.Value.int Go.IntKind.u32 0, Go.Value.int Go.IntKind.u32 0, Go.Value.int Go.IntKind.u32 0, Go.Value.int Go.IntKind.u32 0, Go.Value.int Go.IntKind.u32 0, Go.Value.int Go.IntKind.u32 0, Go.Value.int Go.IntKind.u32 0, Go.Value.int Go.IntKind.u32 0, Go.Value.int Go.IntKind.u32 0, Go.Value.int Go.IntKind.u32 0, Go.Value.int Go.IntKind.u32 0, Go.Value.int Go.IntKind.u32 0, Go.Value.int Go.IntKind.u32 0, Go.Value.int Go.IntKind.u32 0, Go.Value.int Go.IntKind.u32 0, Go.Value.int Go.IntKind.u32 0, Go.Value.int Go.IntKind.u32 0, Go.Value.int Go.IntKind.u32 0, Go.Value.int Go.IntKind.u32 0, Go.Value.int Go.IntKind.u32 0, Go.Value.int Go.IntKind.u32 0, Go.Value.int Go.IntKind.u32 0, Go.Value.int Go.IntKind.u32 0, Go.Value.int Go.IntKind.u32 0, Go.Value.int Go.IntKind.u32 0, Go.Value.int Go.IntKind.u32 0, Go.Value.int Go.IntKind.u32 0, Go.Value.int Go.IntKind.u32 0, Go.Value.int Go.IntKind.u32 0, Go.Value.int Go.IntKind.u32 0, Go.Value.int Go.IntKind.u32 0, Go.Value.int Go.IntKind.u32 0, Go.Value.int Go.IntKind.u32 0, Go.Value.int Go.IntKind.u32 0, Go.Value.int Go.IntKind.u32 0, Go.Value.int Go.IntKind.u32 0, Go.Value.int Go.IntKind.u32 0, Go.Value.int Go.IntKind.u32 0, Go.Value.int Go.IntKind.u32 0, Go.Value.int Go.IntKind.u32 0, Go.Value.int Go.IntKind.u32 0, Go.Value.int Go.IntKind.u32 0, Go.Value.int Go.IntKind.u32 0, Go.Value.int Go.IntKind.u32 0, Go.Value.int Go.IntKind.u32 0, Go.Value.int Go.IntKind.u32 0, Go.Value.int Go.IntKind.u32 0, Go.Value.int Go.IntKind.u32 0, Go.Value.int Go.IntKind.u32 0, Go.Value.int Go.IntKind.u32 0, Go.Value.int Go.IntKind.u32 0, Go.Value.int Go.IntKind.u32 0, Go.Value.int Go.IntKind.u32 0, Go.Value.int Go.IntKind.u32 0, Go.Value.int Go.IntKind.u32 0, Go.Value.int Go.IntKind.u32 0, Go.Value.int Go.IntKind.u32 0, Go.Value.int Go.IntKind.u32 0, Go.Value.int Go.IntKind.u32 0, Go.Value.int Go.IntKind.u32 0, Go.Value.int Go.IntKind.u32 0, Go.Value.int Go.IntKind.u32 0, Go.Value.int Go.IntKind.u32 0, Go.Value.int Go.IntKind.u32 0, Go.Value.int Go.IntKind.u32 0, Go.Value.int Go.IntKind.u32 0, Go.Value.int Go.IntKind.u32 0, Go.Value.int Go.IntKind.u32 0, Go.Value.int Go.IntKind.u32 0, Go.Value.int Go.IntKind.u32 0, Go.Value.int Go.IntKind.u32 0, Go.Value.int Go.IntKind.u32 0, Go.Value.int Go.IntKind.u32 0, Go.Value.int Go.IntKind.u32 0, Go.Value.int Go.IntKind.u32 0, Go.Value.int Go.IntKind.u32 0, Go.Value.int Go.IntKind.u32 0, Go.Value.int Go.IntKind.u32 0, Go.Value.int Go.IntKind.u32 0, Go.Value.int Go.IntKind.u32 0, Go.Value.int Go.IntKind.u32 0, Go.Value.int Go.IntKind.u32 0, Go.Value.int Go.IntKind.u32 0, Go.Value.int Go.IntKind.u32 0, Go.Value.int Go.IntKind.u32 0, Go.Value.int Go.IntKind.u32 0, Go.Value.int Go.IntKind.u32 0, Go.Value.int Go.IntKind.u32 0, Go.Value.int Go.IntKind.u32 0, Go.Value.int Go.IntKind.u32 0, Go.Value.int Go.IntKind.u32 0, Go.Value.int Go.IntKind.u32 0, Go.Value.int Go.IntKind.u32 0, Go.Value.int Go.IntKind.u32 0, Go.Value.int Go.IntKind.u32 0, Go.Value.int Go.IntKind.u32 0, Go.Value.int Go.IntKind.u32 0, Go.Value.int Go.IntKind.u32 0, Go.Value.int Go.IntKind.u32 0, Go.Value.int Go.IntKind.u32 0, Go.Value.int Go.IntKind.u32 0, Go.Value.int Go.IntKind.u32 0, Go.Value.int Go.IntKind.u32 0, Go.Value.int Go.IntKind.u32 0, Go.Value.int Go.IntKind.u32 0, Go.Value.int Go.IntKind.u32 0, Go.Value.int Go.IntKind.u32 0, Go.Value.int Go.IntKind.u32 0, Go.Value.int Go.IntKind.u32 0, Go.Value.int Go.IntKind.u32 0, Go.Value.int Go.IntKind.u32 0, Go.Value.int Go.IntKind.u32 0, Go.Value.int Go.IntKind.u32 0, Go.Value.int Go.IntKind.u32 0, Go.Value.int Go.IntKind.u32 0, Go.Value.int Go.IntKind.u32 0, Go.Value.int Go.IntKind.u32 0, Go.Value.int Go.IntKind.u32 0, Go.Value.int Go.IntKind.u32 0, Go.Value.int Go.IntKind.u32 0, Go.Value.int Go.IntKind.u32 0, Go.Value.int Go.IntKind.u32 0] := by kernel_rfl
end Go.Proofs.Ytaiaackeljlbfaa.Am
