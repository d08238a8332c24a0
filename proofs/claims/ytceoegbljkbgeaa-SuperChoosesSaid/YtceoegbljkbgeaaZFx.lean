import Derived.Test.YtceoegbljkbgeaaProg
import Derived.KernelRfl
import Derived.Test.YtceoegbljkbgeaaZSl
set_option linter.unusedVariables false
namespace Go.Proofs.Ytceoegbljkbgeaa.Am
open Go Go.RowKit Go.Proofs
def Es (t : TypeId) (n : Nat) : Prop := eqSN Try.prog t = some n
theorem Es_ok : ∀ t n, Es t n → EqS Try.prog t n := fun _ _ h => eqSN_ok h
theorem x_ar24 : ar Try.prog 24 = none := by kernel_rfl
theorem x_ar37 : ar Try.prog 37 = some (2, 1) := by kernel_rfl
theorem x_ar41 : ar Try.prog 41 = none := by kernel_rfl
theorem x_ar49 : ar Try.prog 49 = none := by kernel_rfl
theorem x_ar71 : ar Try.prog 71 = some (256, 1) := by kernel_rfl
theorem x_bt2 : isBoolT Try.prog 2 = false := by kernel_rfl
theorem x_bt3 : isBoolT Try.prog 3 = false := by kernel_rfl
theorem x_bt4 : isBoolT Try.prog 4 = true := by kernel_rfl
theorem x_bt5 : isBoolT Try.prog 5 = false := by kernel_rfl
theorem x_bt9 : isBoolT Try.prog 9 = false := by kernel_rfl
theorem x_bt21 : isBoolT Try.prog 21 = false := by kernel_rfl
theorem x_bt23 : isBoolT Try.prog 23 = false := by kernel_rfl
theorem x_bt52 : isBoolT Try.prog 52 = false := by kernel_rfl
theorem x_bt54 : isBoolT Try.prog 54 = false := by kernel_rfl
theorem x_el3 : el Try.prog 3 = none := by kernel_rfl
theorem x_el5 : el Try.prog 5 = none := by kernel_rfl
theorem x_el24 : el Try.prog 24 = some (5, 1, 1) := by kernel_rfl
theorem x_el37 : el Try.prog 37 = none := by kernel_rfl
theorem x_el41 : el Try.prog 41 = some (24, 1, 24) := by kernel_rfl
theorem x_el49 : el Try.prog 49 = some (3, 1, 8) := by kernel_rfl
theorem x_el52 : el Try.prog 52 = none := by kernel_rfl
theorem x_el54 : el Try.prog 54 = none := by kernel_rfl
theorem x_el71 : el Try.prog 71 = none := by kernel_rfl
theorem x_el84 : el Try.prog 84 = none := by kernel_rfl
theorem x_es23 : Es 23 4 = True := eq_true (by show eqSN Try.prog 23 = some 4; kernel_rfl)
theorem x_fo23_0 : fo Try.prog 23 0 = some (0, 3) := by kernel_rfl
theorem x_fo23_1 : fo Try.prog 23 1 = some (1, 3) := by kernel_rfl
theorem x_fo23_2 : fo Try.prog 23 2 = some (2, 3) := by kernel_rfl
theorem x_fo23_3 : fo Try.prog 23 3 = some (3, 3) := by kernel_rfl
theorem x_fo64_1 : fo Try.prog 64 1 = some (0, 52) := by kernel_rfl
theorem x_fo66_0 : fo Try.prog 66 0 = some (0, 21) := by kernel_rfl
theorem x_fo66_1 : fo Try.prog 66 1 = some (1, 52) := by kernel_rfl
theorem x_fo68_1 : fo Try.prog 68 1 = some (0, 66) := by kernel_rfl
theorem x_fo70_1 : fo Try.prog 70 1 = some (0, 64) := by kernel_rfl
theorem x_fo70_2 : fo Try.prog 70 2 = some (1, 68) := by kernel_rfl
theorem x_fo73_0 : fo Try.prog 73 0 = some (0, 70) := by kernel_rfl
theorem x_fo73_1 : fo Try.prog 73 1 = some (3, 4) := by kernel_rfl
theorem x_fo73_2 : fo Try.prog 73 2 = some (4, 71) := by kernel_rfl
theorem x_ik3 : ik Try.prog 3 = some Go.IntKind.i64 := by kernel_rfl
theorem x_ik5 : ik Try.prog 5 = some Go.IntKind.u8 := by kernel_rfl
theorem x_ik9 : ik Try.prog 9 = none := by kernel_rfl
theorem x_ik24 : ik Try.prog 24 = none := by kernel_rfl
theorem x_ik43 : ik Try.prog 43 = some Go.IntKind.u64 := by kernel_rfl
theorem x_ik52 : ik Try.prog 52 = some Go.IntKind.u32 := by kernel_rfl
theorem x_ik54 : ik Try.prog 54 = some Go.IntKind.u64 := by kernel_rfl
theorem x_ik84 : ik Try.prog 84 = none := by kernel_rfl
theorem x_ik88 : ik Try.prog 88 = none := by kernel_rfl
theorem x_pl23 : pl Try.prog 23 = some [(0, 1), (1, 1), (2, 1), (3, 1)] := by kernel_rfl
theorem x_pl37 : pl Try.prog 37 = some [(0, 1), (1, 1)] := by kernel_rfl
theorem x_pl73 : pl Try.prog 73 = some [(0, 3), (3, 1), (4, 256)] := by kernel_rfl
theorem x_pt2 : isPtrT Try.prog 2 = false := by kernel_rfl
theorem x_pt3 : isPtrT Try.prog 3 = false := by kernel_rfl
theorem x_pt4 : isPtrT Try.prog 4 = false := by kernel_rfl
theorem x_pt5 : isPtrT Try.prog 5 = false := by kernel_rfl
theorem x_pt9 : isPtrT Try.prog 9 = false := by kernel_rfl
theorem x_pt21 : isPtrT Try.prog 21 = false := by kernel_rfl
theorem x_pt23 : isPtrT Try.prog 23 = false := by kernel_rfl
theorem x_pt52 : isPtrT Try.prog 52 = false := by kernel_rfl
theorem x_pt54 : isPtrT Try.prog 54 = false := by kernel_rfl
theorem x_slt24 : slT Try.prog 24 = true := by kernel_rfl
theorem x_slt41 : slT Try.prog 41 = true := by kernel_rfl
theorem x_slt49 : slT Try.prog 49 = true := by kernel_rfl
theorem x_st3 : strT Try.prog 3 = false := by kernel_rfl
theorem x_st5 : strT Try.prog 5 = false := by kernel_rfl
theorem x_st9 : strT Try.prog 9 = true := by kernel_rfl
theorem x_st24 : strT Try.prog 24 = false := by kernel_rfl
theorem x_st43 : strT Try.prog 43 = false := by kernel_rfl
theorem x_st52 : strT Try.prog 52 = false := by kernel_rfl
theorem x_st54 : strT Try.prog 54 = false := by kernel_rfl
theorem x_st88 : strT Try.prog 88 = false := by kernel_rfl
theorem x_tk3 : tk Try.prog 3 = some (false, 1) := by kernel_rfl
theorem x_tk4 : tk Try.prog 4 = some (false, 1) := by kernel_rfl
theorem x_tk5 : tk Try.prog 5 = some (false, 1) := by kernel_rfl
theorem x_tk21 : tk Try.prog 21 = some (false, 1) := by kernel_rfl
theorem x_tk23 : tk Try.prog 23 = some (true, 4) := by kernel_rfl
theorem x_tk24 : tk Try.prog 24 = some (false, 1) := by kernel_rfl
theorem x_tk37 : tk Try.prog 37 = some (true, 2) := by kernel_rfl
theorem x_tk52 : tk Try.prog 52 = some (false, 1) := by kernel_rfl
theorem x_tk64 : tk Try.prog 64 = some (true, 1) := by kernel_rfl
theorem x_tk66 : tk Try.prog 66 = some (true, 2) := by kernel_rfl
theorem x_tk68 : tk Try.prog 68 = some (true, 2) := by kernel_rfl
theorem x_tk70 : tk Try.prog 70 = some (true, 3) := by kernel_rfl
theorem x_tk71 : tk Try.prog 71 = some (true, 256) := by kernel_rfl
theorem x_tk73 : tk Try.prog 73 = some (true, 260) := by kernel_rfl
theorem x_un3 : (Try.prog.underlying 3).isSome = true := by kernel_rfl
theorem x_un5 : (Try.prog.underlying 5).isSome = true := by kernel_rfl
theorem x_un24 : (Try.prog.underlying 24).isSome = true := by kernel_rfl
theorem x_un52 : (Try.prog.underlying 52).isSome = true := by kernel_rfl
theorem x_un54 : (Try.prog.underlying 54).isSome = true := by kernel_rfl
theorem x_un84 : (Try.prog.underlying 84).isSome = true := by kernel_rfl
theorem x_zc3 : zc Try.prog 3 = some [Go.Value.int Go.IntKind.i64 0] := by kernel_rfl
theorem x_zc5 : zc Try.prog 5 = some [Go.Value.int Go.IntKind.u8 0] := by kernel_rfl
theorem x_zc23 : zc Try.prog 23 = some [Go.Value.int Go.IntKind.i64 0, Go.Value.int Go.IntKind.i64 0, Go.Value.int Go.IntKind.i64 0, Go.Value.int Go.IntKind.i64 0] := by kernel_rfl
theorem x_zc24 : zc Try.prog 24 = some [Go.Value.slice none 0 0] := by kernel_rfl
theorem x_zc37 : zc Try.prog 37 = some [Go.Value.slice none 0 0, Go.Value.slice none 0 0] := by kernel_rfl
theorem x_zc73 : zc Try.prog 73 = some [Go.Value.int Go.IntKind.u32 0, Go.Value.int Go.IntKind.i32 0, Go.Value.int Go.IntKind.u32 0, Go.Value.bool false, Go.Value.int Go.IntKind.u32 0, Go.Value.int Go.IntKind.u32 0, Go.Value.int Go.IntKind.u32 0, Go.Value.int Go.IntKind.u32 0, Go.Value.int Go.IntKind.u32 0, Go.Value.int Go.IntKind.u32 0, Go.Value.int Go.IntKind.u32 0, Go.Value.int Go.IntKind.u32 0, Go.Value.int Go.IntKind.u32 0, Go.Value.int Go.IntKind.u32 0, Go.Value.int Go.IntKind.u32 0, Go.Value.int Go.IntKind.u32 0, Go.Value.int Go.IntKind.u32 0, Go.Value.int Go.IntKind.u32 0, Go.Value.int Go.IntKind.u32 0, Go.Value.int Go.IntKind.u32 0, Go.Value.int Go.IntKind.u32 0, Go.Value.int Go.IntKind.u32 0, Go.Value.int Go.IntKind.u32 0, Go.Value.int Go.IntKind.u32 0, Go.Value.int Go.IntKind.u32 0, Go.Value.int Go.IntKind.u32 0, Go.Value.int Go.IntKind.u32 0, Go.Value.int Go.IntKind.u32 0, Go.Value.int Go.IntKind.u32 0, Go.Value.int Go.IntKind.u32 0, Go.Value.int Go.IntKind.u32 0, Go.Value.int Go.IntKind.u32 0, Go.Value.int Go.IntKind.u32 0, Go.Value.int Go.IntKind.u32 0, Go.Value.int Go.IntKind.u32 0, Go.Value.int Go.IntKind.u32 0, Go.Value.int Go.IntKind.u32 0, Go.Value.int Go.IntKind.u32 0, Go.Value.int Go.IntKind.u32 0, Go.Value.int Go.IntKind.u32 0, Go.Value.int Go.IntKind.u32 0, Go.Value.int Go.IntKind.u32 0, Go.Value.int Go.IntKind.u32 0, Go.Value.int Go.IntKind.u32 0, Go.Value.int Go.IntKind.u32 0, Go.Value.int Go.IntKind.u32 0, Go.Value.int Go.IntKind.u32 0, Go.Value.int Go.IntKind.u32 0, Go.Value.int Go.IntKind.u32 0, Go.Value.int Go.IntKind.u32 0, Go.Value.int Go.IntKind.u32 0, Go.Value.int Go.IntKind.u32 0, Go.Value.int Go.IntKind.u32 0, Go.Value.int Go.IntKind.u32 0, Go.Value.int Go.IntKind.u32 0, Go.Value.int Go.IntKind.u32 0, Go.Value.int Go.IntKind.u32 0, Go.Value.int Go.IntKind.u32 0, Go.Value.int Go.IntKind.u32 0, Go.Value.int Go.IntKind.u32 0, Go.Value.int Go.IntKind.u32 0, Go.Value.int Go.IntKind.u32 0, Go.Value.int Go.IntKind.u32 0, Go.Value.int Go.IntKind.u32 0, Go.Value.int Go.IntKind.u32 0, Go.Value.int Go.IntKind.u32 0, Go.Value.int Go.IntKind.u32 0, Go.Value.int Go.IntKind.u32 0, Go.Value.int Go.IntKind.u32 0, Go.Value.int Go.IntKind.u32 0, Go.Value.int Go.IntKind.u32 0, Go.Value.int Go.IntKind.u32 0, Go.Value.int Go.IntKind.u32 0, Go.Value.int Go.IntKind.u32 0, Go.Value.int Go.IntKind.u32 0, Go.Value.int Go.IntKind.u32 0, Go.Value.int Go.IntKind.u32 0, Go.Value.int Go.IntKind.u32 0, Go.Value.int Go.IntKind.u32 0, Go.Value.int Go.IntKind.u32 0, Go.Value.int Go.IntKind.u32 0, Go.Value.int Go.IntKind.u32 0, Go.Value.int Go.IntKind.u32 0, Go.Value.int Go.IntKind.u32 0, Go.Value.int Go.IntKind.u32 0, Go.Value.int Go.IntKind.u32 0, Go.Value.int Go.IntKind.u32 0, Go.Value.int Go.IntKind.u32 0, Go.Value.int Go.IntKind.u32 0, Go.Value.int Go.IntKind.u32 0, Go.Value.int Go.IntKind.u32 0, Go.Value.int Go.IntKind.u32 0, Go.Value.int Go.IntKind.u32 0, Go.Value.int Go.IntKind.u32 0, Go.Value.int Go.IntKind.u32 0, Go.Value.int Go.IntKind.u32 0, Go.Value.int Go.IntKind.u32 0, Go.Value.int Go.IntKind.u32 0, Go.Value.int Go.IntKind.u32 0, Go.Value.int Go.IntKind.u32 0, Go.Value.int Go.IntKind.u32 0, Go.Value.int Go.IntKind.u32 0, Go.Value.int Go.IntKind.u32 0, Go.Value.int Go.IntKind.u32 0, Go.Value.int Go.IntKind.u32 0, Go.Value.int Go.IntKind.u32 0, Go.Value.int Go.IntKind.u32 0, Go.Value.int Go.IntKind.u32 0, Go.Value.int Go.IntKind.u32 0, Go.Value.int Go.IntKind.u32 0, Go.Value.int Go.IntKind.u32 0, Go.Value.int Go.IntKind.u32 0, Go.Value.int Go.IntKind.u32 0, Go.Value.int Go.IntKind.u32 0, Go.Value.int Go.IntKind.u32 0, Go.Value.int Go.IntKind.u32 0, Go.Value.int Go.IntKind.u32 0, Go.Value.int Go.IntKind.u32 0, Go.Value.int Go.IntKind.u32 0, Go.Value.int Go.IntKind.u32 0, Go.Value.int Go.IntKind.u32 0, Go.Value.int Go.IntKind.u32 0, Go.Value.int Go.IntKind.u32 0, Go.Value.int Go.IntKind.u32 0, Go.Value.int Go.IntKind.u32 0, Go.Value.int Go.IntKind.u32 0, Go.Value.int Go.IntKind.u32 0, Go.Value.int Go.IntKind.u32 0, Go.Value.int Go.IntKind.u32 0, Go.Value.int Go.IntKind.u32 0, Go.Value.int Go.IntKind.u32 0, Go.Value.int Go.IntKind.u32 0, Go.Value.int Go.IntKind.u32 0, Go.Value.int Go.IntKind.u32 0, Go.Value.int Go.IntKind.u32 0, Go.Value.int Go.IntKind.u32 0, Go.Value.int Go.IntKind.u32 0, Go.Value.int Go.IntKind.u32 0, Go.Value.int Go.IntKind.u32 0, Go.Value.int Go.IntKind.u32 0, Go.Value.int Go.IntKind.u32 0, Go.Value.int Go.IntKind.u32 0, Go.Value.int Go.IntKind.u32 0, Go.Value.int Go.IntKind.u32 0, Go.Value.int Go.IntKind.u32 0, Go.Value.int Go.IntKind.u32 0, Go.Value.int Go.IntKind.u32 0, Go.Value.int Go.IntKind.u32 0, Go.Value.int Go.IntKind.u32 0, Go.Value.int Go.IntKind.u32 0, Go.Value.int Go.IntKind.u32 0, Go.Value.int Go.IntKind.u32 0, Go.Value.int Go.IntKind.u32 0, Go.Value.int Go.IntKind.u32 0, Go.Value.int Go.IntKind.u32 0, Go.Value.int Go.IntKind.u32 0, Go.Value.int Go.IntKind.u32 0, Go.Value.int Go.IntKind.u32 0, Go.Value.int Go.IntKind.u32 0, Go.Value.int Go.IntKind.u32 0, Go.Value.int Go.IntKind.u32 0, Go.Value.int Go.IntKind.u32 0, Go.Value.int Go.IntKind.u32 0, Go.Value.int Go.IntKind.u32 0, Go.Value.int Go.IntKind.u32 0, Go.Value.int Go.IntKind.u32 0, Go.Value.int Go.IntKind.u32 0, Go.Value.int Go.IntKind.u32 0, Go.Value.int Go.IntKind.u32 0, Go.Value.int Go.IntKind.u32 0, Go.Value.int Go.IntKind.u32 0, Go.Value.int Go.IntKind.u32 0, Go.Value.int Go.IntKind.u32 0, Go.Value.int Go.IntKind.u32 0, Go.Value.int Go.IntKind.u32 0, Go.Value.int Go.IntKind.u32 0, Go.Value.int Go.IntKind.u32 0, Go.Value.int Go.IntKind.u32 0, Go.Value.int Go.IntKind.u32 0, Go.Value.int Go.IntKind.u32 0, Go.Value.int Go.IntKind.u32 0, Go.Value.int Go.IntKind.u32 0, Go.Value.int Go.IntKind.u32 0, Go.Value.int Go.IntKind.u32 0, Go.Value.int Go.IntKind.u32 0, Go.Value.int Go.IntKind.u32 0, Go.Value.int Go.IntKind.u32 0, Go.Value.int Go.IntKind.u32 0, Go.Value.int Go.IntKind.u32 0, Go.Value.int Go.IntKind.u32 0, Go.Value.int Go.IntKind.u32 0, Go.Value.int Go.IntKind.u32 0, Go.Value.int Go.IntKind.u32 0, Go.Value.int Go.IntKind.u32 0, Go.Value.int Go.IntKind.u32 0, Go.Value.int Go.IntKind.u32 0, Go.Value.int Go.IntKind.u32 0, Go.Value.int Go.IntKind.u32 0, Go.Value.int Go.IntKind.u32 0, Go.Value.int Go.IntKind.u32 0, Go.Value.int Go.IntKind.u32 0, Go.Value.int Go.IntKind.u32 0, Go.Value.int Go.IntKind.u32 0, Go.Value.int Go.IntKind.u32 0, Go.Value.int Go.IntKind.u32 0, Go.Value.int Go.IntKind.u32 0, Go.Value.int Go.IntKind.u32 0, Go.Value.int Go.IntKind.u32 0, Go.Value.int Go.IntKind.u32 0, Go.Value.int Go.IntKind.u32 0, Go.Value.int Go.IntKind.u32 0, Go.Value.int Go.IntKind.u32 0, Go.Value.int Go.IntKind.u32 0, Go.Value.int Go.IntKind.u32 0, Go.Value.int Go.IntKind.u32 0, Go.Value.int Go.IntKind.u32 0, Go.Value.int Go.IntKind.u32 0, Go.Value.int Go.IntKind.u32 0, Go.Value.int Go.IntKind.u32 0, Go.Value.int Go.IntKind.u32 0, Go.Value.int Go.IntKind.u32 0, Go.Value.int Go.IntKind.u32 0, Go.Value.int Go.IntKind.u32 0, Go.Value.int Go.IntKind.u32 0, Go.Value.int Go.IntKind.u32 0, Go.Value.int Go.IntKind.u32 0, Go.Value.int Go.IntKind.u32 0, Go.Value.int Go.IntKind.u32 0, Go.Value.int Go.IntKind.u32 0, Go.Value.int Go.IntKind.u32 0, Go.Value.int Go.IntKind.u32 0, Go.Value.int Go.IntKind.u32 0, Go.Value.int Go.IntKind.u32 0, Go.Value.int Go.IntKind.u32 0, Go.Value.int Go.IntKind.u32 0, Go.Value.int Go.IntKind.u32 0, Go.Value.int Go.IntKind.u32 0, Go.Value.int Go.IntKind.u32 0, Go.Value.int Go.IntKind.u32 0, Go.Value.int Go.IntKind.u32 0, Go.Value.int Go.IntKind.u32 0, Go.Value.int Go.IntKind.u32 0, Go.Value.int Go.IntKind.u32 0, Go.Value.int Go.IntKind.u32 0, Go.Value.int Go.IntKind.u32 0, Go.Value.int Go.IntKind.u32 0, Go.Value.int Go.IntKind.u32 0, Go.Value.int Go.IntKind.u32 0, Go.Value.int Go.IntKind.u32 0, Go.Value.int Go.IntKind.u32 0, Go.Value.int Go.IntKind.u32 0, Go.Value.int Go.IntKind.u32 0, Go.Value.int Go.IntKind.u32 0, Go.Value.int Go.IntKind.u32 0, Go.Value.int Go.IntKind.u32 0, Go.Value.int Go.IntKind.u32 0, Go.Value.int Go.IntKind.u32 0, Go.Value.int Go.IntKind.u32 0, Go.Value.int Go.IntKind.u32 0, Go.Value.int Go.IntKind.u32 0] := by kernel_rfl
end Go.Proofs.Ytceoegbljkbgeaa.Am
