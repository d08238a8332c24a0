import Derived.Test.YtigkcigoiinkpaaProg
import Derived.KernelRfl
import Derived.Test.YtigkcigoiinkpaaZSl
set_option linter.unusedVariables false
namespace Go.Proofs.Ytigkcigoiinkpaa.Am
open Go Go.RowKit Go.Proofs
def Es (t : TypeId) (n : Nat) : Prop := eqSN Try.prog t = some n
theorem Es_ok : ∀ t n, Es t n → EqS Try.prog t n := fun _ _ h => eqSN_ok h
@[go_sem] theorem x_ar22 : ar Try.prog 22 = none := by kernel_rfl
@[go_sem] theorem x_ar23 : ar Try.prog 23 = none := by kernel_rfl
@[go_sem] theorem x_ar24 : ar Try.prog 24 = none := by kernel_rfl
@[go_sem] theorem x_ar25 : ar Try.prog 25 = none := by kernel_rfl
@[go_sem] theorem x_ar31 : ar Try.prog 31 = none := by kernel_rfl
@[go_sem] theorem x_ar45 : ar Try.prog 45 = none := by kernel_rfl
@[go_sem] theorem x_ar50 : ar Try.prog 50 = none := by kernel_rfl
@[go_sem] theorem x_ar56 : ar Try.prog 56 = none := by kernel_rfl
@[go_sem] theorem x_ar57 : ar Try.prog 57 = none := by kernel_rfl
@[go_sem] theorem x_ar69 : ar Try.prog 69 = none := by kernel_rfl
@[go_sem] theorem x_ar132 : ar Try.prog 132 = some (256, 1) := by kernel_rfl
@[go_sem] theorem x_bt2 : isBoolT Try.prog 2 = false := by kernel_rfl
@[go_sem] theorem x_bt3 : isBoolT Try.prog 3 = false := by kernel_rfl
@[go_sem] theorem x_bt4 : isBoolT Try.prog 4 = true := by kernel_rfl
@[go_sem] theorem x_bt5 : isBoolT Try.prog 5 = false := by kernel_rfl
@[go_sem] theorem x_bt9 : isBoolT Try.prog 9 = false := by kernel_rfl
@[go_sem] theorem x_bt21 : isBoolT Try.prog 21 = false := by kernel_rfl
@[go_sem] theorem x_bt36 : isBoolT Try.prog 36 = false := by kernel_rfl
@[go_sem] theorem x_bt42 : isBoolT Try.prog 42 = false := by kernel_rfl
@[go_sem] theorem x_bt47 : isBoolT Try.prog 47 = false := by kernel_rfl
@[go_sem] theorem x_bt86 : isBoolT Try.prog 86 = false := by kernel_rfl
@[go_sem] theorem x_bt96 : isBoolT Try.prog 96 = false := by kernel_rfl
@[go_sem] theorem x_bt103 : isBoolT Try.prog 103 = false := by kernel_rfl
@[go_sem] theorem x_bt114 : isBoolT Try.prog 114 = false := by kernel_rfl
@[go_sem] theorem x_el3 : el Try.prog 3 = none := by kernel_rfl
@[go_sem] theorem x_el5 : el Try.prog 5 = none := by kernel_rfl
@[go_sem] theorem x_el22 : el Try.prog 22 = some (30, 3, 24) := by kernel_rfl
@[go_sem] theorem x_el23 : el Try.prog 23 = some (42, 5, 40) := by kernel_rfl
@[go_sem] theorem x_el24 : el Try.prog 24 = some (36, 3, 24) := by kernel_rfl
@[go_sem] theorem x_el25 : el Try.prog 25 = some (86, 3, 24) := by kernel_rfl
@[go_sem] theorem x_el31 : el Try.prog 31 = some (5, 1, 1) := by kernel_rfl
@[go_sem] theorem x_el45 : el Try.prog 45 = some (47, 2, 16) := by kernel_rfl
@[go_sem] theorem x_el50 : el Try.prog 50 = some (3, 1, 8) := by kernel_rfl
@[go_sem] theorem x_el56 : el Try.prog 56 = some (99, 2, 16) := by kernel_rfl
@[go_sem] theorem x_el57 : el Try.prog 57 = some (96, 2, 16) := by kernel_rfl
@[go_sem] theorem x_el69 : el Try.prog 69 = some (31, 1, 24) := by kernel_rfl
@[go_sem] theorem x_el103 : el Try.prog 103 = none := by kernel_rfl
@[go_sem] theorem x_el114 : el Try.prog 114 = none := by kernel_rfl
@[go_sem] theorem x_el132 : el Try.prog 132 = none := by kernel_rfl
@[go_sem] theorem x_el145 : el Try.prog 145 = none := by kernel_rfl
@[go_sem] theorem x_es36 : Es 36 3 = True := eq_true (by show eqSN Try.prog 36 = some 3; kernel_rfl)
@[go_sem] theorem x_es42 : Es 42 5 = True := eq_true (by show eqSN Try.prog 42 = some 5; kernel_rfl)
@[go_sem] theorem x_es47 : Es 47 2 = True := eq_true (by show eqSN Try.prog 47 = some 2; kernel_rfl)
@[go_sem] theorem x_es86 : Es 86 3 = True := eq_true (by show eqSN Try.prog 86 = some 3; kernel_rfl)
@[go_sem] theorem x_es96 : Es 96 2 = True := eq_true (by show eqSN Try.prog 96 = some 2; kernel_rfl)
@[go_sem] theorem x_fo30_0 : fo Try.prog 30 0 = some (0, 3) := by kernel_rfl
@[go_sem] theorem x_fo30_1 : fo Try.prog 30 1 = some (1, 3) := by kernel_rfl
@[go_sem] theorem x_fo30_2 : fo Try.prog 30 2 = some (2, 3) := by kernel_rfl
@[go_sem] theorem x_fo36_0 : fo Try.prog 36 0 = some (0, 3) := by kernel_rfl
@[go_sem] theorem x_fo36_1 : fo Try.prog 36 1 = some (1, 3) := by kernel_rfl
@[go_sem] theorem x_fo36_2 : fo Try.prog 36 2 = some (2, 3) := by kernel_rfl
@[go_sem] theorem x_fo42_0 : fo Try.prog 42 0 = some (0, 3) := by kernel_rfl
@[go_sem] theorem x_fo42_1 : fo Try.prog 42 1 = some (1, 3) := by kernel_rfl
@[go_sem] theorem x_fo42_2 : fo Try.prog 42 2 = some (2, 3) := by kernel_rfl
@[go_sem] theorem x_fo42_3 : fo Try.prog 42 3 = some (3, 3) := by kernel_rfl
@[go_sem] theorem x_fo42_4 : fo Try.prog 42 4 = some (4, 3) := by kernel_rfl
@[go_sem] theorem x_fo47_0 : fo Try.prog 47 0 = some (0, 3) := by kernel_rfl
@[go_sem] theorem x_fo47_1 : fo Try.prog 47 1 = some (1, 3) := by kernel_rfl
@[go_sem] theorem x_fo86_0 : fo Try.prog 86 0 = some (0, 3) := by kernel_rfl
@[go_sem] theorem x_fo86_1 : fo Try.prog 86 1 = some (1, 3) := by kernel_rfl
@[go_sem] theorem x_fo86_2 : fo Try.prog 86 2 = some (2, 3) := by kernel_rfl
@[go_sem] theorem x_fo96_0 : fo Try.prog 96 0 = some (0, 3) := by kernel_rfl
@[go_sem] theorem x_fo96_1 : fo Try.prog 96 1 = some (1, 3) := by kernel_rfl
@[go_sem] theorem x_fo99_0 : fo Try.prog 99 0 = some (0, 3) := by kernel_rfl
@[go_sem] theorem x_fo99_1 : fo Try.prog 99 1 = some (1, 3) := by kernel_rfl
@[go_sem] theorem x_fo125_1 : fo Try.prog 125 1 = some (0, 103) := by kernel_rfl
@[go_sem] theorem x_fo127_0 : fo Try.prog 127 0 = some (0, 21) := by kernel_rfl
@[go_sem] theorem x_fo127_1 : fo Try.prog 127 1 = some (1, 103) := by kernel_rfl
@[go_sem] theorem x_fo129_1 : fo Try.prog 129 1 = some (0, 127) := by kernel_rfl
@[go_sem] theorem x_fo131_1 : fo Try.prog 131 1 = some (0, 125) := by kernel_rfl
@[go_sem] theorem x_fo131_2 : fo Try.prog 131 2 = some (1, 129) := by kernel_rfl
@[go_sem] theorem x_fo134_0 : fo Try.prog 134 0 = some (0, 131) := by kernel_rfl
@[go_sem] theorem x_fo134_1 : fo Try.prog 134 1 = some (3, 4) := by kernel_rfl
@[go_sem] theorem x_fo134_2 : fo Try.prog 134 2 = some (4, 132) := by kernel_rfl
@[go_sem] theorem x_ik3 : ik Try.prog 3 = some Go.IntKind.i64 := by kernel_rfl
@[go_sem] theorem x_ik5 : ik Try.prog 5 = some Go.IntKind.u8 := by kernel_rfl
@[go_sem] theorem x_ik9 : ik Try.prog 9 = none := by kernel_rfl
@[go_sem] theorem x_ik31 : ik Try.prog 31 = none := by kernel_rfl
@[go_sem] theorem x_ik81 : ik Try.prog 81 = some Go.IntKind.u64 := by kernel_rfl
@[go_sem] theorem x_ik103 : ik Try.prog 103 = some Go.IntKind.u32 := by kernel_rfl
@[go_sem] theorem x_ik114 : ik Try.prog 114 = some Go.IntKind.u64 := by kernel_rfl
@[go_sem] theorem x_ik145 : ik Try.prog 145 = none := by kernel_rfl
@[go_sem] theorem x_ik149 : ik Try.prog 149 = none := by kernel_rfl
@[go_sem] theorem x_pl30 : pl Try.prog 30 = some [(0, 1), (1, 1), (2, 1)] := by kernel_rfl
@[go_sem] theorem x_pl36 : pl Try.prog 36 = some [(0, 1), (1, 1), (2, 1)] := by kernel_rfl
@[go_sem] theorem x_pl42 : pl Try.prog 42 = some [(0, 1), (1, 1), (2, 1), (3, 1), (4, 1)] := by kernel_rfl
@[go_sem] theorem x_pl47 : pl Try.prog 47 = some [(0, 1), (1, 1)] := by kernel_rfl
@[go_sem] theorem x_pl86 : pl Try.prog 86 = some [(0, 1), (1, 1), (2, 1)] := by kernel_rfl
@[go_sem] theorem x_pl96 : pl Try.prog 96 = some [(0, 1), (1, 1)] := by kernel_rfl
@[go_sem] theorem x_pl99 : pl Try.prog 99 = some [(0, 1), (1, 1)] := by kernel_rfl
@[go_sem] theorem x_pl134 : pl Try.prog 134 = some [(0, 3), (3, 1), (4, 256)] := by kernel_rfl
@[go_sem] theorem x_pt2 : isPtrT Try.prog 2 = false := by kernel_rfl
@[go_sem] theorem x_pt3 : isPtrT Try.prog 3 = false := by kernel_rfl
@[go_sem] theorem x_pt4 : isPtrT Try.prog 4 = false := by kernel_rfl
@[go_sem] theorem x_pt5 : isPtrT Try.prog 5 = false := by kernel_rfl
@[go_sem] theorem x_pt9 : isPtrT Try.prog 9 = false := by kernel_rfl
@[go_sem] theorem x_pt21 : isPtrT Try.prog 21 = false := by kernel_rfl
@[go_sem] theorem x_pt36 : isPtrT Try.prog 36 = false := by kernel_rfl
@[go_sem] theorem x_pt42 : isPtrT Try.prog 42 = false := by kernel_rfl
@[go_sem] theorem x_pt47 : isPtrT Try.prog 47 = false := by kernel_rfl
@[go_sem] theorem x_pt86 : isPtrT Try.prog 86 = false := by kernel_rfl
@[go_sem] theorem x_pt96 : isPtrT Try.prog 96 = false := by kernel_rfl
@[go_sem] theorem x_pt103 : isPtrT Try.prog 103 = false := by kernel_rfl
@[go_sem] theorem x_pt114 : isPtrT Try.prog 114 = false := by kernel_rfl
@[go_sem] theorem x_slt22 : slT Try.prog 22 = true := by kernel_rfl
@[go_sem] theorem x_slt23 : slT Try.prog 23 = true := by kernel_rfl
@[go_sem] theorem x_slt24 : slT Try.prog 24 = true := by kernel_rfl
@[go_sem] theorem x_slt25 : slT Try.prog 25 = true := by kernel_rfl
@[go_sem] theorem x_slt31 : slT Try.prog 31 = true := by kernel_rfl
@[go_sem] theorem x_slt45 : slT Try.prog 45 = true := by kernel_rfl
@[go_sem] theorem x_slt50 : slT Try.prog 50 = true := by kernel_rfl
@[go_sem] theorem x_slt56 : slT Try.prog 56 = true := by kernel_rfl
@[go_sem] theorem x_slt57 : slT Try.prog 57 = true := by kernel_rfl
@[go_sem] theorem x_slt69 : slT Try.prog 69 = true := by kernel_rfl
@[go_sem] theorem x_st3 : strT Try.prog 3 = false := by kernel_rfl
@[go_sem] theorem x_st5 : strT Try.prog 5 = false := by kernel_rfl
@[go_sem] theorem x_st9 : strT Try.prog 9 = true := by kernel_rfl
@[go_sem] theorem x_st81 : strT Try.prog 81 = false := by kernel_rfl
@[go_sem] theorem x_st103 : strT Try.prog 103 = false := by kernel_rfl
@[go_sem] theorem x_st114 : strT Try.prog 114 = false := by kernel_rfl
@[go_sem] theorem x_st149 : strT Try.prog 149 = false := by kernel_rfl
@[go_sem] theorem x_tk3 : tk Try.prog 3 = some (false, 1) := by kernel_rfl
@[go_sem] theorem x_tk4 : tk Try.prog 4 = some (false, 1) := by kernel_rfl
@[go_sem] theorem x_tk5 : tk Try.prog 5 = some (false, 1) := by kernel_rfl
@[go_sem] theorem x_tk21 : tk Try.prog 21 = some (false, 1) := by kernel_rfl
@[go_sem] theorem x_tk30 : tk Try.prog 30 = some (true, 3) := by kernel_rfl
@[go_sem] theorem x_tk31 : tk Try.prog 31 = some (false, 1) := by kernel_rfl
@[go_sem] theorem x_tk36 : tk Try.prog 36 = some (true, 3) := by kernel_rfl
@[go_sem] theorem x_tk42 : tk Try.prog 42 = some (true, 5) := by kernel_rfl
@[go_sem] theorem x_tk47 : tk Try.prog 47 = some (true, 2) := by kernel_rfl
@[go_sem] theorem x_tk86 : tk Try.prog 86 = some (true, 3) := by kernel_rfl
@[go_sem] theorem x_tk96 : tk Try.prog 96 = some (true, 2) := by kernel_rfl
@[go_sem] theorem x_tk99 : tk Try.prog 99 = some (true, 2) := by kernel_rfl
@[go_sem] theorem x_tk103 : tk Try.prog 103 = some (false, 1) := by kernel_rfl
@[go_sem] theorem x_tk125 : tk Try.prog 125 = some (true, 1) := by kernel_rfl
@[go_sem] theorem x_tk127 : tk Try.prog 127 = some (true, 2) := by kernel_rfl
@[go_sem] theorem x_tk129 : tk Try.prog 129 = some (true, 2) := by kernel_rfl
@[go_sem] theorem x_tk131 : tk Try.prog 131 = some (true, 3) := by kernel_rfl
@[go_sem] theorem x_tk132 : tk Try.prog 132 = some (true, 256) := by kernel_rfl
@[go_sem] theorem x_tk134 : tk Try.prog 134 = some (true, 260) := by kernel_rfl
@[go_sem] theorem x_un3 : (Try.prog.underlying 3).isSome = true := by kernel_rfl
@[go_sem] theorem x_un5 : (Try.prog.underlying 5).isSome = true := by kernel_rfl
@[go_sem] theorem x_un31 : (Try.prog.underlying 31).isSome = true := by kernel_rfl
@[go_sem] theorem x_un103 : (Try.prog.underlying 103).isSome = true := by kernel_rfl
@[go_sem] theorem x_un114 : (Try.prog.underlying 114).isSome = true := by kernel_rfl
@[go_sem] theorem x_un145 : (Try.prog.underlying 145).isSome = true := by kernel_rfl
@[go_sem] theorem x_zc3 : zc Try.prog 3 = some [Go.Value.int Go.IntKind.i64 0] := by kernel_rfl
@[go_sem] theorem x_zc5 : zc Try.prog 5 = some [Go.Value.int Go.IntKind.u8 0] := by kernel_rfl
@[go_sem] theorem x_zc30 : zc Try.prog 30 = some [Go.Value.int Go.IntKind.i64 0, Go.Value.int Go.IntKind.i64 0, Go.Value.int Go.IntKind.i64 0] := by kernel_rfl
@[go_sem] theorem x_zc31 : zc Try.prog 31 = some [Go.Value.slice none 0 0] := by kernel_rfl
@[go_sem] theorem x_zc36 : zc Try.prog 36 = some [Go.Value.int Go.IntKind.i64 0, Go.Value.int Go.IntKind.i64 0, Go.Value.int Go.IntKind.i64 0] := by kernel_rfl
@[go_sem] theorem x_zc42 : zc Try.prog 42 = some [Go.Value.int Go.IntKind.i64 0, Go.Value.int Go.IntKind.i64 0, Go.Value.int Go.IntKind.i64 0, Go.Value.int Go.IntKind.i64 0, Go.Value.int Go.IntKind.i64 0] := by kernel_rfl
@[go_sem] theorem x_zc47 : zc Try.prog 47 = some [Go.Value.int Go.IntKind.i64 0, Go.Value.int Go.IntKind.i64 0] := by kernel_rfl
@[go_sem] theorem x_zc86 : zc Try.prog 86 = some [Go.Value.int Go.IntKind.i64 0, Go.Value.int Go.IntKind.i64 0, Go.Value.int Go.IntKind.i64 0] := by kernel_rfl
@[go_sem] theorem x_zc96 : zc Try.prog 96 = some [Go.Value.int Go.IntKind.i64 0, Go.Value.int Go.IntKind.i64 0] := by kernel_rfl
@[go_sem] theorem x_zc99 : zc Try.prog 99 = some [Go.Value.int Go.IntKind.i64 0, Go.Value.int Go.IntKind.i64 0] := by kernel_rfl
@[go_sem] theorem x_zc134 : zc Try.prog 134 = some [Go.Value.int Go.IntKind.u32 0, Go.Value.int Go.IntKind.i32 0, Go.Value.int Go.IntKind.u32 0, Go.Value.bool false, Go.Value.int Go.IntKind.u32 0, Go.Value.int Go.IntKind.u32 0, Go.Value.int Go.IntKind.u32 0, Go.Value.int Go.IntKind.u32 0, Go.Value.int Go.IntKind.u32 0, Go.Value.int Go.IntKind.u32 0, Go.Value.int Go.IntKind.u32 0, Go.Value.int Go.IntKind.u32 0, Go.Value.int Go.IntKind.u32 0, Go.Value.int Go.IntKind.u32 0, Go.Value.int Go.IntKind.u32 0, Go.Value.int Go.IntKind.u32 0, Go.Value.int Go.IntKind.u32 0, Go.Value.int Go.IntKind.u32 0, Go.Value.int Go.IntKind.u32 0, Go.Value.int Go.IntKind.u32 0, Go.Value.int Go.IntKind.u32 0, Go.Value.int Go.IntKind.u32 0, Go.Value.int Go.IntKind.u32 0, Go.Value.int Go.IntKind.u32 0, Go.Value.int Go.IntKind.u32 0, Go.Value.int Go.IntKind.u32 0, Go.Value.int Go.IntKind.u32 0, Go.Value.int Go.IntKind.u32 0, Go.Value.int Go.IntKind.u32 0, Go.Value.int Go.IntKind.u32 0, Go.Value.int Go.IntKind.u32 0, Go.Value.int Go.IntKind.u32 0, Go.Value.int Go.IntKind.u32 0, Go.Value.int Go.IntKind.u32 0, Go.Value.int Go.IntKind.u32 0, Go.Value.int Go.IntKind.u32 0, Go.Value.int Go.IntKind.u32 0, Go.Value.int Go.IntKind.u32 0, Go.Value.int Go.IntKind.u32 0, Go.Value.int Go.IntKind.u32 0, Go.Value.int Go.IntKind.u32 0, Go.Value.int Go.IntKind.u32 0, Go.Value.int Go.IntKind.u32 0, Go.Value.int Go.IntKind.u32 0, Go.Value.int Go.IntKind.u32 0, Go.Value.int Go.IntKind.u32 0, Go.Value.int Go.IntKind.u32 0, Go.Value.int Go.IntKind.u32 0, Go.Value.int Go.IntKind.u32 0, Go.Value.int Go.IntKind.u32 0, Go.Value.int Go.IntKind.u32 0, Go.Value.int Go.IntKind.u32 0, Go.Value.int Go.IntKind.u32 0, Go.Value.int Go.IntKind.u32 0, Go.Value.int Go.IntKind.u32 0, Go.Value.int Go.IntKind.u32 0, Go.Value.int Go.IntKind.u32 0, Go.Value.int Go.IntKind.u32 0, Go.Value.int Go.IntKind.u32 0, Go.Value.int Go.IntKind.u32 0, Go.Value.int Go.IntKind.u32 0, Go.Value.int Go.IntKind.u32 0, Go.Value.int Go.IntKind.u32 0, Go.Value.int Go.IntKind.u32 0, Go.Value.int Go.IntKind.u32 0, Go.Value.int Go.IntKind.u32 0, Go.Value.int Go.IntKind.u32 0, Go.Value.int Go.IntKind.u32 0, Go.Value.int Go.IntKind.u32 0, Go.Value.int Go.IntKind.u32 0, Go.Value.int Go.IntKind.u32 0, Go.Value.int Go.IntKind.u32 0, Go.Value.int Go.IntKind.u32 0, Go.Value.int Go.IntKind.u32 0, Go.Value.int Go.IntKind.u32 0, Go.Value.int Go.IntKind.u32 0, Go.Value.int Go.IntKind.u32 0, Go.Value.int Go.IntKind.u32 0, Go.Value.int Go.IntKind.u32 0, Go.Value.int Go.IntKind.u32 0, Go.Value.int Go.IntKind.u32 0, Go.Value.int Go.IntKind.u32 0, Go.Value.int Go.IntKind.u32 0, Go.Value.int Go.IntKind.u32 0, Go.Value.int Go.IntKind.u32 0, Go.Value.int Go.IntKind.u32 0, Go.Value.int Go.IntKind.u32 0, Go.Value.int Go.IntKind.u32 0, Go.Value.int Go.IntKind.u32 0, Go.Value.int Go.IntKind.u32 0, Go.Value.int Go.IntKind.u32 0, Go.Value.int Go.IntKind.u32 0, Go.Value.int Go.IntKind.u32 0, Go.Value.int Go.IntKind.u32 0, Go.Value.int Go.IntKind.u32 0, Go.Value.int Go.IntKind.u32 0, Go.Value.int Go.IntKind.u32 0, Go.Value.int Go.IntKind.u32 0, Go.Value.int Go.IntKind.u32 0, Go.Value.int Go.IntKind.u32 0, Go.Value.int Go.IntKind.u32 0, Go.Value.int Go.IntKind.u32 0, Go.Value.int Go.IntKind.u32 0, Go.Value.int Go.IntKind.u32 0, Go.Value.int Go.IntKind.u32 0, Go.Value.int Go.IntKind.u32 0, Go.Value.int Go.IntKind.u32 0, Go.Value.int Go.IntKind.u32 0, Go.Value.int Go.IntKind.u32 0, Go.Value.int Go.IntKind.u32 0, Go.Value.int Go.IntKind.u32 0, Go.Value.int Go.IntKind.u32 0, Go.Value.int Go.IntKind.u32 0, Go.Value.int Go.IntKind.u32 0, Go.Value.int Go.IntKind.u32 0, Go.Value.int Go.IntKind.u32 0, Go.Value.int Go.IntKind.u32 0, Go.Value.int Go.IntKind.u32 0, Go.Value.int Go.IntKind.u32 0, Go.Value.int Go.IntKind.u32 0, Go.Value.int Go.IntKind.u32 0, Go.Value.int Go.IntKind.u32 0, Go.Value.int Go.IntKind.u32 0, Go.Value.int Go.IntKind.u32 0, Go.Value.int Go.IntKind.u32 0, Go.Value.int Go.IntKind.u32 0, Go.Value.int Go.IntKind.u32 0, Go.Value.int Go.IntKind.u32 0, Go.Value.int Go.IntKind.u32 0, Go.Value.int Go.IntKind.u32 0, Go.Value.int Go.IntKind.u32 0, Go.Value.int Go.IntKind.u32 0, Go.Value.int Go.IntKind.u32 0, Go.Value.int Go.IntKind.u32 0, Go.Value.int Go.IntKind.u32 0, Go.Value.int Go.IntKind.u32 0, Go.Value.int Go.IntKind.u32 0, Go.Value.int Go.IntKind.u32 0, Go.Value.int Go.IntKind.u32 0, Go.Value.int Go.IntKind.u32 0, Go.Value.int Go.IntKind.u32 0, Go.Value.int Go.IntKind.u32 0, Go.Value.int Go.IntKind.u32 0, Go.Value.int Go.IntKind.u32 0, Go.Value.int Go.IntKind.u32 0, Go.Value.int Go.IntKind.u32 0, Go.Value.int Go.IntKind.u32 0, Go.Value.int Go.IntKind.u32 0, Go.Value.int Go.IntKind.u32 0, Go.Value.int Go.IntKind.u32 0, Go.Value.int Go.IntKind.u32 0, Go.Value.int Go.IntKind.u32 0, Go.Value.int Go.IntKind.u32 0, Go.Value.int Go.IntKind.u32 0, Go.Value.int Go.IntKind.u32 0, Go.Value.int Go.IntKind.u32 0, Go.Value.int Go.IntKind.u32 0, Go.Value.int Go.IntKind.u32 0, Go.Value.int Go.IntKind.u32 0, Go.Value.int Go.IntKind.u32 0, Go.Value.int Go.IntKind.u32 0, Go.Value.int Go.IntKind.u32 0, Go.Value.int Go.IntKind.u32 0, Go.Value.int Go.IntKind.u32 0, Go.Value.int Go.IntKind.u32 0, Go.Value.int Go.IntKind.u32 0, Go.Value.int Go.IntKind.u32 0, Go.Value.int Go.IntKind.u32 0, Go.Value.int Go.IntKind.u32 0, Go.Value.int Go.IntKind.u32 0, Go.Value.int Go.IntKind.u32 0, Go.Value.int Go.IntKind.u32 0, Go.Value.int Go.IntKind.u32 0, Go.Value.int Go.IntKind.u32 0, Go.Value.int Go.IntKind.u32 0, Go.Value.int Go.IntKind.u32 0, Go.Value.int Go.IntKind.u32 0, Go.Value.int Go.IntKind.u32 0, Go.Value.int Go.IntKind.u32 0, Go.Value.int Go.IntKind.u32 0, Go.Value.int Go.IntKind.u32 0, Go.Value.int Go.IntKind.u32 0, Go.Value.int Go.IntKind.u32 0, Go.Value.int Go.IntKind.u32 0, Go.Value.int Go.IntKind.u32 0, Go.Value.int Go.IntKind.u32 0, Go.Value.int Go.IntKind.u32 0, Go.Value.int Go.IntKind.u32 0, Go.Value.int Go.IntKind.u32 0, Go.Value.int Go.IntKind.u32 0, Go.Value.int Go.IntKind.u32 0, Go.Value.int Go.IntKind.u32 0, Go.Value.int Go.IntKind.u32 0, Go.Value.int Go.IntKind.u32 0, Go.Value.int Go.IntKind.u32 0, Go.Value.int Go.IntKind.u32 0, Go.Value.int Go.IntKind.u32 0, Go.Value.int Go.IntKind.u32 0, Go.Value.int Go.IntKind.u32 0, Go.Value.int Go.IntKind.u32 0, Go.Value.int Go.IntKind.u32 0, Go.Value.int Go.IntKind.u32 0, Go.Value.int Go.IntKind.u32 0, Go.Value.int Go.IntKind.u32 0, Go.Value.int Go.IntKind.u32 0, Go.Value.int Go.IntKind.u32 0, Go.Value.int Go.IntKind.u32 0, Go.Value.int Go.IntKind.u32 0, Go.Value.int Go.IntKind.u32 0, Go.Value.int Go.IntKind.u32 0, Go.Value.int Go.IntKind.u32 0, Go.Value.int Go.IntKind.u32 0, Go.Value.int Go.IntKind.u32 0, Go.Value.int Go.IntKind.u32 0, Go.Value.int Go.IntKind.u32 0, Go.Value.int Go.IntKind.u32 0, Go.Value.int Go.IntKind.u32 0, Go.Value.int Go.IntKind.u32 0, Go.Value.int Go.IntKind.u32 0, Go.Value.int Go.IntKind.u32 0, Go.Value.int Go.IntKind.u32 0, Go.Value.int Go.IntKind.u32 0, Go.Value.int Go.IntKind.u32 0, Go.Value.int Go.IntKind.u32 0, Go.Value.int Go.IntKind.u32 0, Go.Value.int Go.IntKind.u32 0, Go.Value.int Go.IntKind.u32 0, Go.Value.int Go.IntKind.u32 0, Go.Value.int Go.IntKind.u32 0, Go.Value.int Go.IntKind.u32 0, Go.Value.int Go.IntKind.u32 0, Go.Value.int Go.IntKind.u32 0, Go.Value.int Go.IntKind.u32 0, Go.Value.int Go.IntKind.u32 0, Go.Value.int Go.IntKind.u32 0, Go.Value.int Go.IntKind.u32 0, Go.Value.int Go.IntKind.u32 0, Go.Value.int Go.IntKind.u32 0, Go.Value.int Go.IntKind.u32 0, Go.Value.int Go.IntKind.u32 0, Go.Value.int Go.IntKind.u32 0, Go.Value.int Go.IntKind.u32 0, Go.Value.int Go.IntKind.u32 0, Go.Value.int Go.IntKind.u32 0, Go.Value.int Go.IntKind.u32 0, Go.Value.int Go.IntKind.u32 0, Go.Value.int Go.IntKind.u32 0, Go.Value.int Go.IntKind.u32 0, Go.Value.int Go.IntKind.u32 0, Go.Value.int Go.IntKind.u32 0, Go.Value.int Go.IntKind.u32 0, Go.Value.int Go.IntKind.u32 0, Go.Value.int Go.IntKind.u32 0, Go.Value.int Go.IntKind.u32 0, Go.Value.int Go.IntKind.u32 0, Go.Value.int Go.IntKind.u32 0, Go.Value.int Go.IntKind.u32 0, Go.Value.int Go.IntKind.u32 0, Go.Value.int Go.IntKind.u32 0, Go.Value.int Go.IntKind.u32 0] := by kernel_rfl
end Go.Proofs.Ytigkcigoiinkpaa.Am
