import Derived.Test.YtigkcigoiinkpaaProg
import Derived.KernelRfl
import Derived.RowKit
import Derived.Laws.BitsLemmas
import Derived.Test.YtigkcigoiinkpaaZZA
section
set_option linter.unusedVariables false
namespace Go.Proofs.Ytigkcigoiinkpaa.Am
open Go Go.RowKit Go.Proofs
def Es (t : TypeId) (n : Nat) : Prop:=eqSN Try.prog t = some n
theorem Es_ok : ∀ t n,Es t n → EqS Try.prog t n:=fun _ _ h=>eqSN_ok h
@[go_sem] theorem x_ar22 : ar Try.prog 22 = none:=by kernel_rfl
@[go_sem] theorem x_ar23 : ar Try.prog 23 = none:=by kernel_rfl
@[go_sem] theorem x_ar24 : ar Try.prog 24 = none:=by kernel_rfl
@[go_sem] theorem x_ar25 : ar Try.prog 25 = none:=by kernel_rfl
@[go_sem] theorem x_ar31 : ar Try.prog 31 = none:=by kernel_rfl
@[go_sem] theorem x_ar45 : ar Try.prog 45 = none:=by kernel_rfl
@[go_sem] theorem x_ar50 : ar Try.prog 50 = none:=by kernel_rfl
@[go_sem] theorem x_ar56 : ar Try.prog 56 = none:=by kernel_rfl
@[go_sem] theorem x_ar57 : ar Try.prog 57 = none:=by kernel_rfl
@[go_sem] theorem x_ar69 : ar Try.prog 69 = none:=by kernel_rfl
@[go_sem] theorem x_ar132 : ar Try.prog 132 = some (256,1):=by kernel_rfl
@[go_sem] theorem x_bt2 : isBoolT Try.prog 2 = false:=by kernel_rfl
@[go_sem] theorem x_bt3 : isBoolT Try.prog 3 = false:=by kernel_rfl
@[go_sem] theorem x_bt4 : isBoolT Try.prog 4 = true:=by kernel_rfl
@[go_sem] theorem x_bt5 : isBoolT Try.prog 5 = false:=by kernel_rfl
@[go_sem] theorem x_bt9 : isBoolT Try.prog 9 = false:=by kernel_rfl
@[go_sem] theorem x_bt21 : isBoolT Try.prog 21 = false:=by kernel_rfl
@[go_sem] theorem x_bt36 : isBoolT Try.prog 36 = false:=by kernel_rfl
@[go_sem] theorem x_bt42 : isBoolT Try.prog 42 = false:=by kernel_rfl
@[go_sem] theorem x_bt47 : isBoolT Try.prog 47 = false:=by kernel_rfl
@[go_sem] theorem x_bt86 : isBoolT Try.prog 86 = false:=by kernel_rfl
@[go_sem] theorem x_bt96 : isBoolT Try.prog 96 = false:=by kernel_rfl
@[go_sem] theorem x_bt103 : isBoolT Try.prog 103 = false:=by kernel_rfl
@[go_sem] theorem x_bt114 : isBoolT Try.prog 114 = false:=by kernel_rfl
@[go_sem] theorem x_el3 : el Try.prog 3 = none:=by kernel_rfl
@[go_sem] theorem x_el5 : el Try.prog 5 = none:=by kernel_rfl
@[go_sem] theorem x_el22 : el Try.prog 22 = some (30,3,24):=by kernel_rfl
@[go_sem] theorem x_el23 : el Try.prog 23 = some (42,5,40):=by kernel_rfl
@[go_sem] theorem x_el24 : el Try.prog 24 = some (36,3,24):=by kernel_rfl
@[go_sem] theorem x_el25 : el Try.prog 25 = some (86,3,24):=by kernel_rfl
@[go_sem] theorem x_el31 : el Try.prog 31 = some (5,1,1):=by kernel_rfl
@[go_sem] theorem x_el45 : el Try.prog 45 = some (47,2,16):=by kernel_rfl
@[go_sem] theorem x_el50 : el Try.prog 50 = some (3,1,8):=by kernel_rfl
@[go_sem] theorem x_el56 : el Try.prog 56 = some (99,2,16):=by kernel_rfl
@[go_sem] theorem x_el57 : el Try.prog 57 = some (96,2,16):=by kernel_rfl
@[go_sem] theorem x_el69 : el Try.prog 69 = some (31,1,24):=by kernel_rfl
@[go_sem] theorem x_el103 : el Try.prog 103 = none:=by kernel_rfl
@[go_sem] theorem x_el114 : el Try.prog 114 = none:=by kernel_rfl
@[go_sem] theorem x_el132 : el Try.prog 132 = none:=by kernel_rfl
@[go_sem] theorem x_el145 : el Try.prog 145 = none:=by kernel_rfl
@[go_sem] theorem x_es36 : Es 36 3 = True:=eq_true (by show eqSN Try.prog 36 = some 3;kernel_rfl)
@[go_sem] theorem x_es42 : Es 42 5 = True:=eq_true (by show eqSN Try.prog 42 = some 5;kernel_rfl)
@[go_sem] theorem x_es47 : Es 47 2 = True:=eq_true (by show eqSN Try.prog 47 = some 2;kernel_rfl)
@[go_sem] theorem x_es86 : Es 86 3 = True:=eq_true (by show eqSN Try.prog 86 = some 3;kernel_rfl)
@[go_sem] theorem x_es96 : Es 96 2 = True:=eq_true (by show eqSN Try.prog 96 = some 2;kernel_rfl)
@[go_sem] theorem x_fo30_0 : fo Try.prog 30 0 = some (0,3):=by kernel_rfl
@[go_sem] theorem x_fo30_1 : fo Try.prog 30 1 = some (1,3):=by kernel_rfl
@[go_sem] theorem x_fo30_2 : fo Try.prog 30 2 = some (2,3):=by kernel_rfl
@[go_sem] theorem x_fo36_0 : fo Try.prog 36 0 = some (0,3):=by kernel_rfl
@[go_sem] theorem x_fo36_1 : fo Try.prog 36 1 = some (1,3):=by kernel_rfl
@[go_sem] theorem x_fo36_2 : fo Try.prog 36 2 = some (2,3):=by kernel_rfl
@[go_sem] theorem x_fo42_0 : fo Try.prog 42 0 = some (0,3):=by kernel_rfl
@[go_sem] theorem x_fo42_1 : fo Try.prog 42 1 = some (1,3):=by kernel_rfl
@[go_sem] theorem x_fo42_2 : fo Try.prog 42 2 = some (2,3):=by kernel_rfl
@[go_sem] theorem x_fo42_3 : fo Try.prog 42 3 = some (3,3):=by kernel_rfl
@[go_sem] theorem x_fo42_4 : fo Try.prog 42 4 = some (4,3):=by kernel_rfl
@[go_sem] theorem x_fo47_0 : fo Try.prog 47 0 = some (0,3):=by kernel_rfl
@[go_sem] theorem x_fo47_1 : fo Try.prog 47 1 = some (1,3):=by kernel_rfl
@[go_sem] theorem x_fo86_0 : fo Try.prog 86 0 = some (0,3):=by kernel_rfl
@[go_sem] theorem x_fo86_1 : fo Try.prog 86 1 = some (1,3):=by kernel_rfl
@[go_sem] theorem x_fo86_2 : fo Try.prog 86 2 = some (2,3):=by kernel_rfl
@[go_sem] theorem x_fo96_0 : fo Try.prog 96 0 = some (0,3):=by kernel_rfl
@[go_sem] theorem x_fo96_1 : fo Try.prog 96 1 = some (1,3):=by kernel_rfl
@[go_sem] theorem x_fo99_0 : fo Try.prog 99 0 = some (0,3):=by kernel_rfl
@[go_sem] theorem x_fo99_1 : fo Try.prog 99 1 = some (1,3):=by kernel_rfl
@[go_sem] theorem x_fo125_1 : fo Try.prog 125 1 = some (0,103):=by kernel_rfl
@[go_sem] theorem x_fo127_0 : fo Try.prog 127 0 = some (0,21):=by kernel_rfl
@[go_sem] theorem x_fo127_1 : fo Try.prog 127 1 = some (1,103):=by kernel_rfl
@[go_sem] theorem x_fo129_1 : fo Try.prog 129 1 = some (0,127):=by kernel_rfl
@[go_sem] theorem x_fo131_1 : fo Try.prog 131 1 = some (0,125):=by kernel_rfl
@[go_sem] theorem x_fo131_2 : fo Try.prog 131 2 = some (1,129):=by kernel_rfl
@[go_sem] theorem x_fo134_0 : fo Try.prog 134 0 = some (0,131):=by kernel_rfl
@[go_sem] theorem x_fo134_1 : fo Try.prog 134 1 = some (3,4):=by kernel_rfl
@[go_sem] theorem x_fo134_2 : fo Try.prog 134 2 = some (4,132):=by kernel_rfl
@[go_sem] theorem x_ik3 : ik Try.prog 3 = some Go.IntKind.i64:=by kernel_rfl
@[go_sem] theorem x_ik5 : ik Try.prog 5 = some Go.IntKind.u8:=by kernel_rfl
@[go_sem] theorem x_ik9 : ik Try.prog 9 = none:=by kernel_rfl
@[go_sem] theorem x_ik31 : ik Try.prog 31 = none:=by kernel_rfl
@[go_sem] theorem x_ik81 : ik Try.prog 81 = some Go.IntKind.u64:=by kernel_rfl
@[go_sem] theorem x_ik103 : ik Try.prog 103 = some Go.IntKind.u32:=by kernel_rfl
@[go_sem] theorem x_ik114 : ik Try.prog 114 = some Go.IntKind.u64:=by kernel_rfl
@[go_sem] theorem x_ik145 : ik Try.prog 145 = none:=by kernel_rfl
@[go_sem] theorem x_ik149 : ik Try.prog 149 = none:=by kernel_rfl
@[go_sem] theorem x_pl30 : pl Try.prog 30 = some [(0,1),(1,1),(2,1)]:=by kernel_rfl
@[go_sem] theorem x_pl36 : pl Try.prog 36 = some [(0,1),(1,1),(2,1)]:=by kernel_rfl
@[go_sem] theorem x_pl42 : pl Try.prog 42 = some [(0,1),(1,1),(2,1),(3,1),(4,1)]:=by kernel_rfl
@[go_sem] theorem x_pl47 : pl Try.prog 47 = some [(0,1),(1,1)]:=by kernel_rfl
@[go_sem] theorem x_pl86 : pl Try.prog 86 = some [(0,1),(1,1),(2,1)]:=by kernel_rfl
@[go_sem] theorem x_pl96 : pl Try.prog 96 = some [(0,1),(1,1)]:=by kernel_rfl
@[go_sem] theorem x_pl99 : pl Try.prog 99 = some [(0,1),(1,1)]:=by kernel_rfl
@[go_sem] theorem x_pl134 : pl Try.prog 134 = some [(0,3),(3,1),(4,256)]:=by kernel_rfl
@[go_sem] theorem x_pt2 : isPtrT Try.prog 2 = false:=by kernel_rfl
@[go_sem] theorem x_pt3 : isPtrT Try.prog 3 = false:=by kernel_rfl
@[go_sem] theorem x_pt4 : isPtrT Try.prog 4 = false:=by kernel_rfl
@[go_sem] theorem x_pt5 : isPtrT Try.prog 5 = false:=by kernel_rfl
@[go_sem] theorem x_pt9 : isPtrT Try.prog 9 = false:=by kernel_rfl
@[go_sem] theorem x_pt21 : isPtrT Try.prog 21 = false:=by kernel_rfl
@[go_sem] theorem x_pt36 : isPtrT Try.prog 36 = false:=by kernel_rfl
@[go_sem] theorem x_pt42 : isPtrT Try.prog 42 = false:=by kernel_rfl
@[go_sem] theorem x_pt47 : isPtrT Try.prog 47 = false:=by kernel_rfl
@[go_sem] theorem x_pt86 : isPtrT Try.prog 86 = false:=by kernel_rfl
@[go_sem] theorem x_pt96 : isPtrT Try.prog 96 = false:=by kernel_rfl
@[go_sem] theorem x_pt103 : isPtrT Try.prog 103 = false:=by kernel_rfl
@[go_sem] theorem x_pt114 : isPtrT Try.prog 114 = false:=by kernel_rfl
@[go_sem] theorem x_slt22 : slT Try.prog 22 = true:=by kernel_rfl
@[go_sem] theorem x_slt23 : slT Try.prog 23 = true:=by kernel_rfl
@[go_sem] theorem x_slt24 : slT Try.prog 24 = true:=by kernel_rfl
@[go_sem] theorem x_slt25 : slT Try.prog 25 = true:=by kernel_rfl
@[go_sem] theorem x_slt31 : slT Try.prog 31 = true:=by kernel_rfl
@[go_sem] theorem x_slt45 : slT Try.prog 45 = true:=by kernel_rfl
@[go_sem] theorem x_slt50 : slT Try.prog 50 = true:=by kernel_rfl
@[go_sem] theorem x_slt56 : slT Try.prog 56 = true:=by kernel_rfl
@[go_sem] theorem x_slt57 : slT Try.prog 57 = true:=by kernel_rfl
@[go_sem] theorem x_slt69 : slT Try.prog 69 = true:=by kernel_rfl
@[go_sem] theorem x_st3 : strT Try.prog 3 = false:=by kernel_rfl
@[go_sem] theorem x_st5 : strT Try.prog 5 = false:=by kernel_rfl
@[go_sem] theorem x_st9 : strT Try.prog 9 = true:=by kernel_rfl
@[go_sem] theorem x_st81 : strT Try.prog 81 = false:=by kernel_rfl
@[go_sem] theorem x_st103 : strT Try.prog 103 = false:=by kernel_rfl
@[go_sem] theorem x_st114 : strT Try.prog 114 = false:=by kernel_rfl
@[go_sem] theorem x_st149 : strT Try.prog 149 = false:=by kernel_rfl
@[go_sem] theorem x_tk3 : tk Try.prog 3 = some (false,1):=by kernel_rfl
@[go_sem] theorem x_tk4 : tk Try.prog 4 = some (false,1):=by kernel_rfl
@[go_sem] theorem x_tk5 : tk Try.prog 5 = some (false,1):=by kernel_rfl
@[go_sem] theorem x_tk21 : tk Try.prog 21 = some (false,1):=by kernel_rfl
@[go_sem] theorem x_tk30 : tk Try.prog 30 = some (true,3):=by kernel_rfl
@[go_sem] theorem x_tk31 : tk Try.prog 31 = some (false,1):=by kernel_rfl
@[go_sem] theorem x_tk36 : tk Try.prog 36 = some (true,3):=by kernel_rfl
@[go_sem] theorem x_tk42 : tk Try.prog 42 = some (true,5):=by kernel_rfl
@[go_sem] theorem x_tk47 : tk Try.prog 47 = some (true,2):=by kernel_rfl
@[go_sem] theorem x_tk86 : tk Try.prog 86 = some (true,3):=by kernel_rfl
@[go_sem] theorem x_tk96 : tk Try.prog 96 = some (true,2):=by kernel_rfl
@[go_sem] theorem x_tk99 : tk Try.prog 99 = some (true,2):=by kernel_rfl
@[go_sem] theorem x_tk103 : tk Try.prog 103 = some (false,1):=by kernel_rfl
@[go_sem] theorem x_tk125 : tk Try.prog 125 = some (true,1):=by kernel_rfl
@[go_sem] theorem x_tk127 : tk Try.prog 127 = some (true,2):=by kernel_rfl
@[go_sem] theorem x_tk129 : tk Try.prog 129 = some (true,2):=by kernel_rfl
@[go_sem] theorem x_tk131 : tk Try.prog 131 = some (true,3):=by kernel_rfl
@[go_sem] theorem x_tk132 : tk Try.prog 132 = some (true,256):=by kernel_rfl
@[go_sem] theorem x_tk134 : tk Try.prog 134 = some (true,260):=by kernel_rfl
@[go_sem] theorem x_un3 : (Try.prog.underlying 3).isSome = true:=by kernel_rfl
@[go_sem] theorem x_un5 : (Try.prog.underlying 5).isSome = true:=by kernel_rfl
@[go_sem] theorem x_un31 : (Try.prog.underlying 31).isSome = true:=by kernel_rfl
@[go_sem] theorem x_un103 : (Try.prog.underlying 103).isSome = true:=by kernel_rfl
@[go_sem] theorem x_un114 : (Try.prog.underlying 114).isSome = true:=by kernel_rfl
@[go_sem] theorem x_un145 : (Try.prog.underlying 145).isSome = true:=by kernel_rfl
@[go_sem] theorem x_zc3 : zc Try.prog 3 = some [Go.Value.int Go.IntKind.i64 0]:=by kernel_rfl
@[go_sem] theorem x_zc5 : zc Try.prog 5 = some [Go.Value.int Go.IntKind.u8 0]:=by kernel_rfl
@[go_sem] theorem x_zc30 : zc Try.prog 30 = some [Go.Value.int Go.IntKind.i64 0,Go.Value.int Go.IntKind.i64 0,Go.Value.int Go.IntKind.i64 0]:=by kernel_rfl
@[go_sem] theorem x_zc31 : zc Try.prog 31 = some [Go.Value.slice none 0 0]:=by kernel_rfl
@[go_sem] theorem x_zc36 : zc Try.prog 36 = some [Go.Value.int Go.IntKind.i64 0,Go.Value.int Go.IntKind.i64 0,Go.Value.int Go.IntKind.i64 0]:=by kernel_rfl
@[go_sem] theorem x_zc42 : zc Try.prog 42 = some [Go.Value.int Go.IntKind.i64 0,Go.Value.int Go.IntKind.i64 0,Go.Value.int Go.IntKind.i64 0,Go.Value.int Go.IntKind.i64 0,Go.Value.int Go.IntKind.i64 0]:=by kernel_rfl
@[go_sem] theorem x_zc47 : zc Try.prog 47 = some [Go.Value.int Go.IntKind.i64 0,Go.Value.int Go.IntKind.i64 0]:=by kernel_rfl
@[go_sem] theorem x_zc86 : zc Try.prog 86 = some [Go.Value.int Go.IntKind.i64 0,Go.Value.int Go.IntKind.i64 0,Go.Value.int Go.IntKind.i64 0]:=by kernel_rfl
@[go_sem] theorem x_zc96 : zc Try.prog 96 = some [Go.Value.int Go.IntKind.i64 0,Go.Value.int Go.IntKind.i64 0]:=by kernel_rfl
@[go_sem] theorem x_zc99 : zc Try.prog 99 = some [Go.Value.int Go.IntKind.i64 0,Go.Value.int Go.IntKind.i64 0]:=by kernel_rfl
@[go_sem] theorem x_zc134 : zc Try.prog 134 = some [Go.Value.int Go.IntKind.u32 0,Go.Value.int Go.IntKind.i32 0,Go.Value.int Go.IntKind.u32 0,Go.Value.bool false,Go.Value.int Go.IntKind.u32 0,Go.Value.int Go.IntKind.u32 0,Go.Value.int Go.IntKind.u32 0,Go.Value.int Go.IntKind.u32 0,Go.Value.int Go.IntKind.u32 0,Go.Value.int Go.IntKind.u32 0,Go.Value.int Go.IntKind.u32 0,Go.Value.int Go.IntKind.u32 0,Go.Value.int Go.IntKind.u32 0,Go.Value.int Go.IntKind.u32 0,Go.Value.int Go.IntKind.u32 0,Go.Value.int Go.IntKind.u32 0,Go.Value.int Go.IntKind.u32 0,Go.Value.int Go.IntKind.u32 0,Go.Value.int Go.IntKind.u32 0,Go.Value.int Go.IntKind.u32 0,Go.Value.int Go.IntKind.u32 0,Go.Value.int Go.IntKind.u32 0,Go.Value.int Go.IntKind.u32 0,Go.Value.int Go.IntKind.u32 0,Go.Value.int Go.IntKind.u32 0,Go.Value.int Go.IntKind.u32 0,Go.Value.int Go.IntKind.u32 0,Go.Value.int Go.IntKind.u32 0,Go.Value.int Go.IntKind.u32 0,Go.Value.int Go.IntKind.u32 0,Go.Value.int Go.IntKind.u32 0,Go.Value.int Go.IntKind.u32 0,Go.Value.int Go.IntKind.u32 0,Go.Value.int Go.IntKind.u32 0,Go.Value.int Go.IntKind.u32 0,Go.Value.int Go.IntKind.u32 0,Go.Value.int Go.IntKind.u32 0,Go.Value.int Go.IntKind.u32 0,Go.Value.int Go.IntKind.u32 0,Go.Value.int Go.IntKind.u32 0,Go.Value.int Go.IntKind.u32 0,Go.Value.int Go.IntKind.u32 0,Go.Value.int Go.IntKind.u32 0,Go.Value.int Go.IntKind.u32 0,Go.Value.int Go.IntKind.u32 0,Go.Value.int Go.IntKind.u32 0,Go.Value.int Go.IntKind.u32 0,Go.Value.int Go.IntKind.u32 0,Go.Value.int Go.IntKind.u32 0,Go.Value.int Go.IntKind.u32 0,Go.Value.int Go.IntKind.u32 0,Go.Value.int Go.IntKind.u32 0,Go.Value.int Go.IntKind.u32 0,Go.Value.int Go.IntKind.u32 0,Go.Value.int Go.IntKind.u32 0,Go.Value.int Go.IntKind.u32 0,Go.Value.int Go.IntKind.u32 0,Go.Value.int Go.IntKind.u32 0,Go.Value.int Go.IntKind.u32 0,Go.Value.int Go.IntKind.u32 0,Go.Value.int Go.IntKind.u32 0,Go.Value.int Go.IntKind.u32 0,Go.Value.int Go.IntKind.u32 0,Go.Value.int Go.IntKind.u32 0,Go.Value.int Go.IntKind.u32 0,Go.Value.int Go.IntKind.u32 0,Go.Value.int Go.IntKind.u32 0,Go.Value.int Go.IntKind.u32 0,Go.Value.int Go.IntKind.u32 0,Go.Value.int Go.IntKind.u32 0,Go.Value.int Go.IntKind.u32 0,Go.Value.int Go.IntKind.u32 0,Go.Value.int Go.IntKind.u32 0,Go.Value.int Go.IntKind.u32 0,Go.Value.int Go.IntKind.u32 0,Go.Value.int Go.IntKind.u32 0,Go.Value.int Go.IntKind.u32 0,Go.Value.int Go.IntKind.u32 0,Go.Value.int Go.IntKind.u32 0,Go.Value.int Go.IntKind.u32 0,Go.Value.int Go.IntKind.u32 0,Go.Value.int Go.IntKind.u32 0,Go.Value.int Go.IntKind.u32 0,Go.Value.int Go.IntKind.u32 0,Go.Value.int Go.IntKind.u32 0,Go.Value.int Go.IntKind.u32 0,Go.Value.int Go.IntKind.u32 0,Go.Value.int Go.IntKind.u32 0,Go.Value.int Go.IntKind.u32 0,Go.Value.int Go.IntKind.u32 0,Go.Value.int Go.IntKind.u32 0,Go.Value.int Go.IntKind.u32 0,Go.Value.int Go.IntKind.u32 0,Go.Value.int Go.IntKind.u32 0,Go.Value.int Go.IntKind.u32 0,Go.Value.int Go.IntKind.u32 0,Go.Value.int Go.IntKind.u32 0,Go.Value.int Go.IntKind.u32 0,Go.Value.int Go.IntKind.u32 0,Go.Value.int Go.IntKind.u32 0,Go.Value.int Go.IntKind.u32 0,Go.Value.int Go.IntKind.u32 0,Go.Value.int Go.IntKind.u32 0,Go.Value.int Go.IntKind.u32 0,Go.Value.int Go.IntKind.u32 0,Go.Value.int Go.IntKind.u32 0,Go.Value.int Go.IntKind.u32 0,Go.Value.int Go.IntKind.u32 0,Go.Value.int Go.IntKind.u32 0,Go.Value.int Go.IntKind.u32 0,Go.Value.int Go.IntKind.u32 0,Go.Value.int Go.IntKind.u32 0,Go.Value.int Go.IntKind.u32 0,Go.Value.int Go.IntKind.u32 0,Go.Value.int Go.IntKind.u32 0,Go.Value.int Go.IntKind.u32 0,Go.Value.int Go.IntKind.u32 0,Go.Value.int Go.IntKind.u32 0,Go.Value.int Go.IntKind.u32 0,Go.Value.int Go.IntKind.u32 0,Go.Value.int Go.IntKind.u32 0,Go.Value.int Go.IntKind.u32 0,Go.Value.int Go.IntKind.u32 0,Go.Value.int Go.IntKind.u32 0,Go.Value.int Go.IntKind.u32 0,Go.Value.int Go.IntKind.u32 0,Go.Value.int Go.IntKind.u32 0,Go.Value.int Go.IntKind.u32 0,Go.Value.int Go.IntKind.u32 0,Go.Value.int Go.IntKind.u32 0,Go.Value.int Go.IntKind.u32 0,Go.Value.int Go.IntKind.u32 0,Go.Value.int Go.IntKind.u32 0,Go.Value.int Go.IntKind.u32 0,Go.Value.int Go.IntKind.u32 0,Go.Value.int Go.IntKind.u32 0,Go.Value.int Go.IntKind.u32 0,Go.Value.int Go.IntKind.u32 0,Go.Value.int Go.IntKind.u32 0,Go.Value.int Go.IntKind.u32 0,Go.Value.int Go.IntKind.u32 0,Go.Value.int Go.IntKind.u32 0,Go.Value.int Go.IntKind.u32 0,Go.Value.int Go.IntKind.u32 0,Go.Value.int Go.IntKind.u32 0,Go.Value.int Go.IntKind.u32 0,Go.Value.int Go.IntKind.u32 0,Go.Value.int Go.IntKind.u32 0,Go.Value.int Go.IntKind.u32 0,Go.Value.int Go.IntKind.u32 0,Go.Value.int Go.IntKind.u32 0,Go.Value.int Go.IntKind.u32 0,Go.Value.int Go.IntKind.u32 0,Go.Value.int Go.IntKind.u32 0,Go.Value.int Go.IntKind.u32 0,Go.Value.int Go.IntKind.u32 0,Go.Value.int Go.IntKind.u32 0,Go.Value.int Go.IntKind.u32 0,Go.Value.int Go.IntKind.u32 0,Go.Value.int Go.IntKind.u32 0,Go.Value.int Go.IntKind.u32 0,Go.Value.int Go.IntKind.u32 0,Go.Value.int Go.IntKind.u32 0,Go.Value.int Go.IntKind.u32 0,Go.Value.int Go.IntKind.u32 0,Go.Value.int Go.IntKind.u32 0,Go.Value.int Go.IntKind.u32 0,Go.Value.int Go.IntKind.u32 0,Go.Value.int Go.IntKind.u32 0,Go.Value.int Go.IntKind.u32 0,Go.Value.int Go.IntKind.u32 0,Go.Value.int Go.IntKind.u32 0,Go.Value.int Go.IntKind.u32 0,Go.Value.int Go.IntKind.u32 0,Go.Value.int Go.IntKind.u32 0,Go.Value.int Go.IntKind.u32 0,Go.Value.int Go.IntKind.u32 0,Go.Value.int Go.IntKind.u32 0,Go.Value.int Go.IntKind.u32 0,Go.Value.int Go.IntKind.u32 0,Go.Value.int Go.IntKind.u32 0,Go.Value.int Go.IntKind.u32 0,Go.Value.int Go.IntKind.u32 0,Go.Value.int Go.IntKind.u32 0,Go.Value.int Go.IntKind.u32 0,Go.Value.int Go.IntKind.u32 0,Go.Value.int Go.IntKind.u32 0,Go.Value.int Go.IntKind.u32 0,Go.Value.int Go.IntKind.u32 0,Go.Value.int Go.IntKind.u32 0,Go.Value.int Go.IntKind.u32 0,Go.Value.int Go.IntKind.u32 0,Go.Value.int Go.IntKind.u32 0,Go.Value.int Go.IntKind.u32 0,Go.Value.int Go.IntKind.u32 0,Go.Value.int Go.IntKind.u32 0,Go.Value.int Go.IntKind.u32 0,Go.Value.int Go.IntKind.u32 0,Go.Value.int Go.IntKind.u32 0,Go.Value.int Go.IntKind.u32 0,Go.Value.int Go.IntKind.u32 0,Go.Value.int Go.IntKind.u32 0,Go.Value.int Go.IntKind.u32 0,Go.Value.int Go.IntKind.u32 0,Go.Value.int Go.IntKind.u32 0,Go.Value.int Go.IntKind.u32 0,Go.Value.int Go.IntKind.u32 0,Go.Value.int Go.IntKind.u32 0,Go.Value.int Go.IntKind.u32 0,Go.Value.int Go.IntKind.u32 0,Go.Value.int Go.IntKind.u32 0,Go.Value.int Go.IntKind.u32 0,Go.Value.int Go.IntKind.u32 0,Go.Value.int Go.IntKind.u32 0,Go.Value.int Go.IntKind.u32 0,Go.Value.int Go.IntKind.u32 0,Go.Value.int Go.IntKind.u32 0,Go.Value.int Go.IntKind.u32 0,Go.Value.int Go.IntKind.u32 0,Go.Value.int Go.IntKind.u32 0,Go.Value.int Go.IntKind.u32 0,Go.Value.int Go.IntKind.u32 0,Go.Value.int Go.IntKind.u32 0,Go.Value.int Go.IntKind.u32 0,Go.Value.int Go.IntKind.u32 0,Go.Value.int Go.IntKind.u32 0,Go.Value.int Go.IntKind.u32 0,Go.Value.int Go.IntKind.u32 0,Go.Value.int Go.IntKind.u32 0,Go.Value.int Go.IntKind.u32 0,Go.Value.int Go.IntKind.u32 0,Go.Value.int Go.IntKind.u32 0,Go.Value.int Go.IntKind.u32 0,Go.Value.int Go.IntKind.u32 0,Go.Value.int Go.IntKind.u32 0,Go.Value.int Go.IntKind.u32 0,Go.Value.int Go.IntKind.u32 0,Go.Value.int Go.IntKind.u32 0,Go.Value.int Go.IntKind.u32 0,Go.Value.int Go.IntKind.u32 0,Go.Value.int Go.IntKind.u32 0,Go.Value.int Go.IntKind.u32 0,Go.Value.int Go.IntKind.u32 0,Go.Value.int Go.IntKind.u32 0,Go.Value.int Go.IntKind.u32 0,Go.Value.int Go.IntKind.u32 0,Go.Value.int Go.IntKind.u32 0,Go.Value.int Go.IntKind.u32 0,Go.Value.int Go.IntKind.u32 0,Go.Value.int Go.IntKind.u32 0,Go.Value.int Go.IntKind.u32 0,Go.Value.int Go.IntKind.u32 0,Go.Value.int Go.IntKind.u32 0,Go.Value.int Go.IntKind.u32 0,Go.Value.int Go.IntKind.u32 0,Go.Value.int Go.IntKind.u32 0,Go.Value.int Go.IntKind.u32 0,Go.Value.int Go.IntKind.u32 0,Go.Value.int Go.IntKind.u32 0,Go.Value.int Go.IntKind.u32 0]:=by kernel_rfl
end Go.Proofs.Ytigkcigoiinkpaa.Am
end
section
set_option linter.unusedVariables false
set_option linter.unusedSimpArgs false
set_option maxRecDepth 10000
set_option maxHeartbeats 0
namespace Go.Proofs.Ytigkcigoiinkpaa.Am
open Go Go.RowKit Go.Proofs
theorem follows : Try.prog.follows .mixedOrders = true:=by kernel_rfl
noncomputable def E0 : Env:=⟨Try.prog,fun f ds out=>False,Es,fun _=>false⟩
theorem E0_sp : ∀ f ds out,E0.Sp f ds out → Ent E0.P f ∧ Good E0.P f (fun a b=>a = ds ∧ b = out):=fun _ _ _ h=>h.elim
theorem E0_ok : E0.Ok:=⟨E0_sp,Es_ok⟩
def within (v n : Int) : Int:=if n < 1 then 0 else if v.tmod n < 0 then v.tmod n + n else v.tmod n
def Sp_overdubkeep_Within (ds : List D) (out : Out) : Prop:=∃ v n : Int,ds = [.v (.int .i64 v),.v (.int .i64 n)] ∧ n < 9223372036854775808 ∧ out = ⟨.d (.v (.int .i64 (within v n))),[]⟩
theorem good_overdubkeep_Within : Good Try.prog 20 Sp_overdubkeep_Within:=by
  refine good_body (E:=E0) (nt:=17) (rs:=#[.tmp 4]) Try.func20 rfl rfl rfl ?_
  rintro ds out ⟨v,n,rfl,hn,rfl⟩
  refine ⟨by simp,?_⟩
  have hm : ∀ h : ¬ n < 1,v.tmod n < n ∧ - n < v.tmod n:=fun h=>⟨by have:=Int.tmod_lt_of_pos v (show 0 < n by omega);omega,by have:=Int.lt_tmod_of_pos v (show 0 < n by omega);omega⟩
  by_cases h1 : n < 1
  · repeat' first
 | refine AW.seq ?_
 | refine AW.block ?_
 | refine AW.regl E0_ok [0,1,4,5,7,12] ?_
 | refine then_n ?_
 | refine then_r ?_
 | refine then_x ?_
 | refine block_x ?_
 | refine block_o (by decide) ?_
 | refine block_n ?_
 | refine block_r ?_
 | refine AW.skip ?_
 | refine AW.ret ?_
 | refine AW.exit ?_
 | refine AW.cond rfl ?_ ?_
 | refine awl_none rfl ?_
 | refine awl_nil2 ?_
 | (refine fun (hc : _ = _)=>?_;first|cases hc|((try rw [hc]);(try simp only [stH] at hc);(try (exfalso;omega)));(try (show Awl _ _ _ _ _;simp only [stU])))
 | ((first|refine fun (K : V → List _ → _) hK=>?_|refine fun (_ : V → V)=>?_);simp (disch:=omega) only [go_sem,Int.reduceEq,↓reduceIte,reduceCtorEq,Nat.reduceEqDiff,Nat.reduceLT,Nat.reduceLeDiff,Nat.reduceAdd,Nat.reduceSub,Nat.reduceMul,Int.reduceToNat,Int.reduceLE,Int.reduceLT,E0];(try (revert hK;intro hK;(repeat' first|(refine And.intro ?_ ?_)|(intro hc;first|cases hc|((try rw [hc]);(try simp only [stH] at hc);(try (exfalso;omega)))));all_goals first|(refine hK _ _ ?_;clear hK K;simp only [stU])|exact hK|omega)))
    (refine Ends.of (nm []) (by first|exact .inl rfl|exact .inr rfl) ?_;simp (disch:=omega) only [go_sem,Int.reduceEq,↓reduceIte,reduceCtorEq,Nat.reduceEqDiff,Nat.reduceLT,Nat.reduceLeDiff,Nat.reduceAdd,Nat.reduceSub,Nat.reduceMul,Int.reduceToNat,Int.reduceLE,Int.reduceLT,E0,within,h1])
  · have:=hm h1
    repeat' first
 | refine AW.seq ?_
 | refine AW.block ?_
 | refine AW.regl E0_ok [0,1,4,5,7,12] ?_
 | refine then_n ?_
 | refine then_r ?_
 | refine then_x ?_
 | refine block_x ?_
 | refine block_o (by decide) ?_
 | refine block_n ?_
 | refine block_r ?_
 | refine AW.skip ?_
 | refine AW.ret ?_
 | refine AW.exit ?_
 | refine AW.cond rfl ?_ ?_
 | refine awl_none rfl ?_
 | refine awl_nil2 ?_
 | (refine fun (hc : _ = _)=>?_;first|cases hc|((try rw [hc]);(try simp only [stH] at hc);(try (exfalso;omega)));(try (show Awl _ _ _ _ _;simp only [stU])))
 | ((first|refine fun (K : V → List _ → _) hK=>?_|refine fun (_ : V → V)=>?_);simp (disch:=omega) only [go_sem,Int.reduceEq,↓reduceIte,reduceCtorEq,Nat.reduceEqDiff,Nat.reduceLT,Nat.reduceLeDiff,Nat.reduceAdd,Nat.reduceSub,Nat.reduceMul,Int.reduceToNat,Int.reduceLE,Int.reduceLT,E0];(try (revert hK;intro hK;(repeat' first|(refine And.intro ?_ ?_)|(intro hc;first|cases hc|((try rw [hc]);(try simp only [stH] at hc);(try (exfalso;omega)))));all_goals first|(refine hK _ _ ?_;clear hK K;simp only [stU])|exact hK|omega)))
    · (refine Ends.of (nm []) (by first|exact .inl rfl|exact .inr rfl) ?_;simp (disch:=omega) only [go_sem,Int.reduceEq,↓reduceIte,reduceCtorEq,Nat.reduceEqDiff,Nat.reduceLT,Nat.reduceLeDiff,Nat.reduceAdd,Nat.reduceSub,Nat.reduceMul,Int.reduceToNat,Int.reduceLE,Int.reduceLT,E0,within,h1,hc])
    · (refine Ends.of (nm []) (by first|exact .inl rfl|exact .inr rfl) ?_;simp (disch:=omega) only [go_sem,Int.reduceEq,↓reduceIte,reduceCtorEq,Nat.reduceEqDiff,Nat.reduceLT,Nat.reduceLeDiff,Nat.reduceAdd,Nat.reduceSub,Nat.reduceMul,Int.reduceToNat,Int.reduceLE,Int.reduceLT,E0,within,h1,Int.not_lt.mpr,hc])
theorem ent_overdubkeep_Within : Ent Try.prog 20:=⟨_,Try.func20,rfl,by decide⟩
def putB (n : Int) (m : Nat) : List Int:=(List.range m).map fun i=>n / 256 ^ i % 256
def putK (n : Int) (m k : Nat) : List Int:=(List.range m).map fun i=>if i < k then n / 256 ^ i % 256 else 0
theorem putK_len (n : Int) (m k : Nat) : (putK n m k).length = m:=by simp [putK]
theorem putB_len (n : Int) (m : Nat) : (putB n m).length = m:=by simp [putB]
theorem putK_zero (n : Int) (m : Nat) : List.replicate m 0 = putK n m 0:=by
  apply List.ext_getElem?
  intro i
  by_cases h : i < m <;> simp [putK,h]
theorem putK_all (n : Int) (m : Nat) : putK n m m = putB n m:=by
  apply List.ext_getElem?
  intro i
  by_cases h : i < m <;> simp [putK,putB,h]
theorem putK_set (n : Int) (m k : Nat) : (putK n m k).set k (n / 256 ^ k % 256) = putK n m (k + 1):=by
  apply List.ext_getElem?
  intro i
  rw [List.getElem?_set]
  by_cases h : i < m
  · by_cases hk : k = i
    · subst hk;simp [putK,h]
    · have e : (i < k + 1) = (i < k):=by simp only [eq_iff_iff];omega
      simp [putK,h,hk,e]
  · by_cases hk : k = i
    · subst hk;simp [putK,h]
    · simp [putK,h,hk]
theorem wrap_u64_id (x : Int) (h0 : 0 ≤ x) (h1 : x < 18446744073709551616) : IntKind.u64.wrap x = x:=by rw [wrap_u64];omega
theorem shr8 (n : Int) (k : Nat) : n / 256 ^ k / 2 ^ 8 = n / 256 ^ (k + 1):=by
  rw [Int.ediv_ediv_of_nonneg (Int.pow_nonneg (by decide)),Int.pow_succ]
  rfl
def wd (w : Int) : Nat:=(max 0 (min w 8)).toNat
def Sp_field_Put (ds : List D) (out : Out) : Prop:=∃ n w : Int,ds = [.v (.int .i64 n),.v (.int .i64 w)] ∧ n < 9223372036854775808 ∧ out = ⟨.sl 0 1 0 (wd w) true,[(0,.row 5 1 ((putB (max 0 n) (wd w)).map mB))]⟩
theorem good_field_Put : Good Try.prog 49 Sp_field_Put:=by
  refine good_body (E:=E0) (nt:=29) (rs:=#[.tmp 4]) Try.func49 rfl rfl rfl ?_
  rintro ds out ⟨n,w,rfl,hn,rfl⟩
  refine ⟨by simp,?_⟩
  have hwd : ((wd w : Nat) : Int) = max 0 (min w 8):=by unfold wd;omega
  have hw0 : (max 0 (min w 8)).toNat = wd w:=rfl
  repeat' first
 | refine AW.seq ?_
 | refine AW.block ?_
 | refine AW.regl E0_ok [0,1,4,5,6,7,16,17,18] ?_
 | refine then_n ?_
 | refine then_r ?_
 | refine then_x ?_
 | refine block_x ?_
 | refine block_o (by decide) ?_
 | refine block_n ?_
 | refine block_r ?_
 | refine AW.skip ?_
 | refine AW.ret ?_
 | refine AW.exit ?_
 | refine AW.cond rfl ?_ ?_
 | refine awl_none rfl ?_
 | refine awl_nil2 ?_
 | (refine fun (hc : _ = _)=>?_;first|cases hc|((try rw [hc]);(try simp only [stH] at hc);(try (exfalso;omega)));(try (show Awl _ _ _ _ _;simp only [stU])))
 | ((first|refine fun (K : V → List _ → _) hK=>?_|refine fun (_ : V → V)=>?_);simp (disch:=omega) only [go_sem,Int.reduceEq,↓reduceIte,reduceCtorEq,Nat.reduceEqDiff,Nat.reduceLT,Nat.reduceLeDiff,Nat.reduceAdd,Nat.reduceSub,Nat.reduceMul,Int.reduceToNat,Int.reduceLE,Int.reduceLT,E0,wrap_u64_id,hw0];(try (revert hK;intro hK;(repeat' first|(refine And.intro ?_ ?_)|(intro hc;first|cases hc|((try rw [hc]);(try simp only [stH] at hc);(try (exfalso;omega)))));all_goals first|(refine hK _ _ ?_;clear hK K;simp only [stU])|exact hK|omega)))
  refine AW.loop_wk (fun k : Nat=>⟨[(5,.sl 11 1 0 (wd w) true),(6,.d (.v (.int .u64 (max 0 n / 256 ^ k)))),(16,.d (.v (.int .i64 (wd w)))),(17,.d (.v (.int .i64 k)))],[(11,.row 5 1 ((putK (max 0 n) (wd w) k).map mB))],29⟩)
    (fun k=>k ≤ wd w) (fun k=>wd w - k) 0 (by omega) (fun w0 oa a w hs=>Wk.sr (ρ:=nm []) (Wk.of ?_) hs) ?_
  · simp (disch:=omega) only [go_sem,Int.reduceEq,↓reduceIte,reduceCtorEq,Nat.reduceEqDiff,Nat.reduceLT,Nat.reduceLeDiff,Nat.reduceAdd,Nat.reduceSub,Nat.reduceMul,Int.reduceToNat,Int.reduceLE,Int.reduceLT,E0,repl_B,putK_zero,Int.pow_zero,Int.ediv_one]
    first|exact ⟨rfl,by rw [putK_zero]⟩|rw [putK_zero]
  · intro k hk
    have hl:=putK_len (max 0 n) (wd w) k
    repeat' first
 | refine AW.seq ?_
 | refine AW.block ?_
 | refine AW.regl E0_ok [0,1,4,5,6,7,16,17,18] ?_
 | refine then_n ?_
 | refine then_r ?_
 | refine then_x ?_
 | refine block_x ?_
 | refine block_o (by decide) ?_
 | refine block_n ?_
 | refine block_r ?_
 | refine AW.skip ?_
 | refine AW.ret ?_
 | refine AW.exit ?_
 | refine AW.cond rfl ?_ ?_
 | refine awl_none rfl ?_
 | refine awl_nil2 ?_
 | (refine fun (hc : _ = _)=>?_;first|cases hc|((try rw [hc]);(try simp only [stH] at hc);(try (exfalso;omega)));(try (show Awl _ _ _ _ _;simp only [stU])))
 | ((first|refine fun (K : V → List _ → _) hK=>?_|refine fun (_ : V → V)=>?_);simp (disch:=omega) only [go_sem,Int.reduceEq,↓reduceIte,reduceCtorEq,Nat.reduceEqDiff,Nat.reduceLT,Nat.reduceLeDiff,Nat.reduceAdd,Nat.reduceSub,Nat.reduceMul,Int.reduceToNat,Int.reduceLE,Int.reduceLT,E0,wrap_u64_id,wrap_u8,putK_len,putK_set,shr8];(try (revert hK;intro hK;(repeat' first|(refine And.intro ?_ ?_)|(intro hc;first|cases hc|((try rw [hc]);(try simp only [stH] at hc);(try (exfalso;omega)))));all_goals first|(refine hK _ _ ?_;clear hK K;simp only [stU])|exact hK|omega)))
    · refine ⟨k + 1,by omega,by omega,nm [],Wk.of ?_⟩
      simp (disch:=omega) only [go_sem,Int.reduceEq,↓reduceIte,reduceCtorEq,Nat.reduceEqDiff,Nat.reduceLT,Nat.reduceLeDiff,Nat.reduceAdd,Nat.reduceSub,Nat.reduceMul,Int.reduceToNat,Int.reduceLE,Int.reduceLT,E0]
      first|exact ⟨by rw [shr8],rfl⟩|rfl
    · obtain rfl : k = wd w:=by omega
      (refine Ends.of (nm [(0,11)]) (by first|exact .inl rfl|exact .inr rfl) ?_;simp (disch:=omega) only [go_sem,Int.reduceEq,↓reduceIte,reduceCtorEq,Nat.reduceEqDiff,Nat.reduceLT,Nat.reduceLeDiff,Nat.reduceAdd,Nat.reduceSub,Nat.reduceMul,Int.reduceToNat,Int.reduceLE,Int.reduceLT,E0,putK_all])
theorem ent_field_Put : Ent Try.prog 49:=⟨_,Try.func49,rfl,by decide⟩
end Go.Proofs.Ytigkcigoiinkpaa.Am
end
section
namespace Go.Proofs.Ytigkcigoiinkpaa.Am
open Go Go.RowKit
set_option linter.unusedVariables false
set_option linter.unusedSimpArgs false
def leB : Nat → Int → List Int
  | 0,_=>[]
  | w + 1,n=>n % 256 :: leB w (n / 256)
def leV : List Int → Int
  | []=>0
  | b :: l=>b + 256 * leV l
def Byt (l : List Int) : Prop:=∀ x ∈ l,0 ≤ x ∧ x < 256
theorem leB_length : ∀ w n,(leB w n).length = w
  | 0,_=>rfl
  | w + 1,n=>by simp [leB,leB_length w]
theorem leB_byt : ∀ w n,Byt (leB w n)
  | 0,_=>by intro x h;simp [leB] at h
  | w + 1,n=>by
    intro x h
    simp only [leB,List.mem_cons] at h
    rcases h with h|h
    · subst h;omega
    · exact leB_byt w _ x h
theorem byt_nil : Byt []:=fun x h=>by simp at h
theorem byt_cons {b : Int} {l : List Int} (hb : 0 ≤ b ∧ b < 256) (hl : Byt l) : Byt (b :: l):=by
  intro x h
  rcases List.mem_cons.1 h with h|h
  · subst h;exact hb
  · exact hl x h
theorem byt_append {l m : List Int} (h : Byt l) (k : Byt m) : Byt (l ++ m):=by
  intro x hx
  rcases List.mem_append.1 hx with hx|hx
  · exact h x hx
  · exact k x hx
theorem byt_take {l : List Int} (h : Byt l) (n : Nat) : Byt (l.take n):=fun x hx=>h x (List.mem_of_mem_take hx)
theorem byt_drop {l : List Int} (h : Byt l) (n : Nat) : Byt (l.drop n):=fun x hx=>h x (List.mem_of_mem_drop hx)
theorem byt_replicate (n : Nat) : Byt (List.replicate n 0):=fun x hx=>by rw [List.eq_of_mem_replicate hx];omega
theorem p256_pos (w : Nat) : (0 : Int) < 256 ^ w:=Int.pow_pos (by omega)
theorem p256_succ (w : Nat) : (256 : Int) ^ (w + 1) = 256 * 256 ^ w:=by rw [Int.pow_succ,Int.mul_comm]
theorem p256_mono {a b : Nat} (h : a ≤ b) : (256 : Int) ^ a ≤ 256 ^ b:=by
  obtain ⟨d,rfl⟩:=Nat.exists_eq_add_of_le h
  rw [Int.pow_add]
  have h1:=p256_pos a
  have h2:=p256_pos d
  have:=Int.mul_le_mul_of_nonneg_left (show (1 : Int) ≤ 256 ^ d by omega) (Int.le_of_lt h1)
  omega
theorem leV_bound {l : List Int} (h : Byt l) : 0 ≤ leV l ∧ leV l < 256 ^ l.length:=by
  induction l with
  | nil=>simp [leV]
  | cons b l ih =>
    obtain ⟨h1,h2⟩:=ih (fun x hx=>h x (List.mem_cons_of_mem _ hx))
    have hb:=h b (List.mem_cons_self ..)
    simp only [leV,List.length_cons,p256_succ]
    omega
theorem leV_leB : ∀ (w : Nat) (n : Int),0 ≤ n → leV (leB w n) = n % 256 ^ w
  | 0,n,_=>by simp [leB,leV,Int.emod_one]
  | w + 1,n,h=>by
    have ih:=leV_leB w (n / 256) (by omega)
    simp only [leB,leV,ih,p256_succ]
    have hp:=p256_pos w
    have e1 : n / 256 % 256 ^ w = n / 256 - 256 ^ w * (n / (256 * 256 ^ w)):=by
      rw [Int.emod_def,Int.ediv_ediv_of_nonneg (by omega)]
    have e2 : n % (256 * 256 ^ w) = n - 256 * 256 ^ w * (n / (256 * 256 ^ w)):=Int.emod_def ..
    rw [e1,e2,Int.mul_assoc]
    generalize 256 ^ w * (n / (256 * 256 ^ w)) = z
    omega
theorem leV_leB_small {w : Nat} {n : Int} (h : 0 ≤ n) (h1 : n < 256 ^ w) : leV (leB w n) = n:=by
  rw [leV_leB w n h,Int.emod_eq_of_lt h h1]
theorem leB_get : ∀ (w : Nat) (n : Int) (i : Nat),i < w → (leB w n).getD i 0 = n / 256 ^ i % 256
  | 0,_,_,h=>by omega
  | w + 1,n,0,_=>by simp [leB]
  | w + 1,n,i + 1,h=>by
    simp only [leB,List.getD_cons_succ]
    rw [leB_get w (n / 256) i (by omega),p256_succ,Int.ediv_ediv_of_nonneg (by omega)]
theorem leV_drop_succ {l : List Int} {i : Nat} (h : i < l.length) : leV (l.drop i) = l.getD i 0 + 256 * leV (l.drop (i + 1)):=by
  rw [List.drop_eq_getElem_cons h]
  simp [leV,List.getD_eq_getElem?_getD,List.getElem?_eq_getElem h]
def takeL : List Int → List Int → Option (List Int)
  | _,[]=>some []
  | b,w :: ws=>if w < 0 ∨ 7 < w ∨ (b.length : Int) < w then none else (takeL (b.drop w.toNat) ws).map (leV (b.take w.toNat) :: ·)
theorem wraps_i64 (n : Int) (h0 : 0 ≤ n) (h1 : n < 2 ^ 63) : IntKind.i64.wrap n = n :=
  wrap_id n (by omega) (by omega)
theorem or256 {x y : Int} (hx : 0 ≤ x) (hx1 : x < 2 ^ 55) (hy : 0 ≤ y) (hy1 : y < 256) : bits .or .i64 (x * 256) y = x * 256 + y :=
  Go.bits_join .i64 63 (by decide) wraps_i64 8 (x * 256) y (by omega) (by omega) (by omega) hy (by omega) (by omega)
structure Xt where
  f0 : Int
  f1 : Int
  f2 : Int
  f3 : Int
  f4 : Int
def numE (e : Xt) : Prop:=(-9223372036854775808 ≤ e.f0 ∧ e.f0 ≤ 9223372036854775807) ∧ (-9223372036854775808 ≤ e.f1 ∧ e.f1 ≤ 9223372036854775807) ∧ (-9223372036854775808 ≤ e.f2 ∧ e.f2 ≤ 9223372036854775807) ∧ (-9223372036854775808 ≤ e.f3 ∧ e.f3 ≤ 9223372036854775807) ∧ (-9223372036854775808 ≤ e.f4 ∧ e.f4 ≤ 9223372036854775807)
def exB (e : Xt) : List Int:=leB 2 (max 0 e.f0) ++ (leB 2 (max 0 e.f1) ++ (leB 1 (max 0 e.f2) ++ (leB 1 (max 0 e.f3) ++ leB 1 (max 0 e.f4))))
def exsB (l : List Xt) : List Int:=(l.map exB).flatten
theorem exB_length (e : Xt) : (exB e).length = 7:=by simp [exB,leB_length]
theorem exsB_cons (e : Xt) (l : List Xt) : exsB (e :: l) = exB e ++ exsB l:=by simp [exsB]
theorem exsB_length : ∀ l : List Xt,(exsB l).length = 7 * l.length
  | []=>rfl
  | e :: l=>by rw [exsB_cons,List.length_append,exB_length,exsB_length l,List.length_cons];omega
theorem exB_byt (e : Xt) : Byt (exB e):=byt_append (leB_byt _ _) (byt_append (leB_byt _ _) (byt_append (leB_byt _ _) (byt_append (leB_byt _ _) (leB_byt _ _))))
theorem exsB_byt : ∀ l : List Xt,Byt (exsB l)
  | []=>byt_nil
  | e :: l=>by rw [exsB_cons];exact byt_append (exB_byt e) (exsB_byt l)
def takeE : List Int → Nat → List Xt
  | _,0=>[]
  | b,n + 1=>⟨leV (b.take 2),leV ((b.drop 2).take 2),leV ((b.drop 4).take 1),leV ((b.drop 5).take 1),leV ((b.drop 6).take 1)⟩ :: takeE (b.drop 7) n
theorem takeE_length : ∀ (n : Nat) (b : List Int),(takeE b n).length = n
  | 0,_=>rfl
  | n + 1,b=>by simp [takeE,takeE_length n]
theorem takeL_five {b : List Int} (h : 7 ≤ b.length) : takeL b [2,2,1,1,1] = some [leV (b.take 2),leV ((b.drop 2).take 2),leV ((b.drop 4).take 1),leV ((b.drop 5).take 1),leV ((b.drop 6).take 1)]:=by
  simp only [takeL,List.length_drop,show (2 : Int).toNat = 2 from rfl,show (1 : Int).toNat = 1 from rfl]
  rw [if_neg (by omega),if_neg (by omega),if_neg (by omega),if_neg (by omega),if_neg (by omega)]
  simp
end Go.Proofs.Ytigkcigoiinkpaa.Am
end
section
set_option linter.unusedVariables false
set_option linter.unusedSimpArgs false
set_option maxRecDepth 10000
set_option maxHeartbeats 0
namespace Go.Proofs.Ytigkcigoiinkpaa.Am
open Go Go.RowKit Go.Proofs
theorem putB_leB (n : Int) (m : Nat) : putB n m = leB m n:=by
  apply List.ext_getElem
  · simp [putB,leB_length]
  · intro i h1 h2
    have hi : i < m:=by simpa [putB] using h1
    have e:=leB_get m n i hi
    rw [List.getD_eq_getElem?_getD,List.getElem?_eq_getElem h2] at e
    simp only [Option.getD_some] at e
    rw [e]
    simp [putB]
def eD (e : Xt) : D:=.agg [mI e.f0,mI e.f1,mI e.f2,mI e.f3,mI e.f4]
theorem eD_cells (e : Xt) : (eD e).cells = [mI e.f0,mI e.f1,mI e.f2,mI e.f3,mI e.f4]:=rfl
theorem mI_eq (n : Int) : mI n = .v (.int .i64 n):=rfl
def x0 : Xt:=⟨0,0,0,0,0⟩
theorem eD_inj (l m : List Xt) : (l.map eD = m.map eD) = (l = m):=list_map_inj eD (fun a b h=>by cases a;cases b;simp [eD,mI] at h;simp [h]) l m
theorem Y_inj (l m : List (List Int)) : (l.map bys = m.map bys) = (l = m):=list_map_inj bys (fun a b h=>by rwa [bys_inj] at h) l m
theorem nth_E (l : List Xt) (i : Nat) (h : i < l.length) : nth (l.map eD) i = eD (l.getD i x0):=nth_map eD l i x0 h
theorem nth_Y (l : List (List Int)) (i : Nat) (h : i < l.length) : nth (l.map bys) i = bys (l.getD i []):=nth_map bys l i [] h
theorem all_Y (l : List (List Int)) : (∀ d ∈ l.map bys,d.cells.length = 1) = True:=by simp [bys_cells]
theorem all_E (l : List Xt) : (∀ d ∈ l.map eD,d.cells.length = 5) = True:=by simp [eD_cells]
theorem sc_E (l : List Xt) : (∀ d ∈ l.map eD,Scal' d) = True:=by
  simp only [eq_iff_iff,iff_true];intro d hd;obtain ⟨e,_,rfl⟩:=List.mem_map.1 hd
  exact .agg _ fun x hx=>by
    simp only [mI,List.mem_cons,List.not_mem_nil,or_false] at hx
    rcases hx with rfl|rfl|rfl|rfl|rfl <;> exact .v _
theorem bys_eq (l : List Int) : bys l = .list (l.map mB):=rfl
def flatK (l : List (List Int)) (k : Nat) : List Int:=(l.take k).flatten
theorem flatK_len (l : List (List Int)) (k : Nat) : (flatK l k).length ≤ l.flatten.length:=by
  have : l.flatten = flatK l k ++ (l.drop k).flatten:=by rw [flatK,← List.flatten_append,List.take_append_drop]
  rw [this,List.length_append];omega
theorem flatK_succ (l : List (List Int)) (k : Nat) (h : k < l.length) : flatK l k ++ l.getD k [] = flatK l (k + 1):=by
  rw [flatK,flatK,List.take_succ_eq_append_getElem h,List.flatten_append]
  simp [List.getD_eq_getElem?_getD,h]
theorem flatK_all (l : List (List Int)) (k : Nat) (h : l.length ≤ k) : flatK l k = l.flatten:=by rw [flatK,List.take_of_length_le h]
def Sp_field_Join (ds : List D) (out : Out) : Prop:=∃ l : List (List Int),ds = [.list (l.map bys)] ∧ l.length < 1000000000 ∧ l.flatten.length < 100000000000000 ∧ out = ⟨.sl 0 1 0 l.flatten.length true,[(0,.row 5 1 (l.flatten.map mB))]⟩
theorem good_field_Join : Good Try.prog 48 Sp_field_Join:=by
  refine good_body (E:=E0) (nt:=17) (rs:=#[.tmp 2]) Try.func48 rfl rfl rfl ?_
  rintro ds out ⟨l,rfl,hl,hf,rfl⟩
  refine ⟨by simp,?_⟩
  repeat' first
 | refine AW.seq ?_
 | refine AW.block ?_
 | refine AW.regl E0_ok [0,2,3,5,6,7,8,9] ?_
 | refine then_n ?_
 | refine then_r ?_
 | refine then_x ?_
 | refine block_x ?_
 | refine block_o (by decide) ?_
 | refine block_n ?_
 | refine block_r ?_
 | refine AW.skip ?_
 | refine AW.ret ?_
 | refine AW.exit ?_
 | refine AW.cond rfl ?_ ?_
 | refine awl_none rfl ?_
 | refine awl_nil2 ?_
 | (refine fun (hc : _ = _)=>?_;first|cases hc|((try rw [hc]);(try simp only [stH] at hc);(try (exfalso;omega)));(try (show Awl _ _ _ _ _;simp only [stU])))
 | ((first|refine fun (K : V → List _ → _) hK=>?_|refine fun (_ : V → V)=>?_);simp (disch:=omega) only [go_sem,Int.reduceEq,↓reduceIte,reduceCtorEq,Nat.reduceEqDiff,Nat.reduceLT,Nat.reduceLeDiff,Nat.reduceAdd,Nat.reduceSub,Nat.reduceMul,Int.reduceToNat,Int.reduceLE,Int.reduceLT,E0];(try (revert hK;intro hK;(repeat' first|(refine And.intro ?_ ?_)|(intro hc;first|cases hc|((try rw [hc]);(try simp only [stH] at hc);(try (exfalso;omega)))));all_goals first|(refine hK _ _ ?_;clear hK K;simp only [stU])|exact hK|omega)))
  refine AW.loop_wk (fun k : Nat=>⟨[(3,.sl 100 1 0 (flatK l k).length true),(6,.d (.list (l.map bys))),(7,.d (.v (.int .i64 l.length))),(8,.d (.v (.int .i64 k)))],[(100,.row 5 1 ((flatK l k).map mB))],17⟩)
    (fun k=>k ≤ l.length) (fun k=>l.length - k) 0 (by omega) (fun w0 oa a w hs=>Wk.sr (ρ:=nm []) (Wk.of ?_) (nil_sr 3 100 5 1 rfl (by simp) rfl (by decide) hs)) ?_
  · simp (disch:=omega) only [go_sem,Int.reduceEq,↓reduceIte,reduceCtorEq,Nat.reduceEqDiff,Nat.reduceLT,Nat.reduceLeDiff,Nat.reduceAdd,Nat.reduceSub,Nat.reduceMul,Int.reduceToNat,Int.reduceLE,Int.reduceLT,E0]
    simp [flatK]
  · intro k hk
    have hl1:=flatK_len l k
    have hl2:=flatK_len l (k + 1)
    by_cases hk1 : k < l.length
    · have e:=flatK_succ l k hk1
      have e2 : (flatK l k).length + (l.getD k []).length = (flatK l (k + 1)).length:=by rw [← e,List.length_append]
      repeat' first
 | refine AW.seq ?_
 | refine AW.block ?_
 | refine AW.regl E0_ok [0,2,3,5,6,7,8,9] ?_
 | refine then_n ?_
 | refine then_r ?_
 | refine then_x ?_
 | refine block_x ?_
 | refine block_o (by decide) ?_
 | refine block_n ?_
 | refine block_r ?_
 | refine AW.skip ?_
 | refine AW.ret ?_
 | refine AW.exit ?_
 | refine AW.cond rfl ?_ ?_
 | refine awl_none rfl ?_
 | refine awl_nil2 ?_
 | (refine fun (hc : _ = _)=>?_;first|cases hc|((try rw [hc]);(try simp only [stH] at hc);(try (exfalso;omega)));(try (show Awl _ _ _ _ _;simp only [stU])))
 | ((first|refine fun (K : V → List _ → _) hK=>?_|refine fun (_ : V → V)=>?_);simp (disch:=omega) only [go_sem,Int.reduceEq,↓reduceIte,reduceCtorEq,Nat.reduceEqDiff,Nat.reduceLT,Nat.reduceLeDiff,Nat.reduceAdd,Nat.reduceSub,Nat.reduceMul,Int.reduceToNat,Int.reduceLE,Int.reduceLT,E0,nth_Y,all_Y,bys_eq,hk1];(try (revert hK;intro hK;(repeat' first|(refine And.intro ?_ ?_)|(intro hc;first|cases hc|((try rw [hc]);(try simp only [stH] at hc);(try (exfalso;omega)))));all_goals first|(refine hK _ _ ?_;clear hK K;simp only [stU])|exact hK|omega)))
      · refine ⟨k + 1,by omega,by omega,nm [(100,14)],Wk.of ?_⟩
        simp (disch:=omega) only [go_sem,Int.reduceEq,↓reduceIte,reduceCtorEq,Nat.reduceEqDiff,Nat.reduceLT,Nat.reduceLeDiff,Nat.reduceAdd,Nat.reduceSub,Nat.reduceMul,Int.reduceToNat,Int.reduceLE,Int.reduceLT,E0,e,e2]
        exact ⟨rfl,by rw [← List.map_append,e]⟩
    · obtain rfl : k = l.length:=by omega
      repeat' first
 | refine AW.seq ?_
 | refine AW.block ?_
 | refine AW.regl E0_ok [0,2,3,5,6,7,8,9] ?_
 | refine then_n ?_
 | refine then_r ?_
 | refine then_x ?_
 | refine block_x ?_
 | refine block_o (by decide) ?_
 | refine block_n ?_
 | refine block_r ?_
 | refine AW.skip ?_
 | refine AW.ret ?_
 | refine AW.exit ?_
 | refine AW.cond rfl ?_ ?_
 | refine awl_none rfl ?_
 | refine awl_nil2 ?_
 | (refine fun (hc : _ = _)=>?_;first|cases hc|((try rw [hc]);(try simp only [stH] at hc);(try (exfalso;omega)));(try (show Awl _ _ _ _ _;simp only [stU])))
 | ((first|refine fun (K : V → List _ → _) hK=>?_|refine fun (_ : V → V)=>?_);simp (disch:=omega) only [go_sem,Int.reduceEq,↓reduceIte,reduceCtorEq,Nat.reduceEqDiff,Nat.reduceLT,Nat.reduceLeDiff,Nat.reduceAdd,Nat.reduceSub,Nat.reduceMul,Int.reduceToNat,Int.reduceLE,Int.reduceLT,E0,nth_Y,all_Y,bys_eq];(try (revert hK;intro hK;(repeat' first|(refine And.intro ?_ ?_)|(intro hc;first|cases hc|((try rw [hc]);(try simp only [stH] at hc);(try (exfalso;omega)))));all_goals first|(refine hK _ _ ?_;clear hK K;simp only [stU])|exact hK|omega)))
      (refine Ends.of (nm [(0,100)]) (by first|exact .inl rfl|exact .inr rfl) ?_;simp (disch:=omega) only [go_sem,Int.reduceEq,↓reduceIte,reduceCtorEq,Nat.reduceEqDiff,Nat.reduceLT,Nat.reduceLeDiff,Nat.reduceAdd,Nat.reduceSub,Nat.reduceMul,Int.reduceToNat,Int.reduceLE,Int.reduceLT,E0,flatK_all,Nat.le_refl])
theorem ent_field_Join : Ent Try.prog 48:=⟨_,Try.func48,rfl,by decide⟩
end Go.Proofs.Ytigkcigoiinkpaa.Am
end
