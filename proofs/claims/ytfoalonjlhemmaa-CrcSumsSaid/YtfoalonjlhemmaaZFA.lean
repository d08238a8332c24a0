import Derived.Test.YtfoalonjlhemmaaProg
import Derived.KernelRfl
import Derived.RowKit
import Derived.Laws.BitsLemmas
import Derived.Test.YtfoalonjlhemmaaZZA
section
set_option linter.unusedVariables false
namespace Go.Proofs.Ytfoalonjlhemmaa.Am
open Go Go.RowKit Go.Proofs
def Es (t : TypeId) (n : Nat) : Prop := eqSN Try.prog t = some n
theorem Es_ok : ∀ t n, Es t n → EqS Try.prog t n := fun _ _ h => eqSN_ok h
@[go_sem] theorem x_ar22 : ar Try.prog 22 = none := by kernel_rfl
@[go_sem] theorem x_ar37 : ar Try.prog 37 = none := by kernel_rfl
@[go_sem] theorem x_ar51 : ar Try.prog 51 = some (256, 1) := by kernel_rfl
@[go_sem] theorem x_bt2 : isBoolT Try.prog 2 = false := by kernel_rfl
@[go_sem] theorem x_bt3 : isBoolT Try.prog 3 = false := by kernel_rfl
@[go_sem] theorem x_bt4 : isBoolT Try.prog 4 = true := by kernel_rfl
@[go_sem] theorem x_bt5 : isBoolT Try.prog 5 = false := by kernel_rfl
@[go_sem] theorem x_bt21 : isBoolT Try.prog 21 = false := by kernel_rfl
@[go_sem] theorem x_bt24 : isBoolT Try.prog 24 = false := by kernel_rfl
@[go_sem] theorem x_bt26 : isBoolT Try.prog 26 = false := by kernel_rfl
@[go_sem] theorem x_el3 : el Try.prog 3 = none := by kernel_rfl
@[go_sem] theorem x_el5 : el Try.prog 5 = none := by kernel_rfl
@[go_sem] theorem x_el22 : el Try.prog 22 = some (5, 1, 1) := by kernel_rfl
@[go_sem] theorem x_el26 : el Try.prog 26 = none := by kernel_rfl
@[go_sem] theorem x_el37 : el Try.prog 37 = some (22, 1, 24) := by kernel_rfl
@[go_sem] theorem x_el51 : el Try.prog 51 = none := by kernel_rfl
@[go_sem] theorem x_el64 : el Try.prog 64 = none := by kernel_rfl
@[go_sem] theorem x_fo44_1 : fo Try.prog 44 1 = some (0, 26) := by kernel_rfl
@[go_sem] theorem x_fo46_0 : fo Try.prog 46 0 = some (0, 21) := by kernel_rfl
@[go_sem] theorem x_fo46_1 : fo Try.prog 46 1 = some (1, 26) := by kernel_rfl
@[go_sem] theorem x_fo48_1 : fo Try.prog 48 1 = some (0, 46) := by kernel_rfl
@[go_sem] theorem x_fo50_1 : fo Try.prog 50 1 = some (0, 44) := by kernel_rfl
@[go_sem] theorem x_fo50_2 : fo Try.prog 50 2 = some (1, 48) := by kernel_rfl
@[go_sem] theorem x_fo53_0 : fo Try.prog 53 0 = some (0, 50) := by kernel_rfl
@[go_sem] theorem x_fo53_1 : fo Try.prog 53 1 = some (3, 4) := by kernel_rfl
@[go_sem] theorem x_fo53_2 : fo Try.prog 53 2 = some (4, 51) := by kernel_rfl
@[go_sem] theorem x_ik3 : ik Try.prog 3 = some Go.IntKind.i64 := by kernel_rfl
@[go_sem] theorem x_ik5 : ik Try.prog 5 = some Go.IntKind.u8 := by kernel_rfl
@[go_sem] theorem x_ik22 : ik Try.prog 22 = none := by kernel_rfl
@[go_sem] theorem x_ik26 : ik Try.prog 26 = some Go.IntKind.u32 := by kernel_rfl
@[go_sem] theorem x_ik29 : ik Try.prog 29 = some Go.IntKind.u64 := by kernel_rfl
@[go_sem] theorem x_ik64 : ik Try.prog 64 = none := by kernel_rfl
@[go_sem] theorem x_ik68 : ik Try.prog 68 = none := by kernel_rfl
@[go_sem] theorem x_pl53 : pl Try.prog 53 = some [(0, 3), (3, 1), (4, 256)] := by kernel_rfl
@[go_sem] theorem x_pt2 : isPtrT Try.prog 2 = false := by kernel_rfl
@[go_sem] theorem x_pt3 : isPtrT Try.prog 3 = false := by kernel_rfl
@[go_sem] theorem x_pt4 : isPtrT Try.prog 4 = false := by kernel_rfl
@[go_sem] theorem x_pt5 : isPtrT Try.prog 5 = false := by kernel_rfl
@[go_sem] theorem x_pt21 : isPtrT Try.prog 21 = false := by kernel_rfl
@[go_sem] theorem x_pt24 : isPtrT Try.prog 24 = true := by kernel_rfl
@[go_sem] theorem x_pt26 : isPtrT Try.prog 26 = false := by kernel_rfl
@[go_sem] theorem x_slt22 : slT Try.prog 22 = true := by kernel_rfl
@[go_sem] theorem x_slt37 : slT Try.prog 37 = true := by kernel_rfl
@[go_sem] theorem x_st5 : strT Try.prog 5 = false := by kernel_rfl
@[go_sem] theorem x_st22 : strT Try.prog 22 = false := by kernel_rfl
@[go_sem] theorem x_st26 : strT Try.prog 26 = false := by kernel_rfl
@[go_sem] theorem x_st29 : strT Try.prog 29 = false := by kernel_rfl
@[go_sem] theorem x_st68 : strT Try.prog 68 = false := by kernel_rfl
@[go_sem] theorem x_tk4 : tk Try.prog 4 = some (false, 1) := by kernel_rfl
@[go_sem] theorem x_tk5 : tk Try.prog 5 = some (false, 1) := by kernel_rfl
@[go_sem] theorem x_tk21 : tk Try.prog 21 = some (false, 1) := by kernel_rfl
@[go_sem] theorem x_tk22 : tk Try.prog 22 = some (false, 1) := by kernel_rfl
@[go_sem] theorem x_tk26 : tk Try.prog 26 = some (false, 1) := by kernel_rfl
@[go_sem] theorem x_tk44 : tk Try.prog 44 = some (true, 1) := by kernel_rfl
@[go_sem] theorem x_tk46 : tk Try.prog 46 = some (true, 2) := by kernel_rfl
@[go_sem] theorem x_tk48 : tk Try.prog 48 = some (true, 2) := by kernel_rfl
@[go_sem] theorem x_tk50 : tk Try.prog 50 = some (true, 3) := by kernel_rfl
@[go_sem] theorem x_tk51 : tk Try.prog 51 = some (true, 256) := by kernel_rfl
@[go_sem] theorem x_tk53 : tk Try.prog 53 = some (true, 260) := by kernel_rfl
@[go_sem] theorem x_un3 : (Try.prog.underlying 3).isSome = true := by kernel_rfl
@[go_sem] theorem x_un5 : (Try.prog.underlying 5).isSome = true := by kernel_rfl
@[go_sem] theorem x_un22 : (Try.prog.underlying 22).isSome = true := by kernel_rfl
@[go_sem] theorem x_un26 : (Try.prog.underlying 26).isSome = true := by kernel_rfl
@[go_sem] theorem x_un64 : (Try.prog.underlying 64).isSome = true := by kernel_rfl
@[go_sem] theorem x_zc5 : zc Try.prog 5 = some [Go.Value.int Go.IntKind.u8 0] := by kernel_rfl
@[go_sem] theorem x_zc53 : zc Try.prog 53 = some [Go.Value.int Go.IntKind.u32 0, Go.Value.int Go.IntKind.i32 0, Go.Value.int Go.IntKind.u32 0, Go.Value.bool false, Go.Value.int Go.IntKind.u32 0, Go.Value.int Go.IntKind.u32 0, Go.Value.int Go.IntKind.u32 0, Go.Value.int Go.IntKind.u32 0, Go.Value.int Go.IntKind.u32 0, Go.Value.int Go.IntKind.u32 0, Go.Value.int Go.IntKind.u32 0, Go.Value.int Go.IntKind.u32 0, Go.Value.int Go.IntKind.u32 0, Go.Value.int Go.IntKind.u32 0, Go.Value.int Go.IntKind.u32 0, Go.Value.int Go.IntKind.u32 0, Go.Value.int Go.IntKind.u32 0, Go.Value.int Go.IntKind.u32 0, Go.Value.int Go.IntKind.u32 0, Go.Value.int Go.IntKind.u32 0, Go.Value.int Go.IntKind.u32 0, Go.Value.int Go.IntKind.u32 0, Go.Value.int Go.IntKind.u32 0, Go.Value.int Go.IntKind.u32 0, Go.Value.int Go.IntKind.u32 0, Go.Value.int Go.IntKind.u32 0, Go.Value.int Go.IntKind.u32 0, Go.Value.int Go.IntKind.u32 0, Go.Value.int Go.IntKind.u32 0, Go.Value.int Go.IntKind.u32 0, Go.Value.int Go.IntKind.u32 0, Go.Value.int Go.IntKind.u32 0, Go.Value.int Go.IntKind.u32 0, Go.Value.int Go.IntKind.u32 0, Go.Value.int Go.IntKind.u32 0, Go.Value.int Go.IntKind.u32 0, Go.Value.int Go.IntKind.u32 0, Go.Value.int Go.IntKind.u32 0, Go.Value.int Go.IntKind.u32 0, Go.Value.int Go.IntKind.u32 0, Go.Value.int Go.IntKind.u32 0, Go.Value.int Go.IntKind.u32 0, Go.Value.int Go.IntKind.u32 0, Go.Value.int Go.IntKind.u32 0, Go.Value.int Go.IntKind.u32 0, Go.Value.int Go.IntKind.u32 0, Go.Value.int Go.IntKind.u32 0, Go.Value.int Go.IntKind.u32 0, Go.Value.int Go.IntKind.u32 0, Go.Value.int Go.IntKind.u32 0, Go.Value.int Go.IntKind.u32 0, Go.Value.int Go.IntKind.u32 0, Go.Value.int Go.IntKind.u32 0, Go.Value.int Go.IntKind.u32 0, Go.Value.int Go.IntKind.u32 0, Go.Value.int Go.IntKind.u32 0, Go.Value.int Go.IntKind.u32 0, Go.Value.int Go.IntKind.u32 0, Go.Value.int Go.IntKind.u32 0, Go.Value.int Go.IntKind.u32 0, Go.Value.int Go.IntKind.u32 0, Go.Value.int Go.IntKind.u32 0, Go.Value.int Go.IntKind.u32 0, Go.Value.int Go.IntKind.u32 0, Go.Value.int Go.IntKind.u32 0, Go.Value.int Go.IntKind.u32 0, Go.Value.int Go.IntKind.u32 0, Go.Value.int Go.IntKind.u32 0, Go.Value.int Go.IntKind.u32 0, Go.Value.int Go.IntKind.u32 0, Go.Value.int Go.IntKind.u32 0, Go.Value.int Go.IntKind.u32 0, Go.Value.int Go.IntKind.u32 0, Go.Value.int Go.IntKind.u32 0, Go.Value.int Go.IntKind.u32 0, Go.Value.int Go.IntKind.u32 0, Go.Value.int Go.IntKind.u32 0, Go.Value.int Go.IntKind.u32 0, Go.Value.int Go.IntKind.u32 0, Go.Value.int Go.IntKind.u32 0, Go.Value.int Go.IntKind.u32 0, Go.Value.int Go.IntKind.u32 0, Go.Value.int Go.IntKind.u32 0, Go.Value.int Go.IntKind.u32 0, Go.Value.int Go.IntKind.u32 0, Go.Value.int Go.IntKind.u32 0, Go.Value.int Go.IntKind.u32 0, Go.Value.int Go.IntKind.u32 0, Go.Value.int Go.IntKind.u32 0, Go.Value.int Go.IntKind.u32 0, Go.Value.int Go.IntKind.u32 0, Go.Value.int Go.IntKind.u32 0, Go.Value.int Go.IntKind.u32 0, Go.Value.int Go.IntKind.u32 0, Go.Value.int Go.IntKind.u32 0, Go.Value.int Go.IntKind.u32 0, Go.Value.int Go.IntKind.u32 0, Go.Value.int Go.IntKind.u32 0, Go.Value.int Go.IntKind.u32 0, Go.Value.int Go.IntKind.u32 0, Go.Value.int Go.IntKind.u32 0, Go.Value.int Go.IntKind.u32 0, Go.Value.int Go.IntKind.u32 0, Go.Value.int Go.IntKind.u32 0, Go.Value.int Go.IntKind.u32 0, Go.Value.int Go.IntKind.u32 0, Go.Value.int Go.IntKind.u32 0, Go.Value.int Go.IntKind.u32 0, Go.Value.int Go.IntKind.u32 0, Go.Value.int Go.IntKind.u32 0, Go.Value.int Go.IntKind.u32 0, Go.Value.int Go.IntKind.u32 0, Go.Value.int Go.IntKind.u32 0, Go.Value.int Go.IntKind.u32 0, Go.Value.int Go.IntKind.u32 0, Go.Value.int Go.IntKind.u32 0, Go.Value.int Go.IntKind.u32 0, Go.Value.int Go.IntKind.u32 0, Go.Value.int Go.IntKind.u32 0, Go.Value.int Go.IntKind.u32 0, Go.Value.int Go.IntKind.u32 0, Go.Value.int Go.IntKind.u32 0, Go.Value.int Go.IntKind.u32 0, Go.Value.int Go.IntKind.u32 0, Go.Value.int Go.IntKind.u32 0, Go.Value.int Go.IntKind.u32 0, Go.Value.int Go.IntKind.u32 0, Go.Value.int Go.IntKind.u32 0, Go.Value.int Go.IntKind.u32 0, Go.Value.int Go.IntKind.u32 0, Go.Value.int Go.IntKind.u32 0, Go.Value.int Go.IntKind.u32 0, Go.Value.int Go.IntKind.u32 0, Go.Value.int Go.IntKind.u32 0, Go.Value.int Go.IntKind.u32 0, Go.Value.int Go.IntKind.u32 0, Go.Value.int Go.IntKind.u32 0, Go.Value.int Go.IntKind.u32 0, Go.Value.int Go.IntKind.u32 0, Go.Value.int Go.IntKind.u32 0, Go.Value.int Go.IntKind.u32 0, Go.Value.int Go.IntKind.u32 0, Go.Value.int Go.IntKind.u32 0, Go.Value.int Go.IntKind.u32 0, Go.Value.int Go.IntKind.u32 0, Go.Value.int Go.IntKind.u32 0, Go.Value.int Go.IntKind.u32 0, Go.Value.int Go.IntKind.u32 0, Go.Value.int Go.IntKind.u32 0, Go.Value.int Go.IntKind.u32 0, Go.Value.int Go.IntKind.u32 0, Go.Value.int Go.IntKind.u32 0, Go.Value.int Go.IntKind.u32 0, Go.Value.int Go.IntKind.u32 0, Go.Value.int Go.IntKind.u32 0, Go.Value.int Go.IntKind.u32 0, Go.Value.int Go.IntKind.u32 0, Go.Value.int Go.IntKind.u32 0, Go.Value.int Go.IntKind.u32 0, Go.Value.int Go.IntKind.u32 0, Go.Value.int Go.IntKind.u32 0, Go.Value.int Go.IntKind.u32 0, Go.Value.int Go.IntKind.u32 0, Go.Value.int Go.IntKind.u32 0, Go.Value.int Go.IntKind.u32 0, Go.Value.int Go.IntKind.u32 0, Go.Value.int Go.IntKind.u32 0, Go.Value.int Go.IntKind.u32 0, Go.Value.int Go.IntKind.u32 0, Go.Value.int Go.IntKind.u32 0, Go.Value.int Go.IntKind.u32 0, Go.Value.int Go.IntKind.u32 0, Go.Value.int Go.IntKind.u32 0, Go.Value.int Go.IntKind.u32 0, Go.Value.int Go.IntKind.u32 0, Go.Value.int Go.IntKind.u32 0, Go.Value.int Go.IntKind.u32 0, Go.Value.int Go.IntKind.u32 0, Go.Value.int Go.IntKind.u32 0, Go.Value.int Go.IntKind.u32 0, Go.Value.int Go.IntKind.u32 0, Go.Value.int Go.IntKind.u32 0, Go.Value.int Go.IntKind.u32 0, Go.Value.int Go.IntKind.u32 0, Go.Value.int Go.IntKind.u32 0, Go.Value.int Go.IntKind.u32 0, Go.Value.int Go.IntKind.u32 0, Go.Value.int Go.IntKind.u32 0, Go.Value.int Go.IntKind.u32 0, Go.Value.int Go.IntKind.u32 0, Go.Value.int Go.IntKind.u32 0, Go.Value.int Go.IntKind.u32 0, Go.Value.int Go.IntKind.u32 0, Go.Value.int Go.IntKind.u32 0, Go.Value.int Go.IntKind.u32 0, Go.Value.int Go.IntKind.u32 0, Go.Value.int Go.IntKind.u32 0, Go.Value.int Go.IntKind.u32 0, Go.Value.int Go.IntKind.u32 0, Go.Value.int Go.IntKind.u32 0, Go.Value.int Go.IntKind.u32 0, Go.Value.int Go.IntKind.u32 0, Go.Value.int Go.IntKind.u32 0, Go.Value.int Go.IntKind.u32 0, Go.Value.int Go.IntKind.u32 0, Go.Value.int Go.IntKind.u32 0, Go.Value.int Go.IntKind.u32 0, Go.Value.int Go.IntKind.u32 0, Go.Value.int Go.IntKind.u32 0, Go.Value.int Go.IntKind.u32 0, Go.Value.int Go.IntKind.u32 0, Go.Value.int Go.IntKind.u32 0, Go.Value.int Go.IntKind.u32 0, Go.Value.int Go.IntKind.u32 0, Go.Value.int Go.IntKind.u32 0, Go.Value.int Go.IntKind.u32 0, Go.Value.int Go.IntKind.u32 0, Go.Value.int Go.IntKind.u32 0, Go.Value.int Go.IntKind.u32 0, Go.Value.int Go.IntKind.u32 0, Go.Value.int Go.IntKind.u32 0, Go.Value.int Go.IntKind.u32 0, Go.Value.int Go.IntKind.u32 0, Go.Value.int Go.IntKind.u32 0, Go.Value.int Go.IntKind.u32 0, Go.Value.int Go.IntKind.u32 0, Go.Value.int Go.IntKind.u32 0, Go.Value.int Go.IntKind.u32 0, Go.Value.int Go.IntKind.u32 0, Go.Value.int Go.IntKind.u32 0, Go.Value.int Go.IntKind.u32 0, Go.Value.int Go.IntKind.u32 0, Go.Value.int Go.IntKind.u32 0, Go.Value.int Go.IntKind.u32 0, Go.Value.int Go.IntKind.u32 0, Go.Value.int Go.IntKind.u32 0, Go.Value.int Go.IntKind.u32 0, Go.Value.int Go.IntKind.u32 0, Go.Value.int Go.IntKind.u32 0, Go.Value.int Go.IntKind.u32 0, Go.Value.int Go.IntKind.u32 0, Go.Value.int Go.IntKind.u32 0, Go.Value.int Go.IntKind.u32 0, Go.Value.int Go.IntKind.u32 0, Go.Value.int Go.IntKind.u32 0, Go.Value.int Go.IntKind.u32 0, Go.Value.int Go.IntKind.u32 0, Go.Value.int Go.IntKind.u32 0, Go.Value.int Go.IntKind.u32 0, Go.Value.int Go.IntKind.u32 0, Go.Value.int Go.IntKind.u32 0, Go.Value.int Go.IntKind.u32 0, Go.Value.int Go.IntKind.u32 0, Go.Value.int Go.IntKind.u32 0, Go.Value.int Go.IntKind.u32 0, Go.Value.int Go.IntKind.u32 0, Go.Value.int Go.IntKind.u32 0, Go.Value.int Go.IntKind.u32 0, Go.Value.int Go.IntKind.u32 0, Go.Value.int Go.IntKind.u32 0] := by kernel_rfl
end Go.Proofs.Ytfoalonjlhemmaa.Am
end
section
set_option linter.unusedVariables false
set_option linter.unusedSimpArgs false
set_option maxRecDepth 10000
set_option maxHeartbeats 0
namespace Go.Proofs.Ytfoalonjlhemmaa.Am
open Go Go.RowKit Go.Proofs
theorem follows : Try.prog.follows .mixedOrders = true := by kernel_rfl
noncomputable def E0 : Env := ⟨Try.prog, fun f ds out => False, Es, fun _ => false, fun f vs lent out => False, fun f => none, fun f => false, false⟩
theorem E0_sp : ∀ f ds out, E0.Sp f ds out → Ent E0.P f ∧ Good E0.P f (fun a b => a = ds ∧ b = out) := fun _ _ _ h => h.elim
theorem E0_sm : ∀ f vs lent out, E0.Sm f vs lent out → Ent E0.P f ∧ GoodM E0.P f (fun a l b => a = vs ∧ l = lent ∧ b = out) := fun _ _ _ _ h => h.elim
theorem E0_ok : E0.Ok := ⟨E0_sp, Es_ok, E0_sm⟩
end Go.Proofs.Ytfoalonjlhemmaa.Am
end
section
namespace Go.Proofs.Ytfoalonjlhemmaa.Am
open Go Go.RowKit
set_option linter.unusedVariables false
set_option linter.unusedSimpArgs false
def Byt (l : List Int) : Prop := ∀ x ∈ l, 0 ≤ x ∧ x < 256
theorem byt_nil : Byt [] := fun x h => by simp at h
theorem byt_cons {b : Int} {l : List Int} (hb : 0 ≤ b ∧ b < 256) (hl : Byt l) : Byt (b :: l) := by
  intro x h
  rcases List.mem_cons.1 h with h | h
  · subst h; exact hb
  · exact hl x h
theorem byt_take {l : List Int} (h : Byt l) (n : Nat) : Byt (l.take n) := fun x hx => h x (List.mem_of_mem_take hx)
structure Xt where
  f0 : Int
  f1 : Int
  f2 : Int
  f3 : Int
  f4 : Int
end Go.Proofs.Ytfoalonjlhemmaa.Am
end
section
set_option linter.unusedVariables false
set_option linter.unusedSimpArgs false
set_option maxRecDepth 10000
set_option maxHeartbeats 0
namespace Go.Proofs.Ytfoalonjlhemmaa.Am
open Go Go.RowKit Go.Proofs
def x0 : Xt := ⟨0, 0, 0, 0, 0⟩
end Go.Proofs.Ytfoalonjlhemmaa.Am
end
