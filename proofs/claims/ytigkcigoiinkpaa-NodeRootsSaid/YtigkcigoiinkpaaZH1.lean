import Derived.Test.YtigkcigoiinkpaaZF1
set_option linter.unusedVariables false
set_option linter.unusedSimpArgs false
set_option maxRecDepth 10000
set_option maxHeartbeats 0
namespace Go.Proofs.Ytigkcigoiinkpaa.Am
open Go Go.RowKit Go.Proofs
theorem take_step {α : Type} {l m : List α} {k : Nat} (d : α) (h : l.take k = m.take k) (hl : k < l.length) (hm : k < m.length) (he : l.getD k d = m.getD k d) : l.take (k + 1) = m.take (k + 1) := by
  rw [List.take_succ_eq_append_getElem hl, List.take_succ_eq_append_getElem hm, h]
  simp only [List.getD_eq_getElem?_getD, List.getElem?_eq_getElem hl, List.getElem?_eq_getElem hm, Option.getD_some] at he
  rw [he]
theorem take_all {α : Type} {l m : List α} (h : l.take l.length = m.take l.length) (he : l.length = m.length) : l = m := by
  rw [List.take_length] at h
  rw [h, he, List.take_length]
theorem ne_of_getD {α : Type} {l m : List α} {k : Nat} {d : α} (h : ¬ l.getD k d = m.getD k d) : ¬ l = m := fun e => h (by rw [e])
theorem ne_of_length {α : Type} {l m : List α} (h : ¬ l.length = m.length) : ¬ l = m := fun e => h (by rw [e])
instance : DecidableEq Xt := fun a b => decidable_of_iff (a.f0 = b.f0 ∧ a.f1 = b.f1 ∧ a.f2 = b.f2 ∧ a.f3 = b.f3 ∧ a.f4 = b.f4) (by cases a; cases b; simp)
def Sp_overdubkeep_Same_api_Extent (ds : List D) (out : Out) : Prop := ∃ l m : List Xt, ds = [.list (l.map eD), .list (m.map eD)] ∧ l.length ≤ 9223372036854775807 ∧ m.length ≤ 9223372036854775807 ∧ out = ⟨.d (.v (.bool (decide (l = m)))), []⟩
end Go.Proofs.Ytigkcigoiinkpaa.Am
