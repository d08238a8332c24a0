import Derived.Test.YtfoalonjlhemmaaZAm14
import Derived.Test.YtfoalonjlhemmaaZFA
set_option linter.unusedVariables false
set_option linter.unusedSimpArgs false
set_option maxRecDepth 10000
namespace Go.Proofs.Ytfoalonjlhemmaa.Am
open Go Go.RowKit Go.Proofs
theorem wf_Bs {d : D} (h : wfS wfB d) : ∃ l : List Int, d = .list (l.map mB) ∧ Byt l ∧ l.length ≤ 9223372036854775807 := by
  obtain ⟨ds, rfl, hl, hf⟩ := h
  have key : ∀ ds : List D, (∀ x ∈ ds, wfB x) → ∃ l : List Int, ds = l.map mB ∧ Byt l := by
    intro ds
    induction ds with
    | nil => exact fun _ => ⟨[], rfl, byt_nil⟩
    | cons a r ih =>
      intro h
      obtain ⟨n, rfl, h0, h1⟩ := h a (List.mem_cons_self ..)
      obtain ⟨l, rfl, hb⟩ := ih fun x hx => h x (List.mem_cons_of_mem _ hx)
      exact ⟨n :: l, rfl, byt_cons ⟨h0, h1⟩ hb⟩
  obtain ⟨l, rfl, hb⟩ := key ds hf
  exact ⟨l, rfl, hb, by simpa using hl⟩
theorem opBs : Op Try.prog 22 1 (wfS wfB) := op_slice Try.underlying22 (by kernel_rfl) (op_u8 Try.underlying5 (by kernel_rfl))
theorem opvBs : OpV Try.prog 22 (wfS wfB) := opv_slice Try.underlying22 opBs
end Go.Proofs.Ytfoalonjlhemmaa.Am
