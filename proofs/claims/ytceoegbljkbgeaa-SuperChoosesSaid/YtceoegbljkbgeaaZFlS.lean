import Derived.Test.YtceoegbljkbgeaaZAmB
import Derived.Test.YtceoegbljkbgeaaZF1
set_option linter.unusedVariables false
set_option linter.unusedSimpArgs false
set_option maxRecDepth 10000
namespace Go.Proofs.Ytceoegbljkbgeaa.Am
open Go Go.RowKit Go.Proofs
def i64 (n : Int) : Prop := -9223372036854775808 ≤ n ∧ n < 9223372036854775808
def wfSu : D → Prop := wfF [wfI, wfI, wfI, wfI]
theorem wf_Su {d : D} (h : wfSu d) : ∃ g l d' r : Int, d = .agg [.v (.int .i64 g), .v (.int .i64 l), .v (.int .i64 d'), .v (.int .i64 r)] ∧ i64 g ∧ i64 l ∧ i64 d' ∧ i64 r := by
  obtain ⟨ds, rfl, hl, hf⟩ := h
  match ds, hl with
  | [a, b, c, d], _ =>
    obtain ⟨n0, rfl, l0⟩ := hf 0 a wfI rfl rfl
    obtain ⟨n1, rfl, l1⟩ := hf 1 b wfI rfl rfl
    obtain ⟨n2, rfl, l2⟩ := hf 2 c wfI rfl rfl
    obtain ⟨n3, rfl, l3⟩ := hf 3 d wfI rfl rfl
    exact ⟨n0, n1, n2, n3, rfl, l0, l1, l2, l3⟩
theorem opi : Op Try.prog 3 1 (fun d => wfI d ∧ d.cells = [d]) := (op_i64 Try.underlying3 (by kernel_rfl)).imp fun d h => ⟨h, by obtain ⟨n, rfl, _⟩ := h; rfl⟩
theorem opSu : Op Try.prog 23 4 wfSu := by
  refine op_struct Try.underlying23 (by kernel_rfl) (by kernel_rfl) (by decide) rfl ?_
  intro j f Wf h1 h2
  match j, h1, h2 with
  | 0, h1, h2 => cases h1; cases h2; exact opi
  | 1, h1, h2 => cases h1; cases h2; exact opi
  | 2, h1, h2 => cases h1; cases h2; exact opi
  | 3, h1, h2 => cases h1; cases h2; exact opi
  | n + 4, h1, h2 => simp at h2
theorem opvSu : OpV Try.prog 23 wfSu := opv_struct Try.underlying23 opSu
theorem opvi : OpV Try.prog 3 wfI := opv_i64 Try.underlying3 (by kernel_rfl)
theorem opvL : OpV Try.prog 4 wfL := opv_bool Try.underlying4 (by kernel_rfl)
theorem wf_Bs {d : D} (h : wfS wfB d) : ∃ l : List Int, d = .list (l.map mB) ∧ Byt l ∧ l.length ≤ 9223372036854775807 := by
  obtain ⟨ds, rfl, hl, hf⟩ := h
  have key : ∀ ds : List D, (∀ x ∈ ds, wfB x) → ∃ l : List Int, ds = l.map mB ∧ Byt l := by
    intro ds
    induction ds with
    | nil => exact fun _ => ⟨[], rfl, byt_nil⟩
    | cons a r ih =>
      intro h
      obtain ⟨n, rfl, h0, h1⟩ := h a (List.mem_cons_self ..)
      obtain ⟨l, rfl, hb⟩ := ih fun x hx => h x (List.mem_cons_of_mem _ hx)
      exact ⟨n :: l, rfl, byt_cons ⟨h0, h1⟩ hb⟩
  obtain ⟨l, rfl, hb⟩ := key ds hf
  exact ⟨l, rfl, hb, by simpa using hl⟩
theorem op5 : Op Try.prog 5 1 (fun d => wfB d ∧ d.cells = [d]) := (op_u8 Try.underlying5 (by kernel_rfl)).imp fun d h => ⟨h, by obtain ⟨n, rfl, _⟩ := h; rfl⟩
theorem opBs : Op Try.prog 24 1 (wfS wfB) := op_slice Try.underlying24 (by kernel_rfl) (op_u8 Try.underlying5 (by kernel_rfl))
theorem opvBs : OpV Try.prog 24 (wfS wfB) := opv_slice Try.underlying24 opBs
theorem opv5 : OpV Try.prog 5 wfB := opv_u8 Try.underlying5 (by kernel_rfl)
end Go.Proofs.Ytceoegbljkbgeaa.Am
