/- The laws' arguments: records and pieces. -/
import Derived.Test.YtljohhinokaklaaAm14
import Derived.Test.YtljohhinokaklaaF1
set_option linter.unusedVariables false
set_option linter.unusedSimpArgs false
set_option maxRecDepth 10000
namespace Go.Proofs.Ytljohhinokaklaa.Am
open Go Go.RowKit Go.Proofs

def wfX : D → Prop := wfF [wfI, wfI, wfI, wfI, wfI]
def wfR : D → Prop := wfF [wfI, wfI, wfI, wfI, wfS wfX]
theorem wf_X {d : D} (h : wfX d) : ∃ e : Xt, d = eD e ∧ numE e := by
  obtain ⟨ds, rfl, hl, hf⟩ := h
  match ds, hl with
  | [a, b, c, d, e], _ =>
    obtain ⟨n0, rfl, l0, u0⟩ := hf 0 a wfI rfl rfl
    obtain ⟨n1, rfl, l1, u1⟩ := hf 1 b wfI rfl rfl
    obtain ⟨n2, rfl, l2, u2⟩ := hf 2 c wfI rfl rfl
    obtain ⟨n3, rfl, l3, u3⟩ := hf 3 d wfI rfl rfl
    obtain ⟨n4, rfl, l4, u4⟩ := hf 4 e wfI rfl rfl
    exact ⟨⟨n0, n1, n2, n3, n4⟩, rfl, by unfold numE; dsimp only; omega⟩
theorem wf_Xs {d : D} (h : wfS wfX d) : ∃ l : List Xt, d = .list (l.map eD) ∧ l.length ≤ 9223372036854775807 ∧ ∀ e ∈ l, numE e := by
  obtain ⟨ds, rfl, hl, hf⟩ := h
  have key : ∀ ds : List D, (∀ x ∈ ds, wfX x) → ∃ l : List Xt, ds = l.map eD ∧ ∀ e ∈ l, numE e := by
    intro ds
    induction ds with
    | nil => exact fun _ => ⟨[], rfl, fun e h => by cases h⟩
    | cons a r ih =>
      intro h
      obtain ⟨e, rfl, he⟩ := wf_X (h a (List.mem_cons_self ..))
      obtain ⟨l, rfl, hl⟩ := ih fun x hx => h x (List.mem_cons_of_mem _ hx)
      refine ⟨e :: l, rfl, fun x hx => ?_⟩
      rcases List.mem_cons.1 hx with rfl | hx
      · exact he
      · exact hl x hx
  obtain ⟨l, rfl, h⟩ := key ds hf
  exact ⟨l, rfl, by simpa using hl, h⟩
theorem wf_R {d : D} (h : wfR d) : ∃ (k t a b : Int) (l : List Xt), d = .agg [.v (.int .i64 k), .v (.int .i64 t), .v (.int .i64 a), .v (.int .i64 b), .list (l.map eD)] ∧ l.length ≤ 9223372036854775807 ∧ (∀ e ∈ l, numE e) ∧ (-9223372036854775808 ≤ k ∧ k < 9223372036854775808) ∧ (-9223372036854775808 ≤ t ∧ t < 9223372036854775808) ∧ (-9223372036854775808 ≤ a ∧ a < 9223372036854775808) ∧ (-9223372036854775808 ≤ b ∧ b < 9223372036854775808) := by
  obtain ⟨ds, rfl, hl, hf⟩ := h
  match ds, hl with
  | [a, b, c, d, e], _ =>
    obtain ⟨n0, rfl, l0⟩ := hf 0 a wfI rfl rfl
    obtain ⟨n1, rfl, l1⟩ := hf 1 b wfI rfl rfl
    obtain ⟨n2, rfl, l2⟩ := hf 2 c wfI rfl rfl
    obtain ⟨n3, rfl, l3⟩ := hf 3 d wfI rfl rfl
    obtain ⟨l, rfl, l4, l5⟩ := wf_Xs (hf 4 e (wfS wfX) rfl rfl)
    exact ⟨n0, n1, n2, n3, l, rfl, l4, l5, l0, l1, l2, l3⟩
theorem op3 : Op Try.prog 3 1 (fun d => wfI d ∧ d.cells = [d]) := (op_i64 Try.underlying3 (by kernel_rfl)).imp fun d h => ⟨h, by obtain ⟨n, rfl, _⟩ := h; rfl⟩
theorem op36 : Op Try.prog 35 5 wfX := by
  refine op_struct Try.underlying35 (by kernel_rfl) (by kernel_rfl) (by decide) rfl ?_
  intro j f Wf h1 h2
  match j, h1, h2 with
  | 0, h1, h2 => cases h1; cases h2; exact op3
  | 1, h1, h2 => cases h1; cases h2; exact op3
  | 2, h1, h2 => cases h1; cases h2; exact op3
  | 3, h1, h2 => cases h1; cases h2; exact op3
  | 4, h1, h2 => cases h1; cases h2; exact op3
  | n + 5, h1, h2 => simp at h2
theorem op22 : Op Try.prog 23 1 (fun d => wfS wfX d ∧ d.cells = [d]) := (op_slice Try.underlying23 (by kernel_rfl) op36).imp fun d h => ⟨h, by obtain ⟨l, rfl, _⟩ := h; rfl⟩
theorem op22' : Op Try.prog 23 1 (wfS wfX) := op_slice Try.underlying23 (by kernel_rfl) op36
theorem op24 : Op Try.prog 25 5 wfR := by
  refine op_struct Try.underlying25 (by kernel_rfl) (by kernel_rfl) (by decide) rfl ?_
  intro j f Wf h1 h2
  match j, h1, h2 with
  | 0, h1, h2 => cases h1; cases h2; exact op3
  | 1, h1, h2 => cases h1; cases h2; exact op3
  | 2, h1, h2 => cases h1; cases h2; exact op3
  | 3, h1, h2 => cases h1; cases h2; exact op3
  | 4, h1, h2 => cases h1; cases h2; exact op22
  | n + 5, h1, h2 => simp at h2
theorem opv24 : OpV Try.prog 25 wfR := opv_struct Try.underlying25 op24
theorem opv3 : OpV Try.prog 3 wfI := opv_i64 Try.underlying3 (by kernel_rfl)
end Go.Proofs.Ytljohhinokaklaa.Am
