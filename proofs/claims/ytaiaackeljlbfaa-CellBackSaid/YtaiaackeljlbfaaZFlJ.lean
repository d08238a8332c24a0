import Derived.Test.YtaiaackeljlbfaaZFlS0
import Derived.Test.YtaiaackeljlbfaaZJP
set_option linter.unusedVariables false
set_option linter.unusedSimpArgs false
set_option maxRecDepth 10000
namespace Go.Proofs.Ytaiaackeljlbfaa.Am
open Go Go.RowKit Go.Proofs
def wfCell : D → Prop := wfF [wfI, wfI, wfI, wfI, wfS wfB]
theorem wf_Cell {d : D} (h : wfCell d) : ∃ (a b c e : Int) (dt : List Int), d = .agg [.v (.int .i64 a), .v (.int .i64 b), .v (.int .i64 c), .v (.int .i64 e), .list (dt.map mB)] ∧ Byt dt ∧ dt.length ≤ 9223372036854775807 := by
  obtain ⟨ds, rfl, hl, hf⟩ := h
  match ds, hl with
  | [a, b, c, d, e], _ =>
    obtain ⟨n0, rfl, l0⟩ := hf 0 a wfI rfl rfl
    obtain ⟨n1, rfl, l1⟩ := hf 1 b wfI rfl rfl
    obtain ⟨n2, rfl, l2⟩ := hf 2 c wfI rfl rfl
    obtain ⟨n3, rfl, l3⟩ := hf 3 d wfI rfl rfl
    obtain ⟨l, rfl, l4, l5⟩ := wf_Bs (hf 4 e (wfS wfB) rfl rfl)
    exact ⟨n0, n1, n2, n3, l, rfl, l4, l5⟩
theorem opBl : Op Try.prog 27 1 (fun d => wfS wfB d ∧ d.cells = [d]) := opBs.imp fun d h => ⟨h, by obtain ⟨l, rfl, _⟩ := h; rfl⟩
theorem opCell : Op Try.prog 29 5 wfCell := by
  refine op_struct Try.underlying29 (by kernel_rfl) (by kernel_rfl) (by decide) rfl ?_
  intro j f Wf h1 h2
  match j, h1, h2 with
  | 0, h1, h2 => cases h1; cases h2; exact opi
  | 1, h1, h2 => cases h1; cases h2; exact opi
  | 2, h1, h2 => cases h1; cases h2; exact opi
  | 3, h1, h2 => cases h1; cases h2; exact opi
  | 4, h1, h2 => cases h1; cases h2; exact opBl
  | n + 5, h1, h2 => simp at h2
theorem opvCell : OpV Try.prog 29 wfCell := opv_struct Try.underlying29 opCell
theorem wf_Cells {d : D} (h : wfS wfCell d) : ∃ l : List Ce, d = .list (l.map eC) ∧ (∀ c ∈ l, c.dt.length ≤ 9223372036854775807) ∧ l.length ≤ 9223372036854775807 := by
  obtain ⟨ds, rfl, hl, hf⟩ := h
  have key : ∀ ds : List D, (∀ x ∈ ds, wfCell x) → ∃ l : List Ce, ds = l.map eC ∧ ∀ c ∈ l, c.dt.length ≤ 9223372036854775807 := by
    intro ds
    induction ds with
    | nil => exact fun _ => ⟨[], rfl, by simp⟩
    | cons a r ih =>
      intro h
      obtain ⟨n0, n1, n2, n3, dt, rfl, _, hb⟩ := wf_Cell (h a (List.mem_cons_self ..))
      obtain ⟨l, rfl, hl⟩ := ih fun x hx => h x (List.mem_cons_of_mem _ hx)
      exact ⟨⟨n0, n1, n2, n3, dt⟩ :: l, rfl, fun c hc => by
        rcases List.mem_cons.1 hc with rfl | hc
        · exact hb
        · exact hl c hc⟩
  obtain ⟨l, rfl, hb⟩ := key ds hf
  exact ⟨l, rfl, hb, by simpa using hl⟩
theorem opvCells : OpV Try.prog 23 (wfS wfCell) := opv_slice Try.underlying23 (op_slice Try.underlying23 (by kernel_rfl) opCell)
end Go.Proofs.Ytaiaackeljlbfaa.Am
