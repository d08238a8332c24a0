-- written by the session's turned print (NOTES.md, 'The tool')
import Derived.Test.YtalhmpmdfjofbaaQAx0
import Derived.Test.YtalhmpmdfjofbaaOpen
namespace Go.Proofs.Ytalhmpmdfjofbaa.QA
open Go.RowKit Go.Proofs.YtalhmpmdfjofbaaW.PrintWords Go.Proofs.Ytalhmpmdfjofbaa.Op
set_option linter.unusedVariables false
def Wf39 (x : S39) : Prop := (Lit.int .i64 x.f0).wf = true ∧ (Lit.int .i64 x.f1).wf = true ∧ (Lit.int .i64 x.f2).wf = true ∧ (Lit.int .i64 x.f3).wf = true ∧ (Lit.int .i64 x.f4).wf = true
set_option maxRecDepth 100000 in
theorem opens_T39 : Opens Try.prog k39 Wf39 39 := by
  refine ⟨by kernel_rfl, fun H enc w fuel cs x h => ?_⟩
  obtain ⟨hl, hf⟩ := struct_cells Try.underlying39 (by kernel_rfl) (by kernel_rfl) h
  replace hl : cs.length = 5 := hl
  match cs, hl, hf with
  | [u0, u1, u2, u3, u4], _, hf =>
    obtain ⟨q0, n0, y0, e0, g0⟩ := hf 0 _ rfl
    obtain rfl : u0 = q0 := by simpa using e0
    obtain ⟨v0, K0, W0⟩ := ((opens_int Try.underlying3 (by kernel_rfl))).2 H enc w n0 [u0] y0 g0
    obtain ⟨q1, n1, y1, e1, g1⟩ := hf 1 _ rfl
    obtain rfl : u1 = q1 := by simpa using e1
    obtain ⟨v1, K1, W1⟩ := ((opens_int Try.underlying3 (by kernel_rfl))).2 H enc w n1 [u1] y1 g1
    obtain ⟨q2, n2, y2, e2, g2⟩ := hf 2 _ rfl
    obtain rfl : u2 = q2 := by simpa using e2
    obtain ⟨v2, K2, W2⟩ := ((opens_int Try.underlying3 (by kernel_rfl))).2 H enc w n2 [u2] y2 g2
    obtain ⟨q3, n3, y3, e3, g3⟩ := hf 3 _ rfl
    obtain rfl : u3 = q3 := by simpa using e3
    obtain ⟨v3, K3, W3⟩ := ((opens_int Try.underlying3 (by kernel_rfl))).2 H enc w n3 [u3] y3 g3
    obtain ⟨q4, n4, y4, e4, g4⟩ := hf 4 _ rfl
    obtain rfl : u4 = q4 := by simpa using e4
    obtain ⟨v4, K4, W4⟩ := ((opens_int Try.underlying3 (by kernel_rfl))).2 H enc w n4 [u4] y4 g4
    exact ⟨⟨v0, v1, v2, v3, v4⟩, ⟨[u0], [u1, u2, u3, u4], rfl, K0, ⟨[u1], [u2, u3, u4], rfl, K1, ⟨[u2], [u3, u4], rfl, K2, ⟨[u3], [u4], rfl, K3, K4⟩⟩⟩⟩, W0, W1, W2, W3, W4⟩
end Go.Proofs.Ytalhmpmdfjofbaa.QA
