import Derived.Test.YtigkcigoiinkpaaZAm14
import Derived.Test.YtigkcigoiinkpaaZFA
set_option linter.unusedVariables false
set_option linter.unusedSimpArgs false
set_option maxRecDepth 10000
namespace Go.Proofs.Ytigkcigoiinkpaa.Am
open Go Go.RowKit Go.Proofs
theorem opi : Op Try.prog 3 1 (fun d=>wfI d ∧ d.cells = [d]):=(op_i64 Try.underlying3 (by kernel_rfl)).imp fun d h=>⟨h,by obtain ⟨n,rfl,_⟩:=h;rfl⟩
theorem opvi : OpV Try.prog 3 wfI:=opv_i64 Try.underlying3 (by kernel_rfl)
theorem opvL : OpV Try.prog 4 wfL:=opv_bool Try.underlying4 (by kernel_rfl)
theorem opv5 : OpV Try.prog 5 wfB:=opv_u8 Try.underlying5 (by kernel_rfl)
end Go.Proofs.Ytigkcigoiinkpaa.Am
