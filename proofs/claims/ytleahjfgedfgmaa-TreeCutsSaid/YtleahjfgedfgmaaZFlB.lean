import Derived.Test.YtleahjfgedfgmaaZAm14
import Derived.Test.YtleahjfgedfgmaaZFA
set_option linter.unusedVariables false
set_option linter.unusedSimpArgs false
set_option maxRecDepth 10000
namespace Go.Proofs.Ytleahjfgedfgmaa.Am
open Go Go.RowKit Go.Proofs
theorem opi : Op Try.prog 3 1 (fun d=>wfI d ∧ d.cells = [d]):=(op_i64 Try.underlying3 (by kernel_rfl)).imp fun d h=>⟨h,by obtain ⟨n,rfl,_⟩:=h;rfl⟩
theorem opvi : OpV Try.prog 3 wfI:=opv_i64 Try.underlying3 (by kernel_rfl)
end Go.Proofs.Ytleahjfgedfgmaa.Am
