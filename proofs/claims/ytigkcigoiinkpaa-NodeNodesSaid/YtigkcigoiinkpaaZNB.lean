import Derived.Test.YtigkcigoiinkpaaZNK
import Derived.Test.YtigkcigoiinkpaaZCA
set_option linter.unusedVariables false
set_option linter.unusedSimpArgs false
set_option maxRecDepth 10000
namespace Go.Proofs.Ytigkcigoiinkpaa.Am
open Go Go.RowKit Go.Proofs
theorem rootL_len {now : Int} {u r : List Int} (h : mayR now u r) : (rootL now u r).length ≤ 121:=by
  unfold rootL;rw [List.length_append,List.length_append,putB_len,rowB_len,rowB_len];have:=h.2.1.2;have:=h.2.2.2;omega
end Go.Proofs.Ytigkcigoiinkpaa.Am
