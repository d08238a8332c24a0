import Derived.Test.YtigkcigoiinkpaaZFlS0
import Derived.Test.YtigkcigoiinkpaaZN3
set_option linter.unusedVariables false
set_option linter.unusedSimpArgs false
set_option maxRecDepth 10000
namespace Go.Proofs.Ytigkcigoiinkpaa.Am
open Go Go.RowKit Go.Proofs
end Go.Proofs.Ytigkcigoiinkpaa.Am
