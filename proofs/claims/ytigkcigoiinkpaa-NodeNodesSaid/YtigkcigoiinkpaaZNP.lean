import Derived.Test.YtigkcigoiinkpaaZNH
import Derived.Test.YtigkcigoiinkpaaZNB
import Derived.Test.YtigkcigoiinkpaaZGA
set_option linter.unusedVariables false
set_option linter.unusedSimpArgs false
set_option maxRecDepth 10000
namespace Go.Proofs.Ytigkcigoiinkpaa.Am
open Go Go.RowKit Go.Proofs
end Go.Proofs.Ytigkcigoiinkpaa.Am
