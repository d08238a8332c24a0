import Derived.Test.YtigkcigoiinkpaaZS1
import Derived.Test.YtigkcigoiinkpaaZR1
import Derived.Test.YtigkcigoiinkpaaZCm
set_option linter.unusedVariables false
set_option linter.unusedSimpArgs false
namespace Go.Proofs.Ytigkcigoiinkpaa.Am
open Go Go.RowKit Go.Proofs
end Go.Proofs.Ytigkcigoiinkpaa.Am
