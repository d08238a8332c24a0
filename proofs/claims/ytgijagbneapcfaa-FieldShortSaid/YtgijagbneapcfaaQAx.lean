-- written by the session's turned print (NOTES.md, 'The tool')
import Derived.Test.YtgijagbneapcfaaQAx0
import Derived.Test.YtgijagbneapcfaaQAx1
import Derived.Test.YtgijagbneapcfaaQAx2
import Derived.Test.YtgijagbneapcfaaQAx3
import Derived.Test.YtgijagbneapcfaaQAx4
import Derived.Test.YtgijagbneapcfaaQAx5
import Derived.Test.YtgijagbneapcfaaQAx6
namespace Go.Proofs.Ytgijagbneapcfaa.QA
open Go.RowKit Go.Proofs.YtgijagbneapcfaaW.PrintWords Go.Proofs.YtgijagbneapcfaaW.PrintLast Go.Proofs.YtgijagbneapcfaaW.PrintMore
attribute [local go_sem] max2_int min2_int max_two min_two max_three min_three max_four min_four   -- for this text's walks alone
set_option linter.unusedVariables false
set_option linter.unusedSimpArgs false

end Go.Proofs.Ytgijagbneapcfaa.QA
