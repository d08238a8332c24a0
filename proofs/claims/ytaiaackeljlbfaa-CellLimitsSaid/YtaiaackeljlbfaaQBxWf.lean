-- written by the session's turned print (NOTES.md, 'The tool')
import Derived.Test.YtaiaackeljlbfaaQBx0
import Derived.Test.YtaiaackeljlbfaaOpen
namespace Go.Proofs.Ytaiaackeljlbfaa.QB
open Go.RowKit Go.Proofs.YtaiaackeljlbfaaW.PrintWords Go.Proofs.Ytaiaackeljlbfaa.Op
set_option linter.unusedVariables false
end Go.Proofs.Ytaiaackeljlbfaa.QB
