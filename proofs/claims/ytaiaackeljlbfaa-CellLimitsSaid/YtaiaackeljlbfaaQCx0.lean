-- written by the session's turned print (NOTES.md, 'The tool')
import Derived.Test.YtaiaackeljlbfaaProg
import Derived.Below
import Derived.Deep.Draws
import Derived.Deep.AppendLies
import Derived.Maps.AppendAt
import Derived.OwnWalk
import Derived.Laws.BytesArg
import Derived.Laws.MakeOwn
import Derived.Laws.OwnMore
import Derived.Deep.OwnRows
import Derived.Tactics
import Derived.Lib.ConvBytes
import Derived.Laws.Slices
import Derived.WalkKit
import Derived.KernelRfl
import Derived.RowKit3
import Derived.Deep.LoopGhost
import Derived.Deep.QuietTactic
import Derived.BigQuiet
import Derived.WideLaws
import Derived.Deep.DeepCutAuto
import Derived.Deep.CutBlock
import Derived.Deep.RegionHeld3
import Derived.Laws.Rows
import Derived.Lib.AppendStr
import Derived.ArgAppend
import Derived.Laws.IdiomCopy
import Derived.OrdersHeld
import Derived.Laws.BitsLemmas
import Derived.RowKit
import Derived.Test.YtaiaackeljlbfaaWWords
import Derived.Test.YtaiaackeljlbfaaWLast
import Derived.Test.YtaiaackeljlbfaaWTab
import Derived.Test.YtaiaackeljlbfaaWFour
import Derived.Test.YtaiaackeljlbfaaWQPut
import Derived.Test.YtaiaackeljlbfaaWApart
import Derived.Test.YtaiaackeljlbfaaWArr
import Derived.Test.YtaiaackeljlbfaaWZeros
import Derived.Test.YtaiaackeljlbfaaWFoot
import Derived.Test.YtaiaackeljlbfaaWKept
import Derived.Test.YtaiaackeljlbfaaWShare
import Derived.Test.YtaiaackeljlbfaaWN
import Derived.Test.YtaiaackeljlbfaaWFootNe
import Derived.Test.YtaiaackeljlbfaaWAt
import Derived.Test.YtaiaackeljlbfaaWEqStruct
import Derived.Test.YtaiaackeljlbfaaWRepsOne
import Derived.Test.YtaiaackeljlbfaaWInv
import Derived.Test.YtaiaackeljlbfaaWInvWords
import Derived.Test.YtaiaackeljlbfaaWGuard
import Derived.Test.YtaiaackeljlbfaaWNEv
import Derived.Test.YtaiaackeljlbfaaWMore
namespace Go.Proofs.Ytaiaackeljlbfaa.QC
open Go.RowKit Go.Proofs.YtaiaackeljlbfaaW.PrintWords Go.Proofs.YtaiaackeljlbfaaW.PrintLast Go.Proofs.YtaiaackeljlbfaaW.PrintMore
attribute [local go_sem] max2_int min2_int max_two min_two max_three min_three max_four min_four   -- for this text's walks alone
set_option linter.unusedVariables false
set_option linter.unusedSimpArgs false



def errW : Option Int → Value
  | none => .nilIface
  | some c => .iface 0 (.int .i64 c)
theorem errW_none : errW none = .nilIface := rfl
theorem errW_some (c : Int) : errW (some c) = .iface 0 (.int .i64 c) := rfl

-- the values' own types

abbrev ba_ := @below_alloc
abbrev bn_ := @pw_below_drewN
abbrev bd_ := @below_drew1
abbrev be_ := @below_set
abbrev kn_ := @blk_drewN
abbrev ka_ := @blk_alloc
abbrev kd_ := @blk_drew
abbrev ra_ := @Kd.R_alloc
abbrev rn_ := @Kd.R_drewN
abbrev rd_ := @Kd.R_drew
abbrev am_ := @Aside0.mk
abbrev va_ := @Kd.V_alloc
abbrev vn_ := @Kd.V_drewN
abbrev vd_ := @Kd.V_drew
abbrev ca_ := @Kd.C_alloc
abbrev cn_ := @Kd.C_drewN
abbrev cd_ := @Kd.C_drew
abbrev bz_ := @below_size
abbrev bt_ := @below_step
end Go.Proofs.Ytaiaackeljlbfaa.QC
