-- written by mp.py (my program over the kit's print)
import Derived.Test.YtcbjamjmefgjcaaProg
import Derived.Below
import Derived.Deep.Draws
import Derived.Deep.AppendLies
import Derived.Maps.AppendAt
import Derived.OwnWalk
import Derived.Laws.BytesArg
import Derived.Laws.MakeOwn
import Derived.Laws.OwnMore
import Derived.Deep.OwnRows
import Derived.Tactics
import Derived.Lib.ConvBytes
import Derived.Laws.Slices
import Derived.WalkKit
import Derived.KernelRfl
import Derived.RowKit3
import Derived.Deep.LoopGhost
import Derived.Deep.QuietTactic
import Derived.BigQuiet
import Derived.WideLaws
import Derived.Deep.DeepCutAuto
import Derived.Deep.CutBlock
import Derived.Deep.RegionHeld3
import Derived.Laws.Rows
import Derived.Lib.AppendStr
import Derived.ArgAppend
import Derived.Laws.IdiomCopy
import Derived.OrdersHeld
import Derived.Laws.BitsLemmas
import Derived.RowKit
import Derived.Test.YtcbjamjmefgjcaaWWords
import Derived.Test.YtcbjamjmefgjcaaWLast
import Derived.Test.YtcbjamjmefgjcaaWTab
import Derived.Test.YtcbjamjmefgjcaaWFour
import Derived.Test.YtcbjamjmefgjcaaWQPut
import Derived.Test.YtcbjamjmefgjcaaWApart
import Derived.Test.YtcbjamjmefgjcaaWArr
import Derived.Test.YtcbjamjmefgjcaaWZeros
import Derived.Test.YtcbjamjmefgjcaaWFoot
import Derived.Test.YtcbjamjmefgjcaaWKept
import Derived.Test.YtcbjamjmefgjcaaWShare
import Derived.Test.YtcbjamjmefgjcaaWN
import Derived.Test.YtcbjamjmefgjcaaWFootNe
import Derived.Test.YtcbjamjmefgjcaaWAt
import Derived.Test.YtcbjamjmefgjcaaWEqStruct
import Derived.Test.YtcbjamjmefgjcaaWRepsOne
import Derived.Test.YtcbjamjmefgjcaaWInv
import Derived.Test.YtcbjamjmefgjcaaWInvWords
import Derived.Test.YtcbjamjmefgjcaaWGuard
import Derived.Test.YtcbjamjmefgjcaaWNEv
import Derived.Test.YtcbjamjmefgjcaaWMore
import Derived.Test.YtcbjamjmefgjcaaCurve
namespace Go.Proofs.Ytcbjamjmefgjcaa.D
open Go.RowKit Go.Proofs.Ytcbjamjmefgjcaa.Hand Go.Proofs.YtcbjamjmefgjcaaW.PrintWords Go.Proofs.YtcbjamjmefgjcaaW.PrintLast Go.Proofs.YtcbjamjmefgjcaaW.PrintMore
attribute [local go_sem] max2_int min2_int max_two min_two max_three min_three max_four min_four   -- for this text's walks alone
set_option linter.unusedVariables false
set_option linter.unusedSimpArgs false



def errW : Option Int → Value
  | none => .nilIface
  | some c => .iface 0 (.int .i64 c)
theorem errW_none : errW none = .nilIface := rfl
theorem errW_some (c : Int) : errW (some c) = .iface 0 (.int .i64 c) := rfl

-- the values' own types

end Go.Proofs.Ytcbjamjmefgjcaa.D
