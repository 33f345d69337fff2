-- written by mp.py (my program over the kit's print)
import Derived.Test.YtbhbnefifgdioaaProg
import Derived.Below
import Derived.Deep.Draws
import Derived.Deep.AppendLies
import Derived.Maps.AppendAt
import Derived.OwnWalk
import Derived.Laws.BytesArg
import Derived.Laws.MakeOwn
import Derived.Laws.OwnMore
import Derived.Deep.OwnRows
import Derived.Tactics
import Derived.Lib.ConvBytes
import Derived.Laws.Slices
import Derived.WalkKit
import Derived.KernelRfl
import Derived.RowKit3
import Derived.Deep.LoopGhost
import Derived.Deep.QuietTactic
import Derived.BigQuiet
import Derived.WideLaws
import Derived.Deep.DeepCutAuto
import Derived.Deep.CutBlock
import Derived.Deep.RegionHeld3
import Derived.Laws.Rows
import Derived.Lib.AppendStr
import Derived.ArgAppend
import Derived.Laws.IdiomCopy
import Derived.OrdersHeld
import Derived.Laws.BitsLemmas
import Derived.RowKit
import Derived.Test.YtbhbnefifgdioaaWWords
import Derived.Test.YtbhbnefifgdioaaWLast
import Derived.Test.YtbhbnefifgdioaaWTab
import Derived.Test.YtbhbnefifgdioaaWFour
import Derived.Test.YtbhbnefifgdioaaWQPut
import Derived.Test.YtbhbnefifgdioaaWApart
import Derived.Test.YtbhbnefifgdioaaWArr
import Derived.Test.YtbhbnefifgdioaaWZeros
import Derived.Test.YtbhbnefifgdioaaWFoot
import Derived.Test.YtbhbnefifgdioaaWKept
import Derived.Test.YtbhbnefifgdioaaWShare
import Derived.Test.YtbhbnefifgdioaaWN
import Derived.Test.YtbhbnefifgdioaaWFootNe
import Derived.Test.YtbhbnefifgdioaaWAt
import Derived.Test.YtbhbnefifgdioaaWEqStruct
import Derived.Test.YtbhbnefifgdioaaWRepsOne
import Derived.Test.YtbhbnefifgdioaaWInv
import Derived.Test.YtbhbnefifgdioaaWInvWords
import Derived.Test.YtbhbnefifgdioaaWGuard
import Derived.Test.YtbhbnefifgdioaaWNEv
import Derived.Test.YtbhbnefifgdioaaWMore
import Derived.Test.YtbhbnefifgdioaaHandE
import Derived.Test.YtbhbnefifgdioaaAdd
import Derived.Test.YtbhbnefifgdioaaGrain
namespace Go.Proofs.Ytbhbnefifgdioaa.K
open Go.RowKit Go.Proofs.Ytbhbnefifgdioaa.Hand Go.Proofs.YtbhbnefifgdioaaW.PrintWords Go.Proofs.YtbhbnefifgdioaaW.PrintLast Go.Proofs.YtbhbnefifgdioaaW.PrintMore
attribute [local go_sem] max2_int min2_int max_two min_two max_three min_three max_four min_four   -- for this text's walks alone
set_option linter.unusedVariables false
set_option linter.unusedSimpArgs false



def errW : Option Int → Value
  | none => .nilIface
  | some c => .iface 0 (.int .i64 c)
theorem errW_none : errW none = .nilIface := rfl
theorem errW_some (c : Int) : errW (some c) = .iface 0 (.int .i64 c) := rfl

-- the values' own types

end Go.Proofs.Ytbhbnefifgdioaa.K
