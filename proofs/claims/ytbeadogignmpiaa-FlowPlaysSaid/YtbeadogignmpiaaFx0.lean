-- written by mp.py (my program over the kit's print)
import Derived.Test.YtbeadogignmpiaaProg
import Derived.Below
import Derived.Deep.Draws
import Derived.Deep.AppendLies
import Derived.Maps.AppendAt
import Derived.OwnWalk
import Derived.Laws.BytesArg
import Derived.Laws.MakeOwn
import Derived.Laws.OwnMore
import Derived.Deep.OwnRows
import Derived.Tactics
import Derived.Lib.ConvBytes
import Derived.Laws.Slices
import Derived.WalkKit
import Derived.KernelRfl
import Derived.RowKit3
import Derived.Deep.LoopGhost
import Derived.Deep.QuietTactic
import Derived.BigQuiet
import Derived.WideLaws
import Derived.Deep.DeepCutAuto
import Derived.Deep.CutBlock
import Derived.Deep.RegionHeld3
import Derived.Laws.Rows
import Derived.Lib.AppendStr
import Derived.ArgAppend
import Derived.Laws.IdiomCopy
import Derived.OrdersHeld
import Derived.Laws.BitsLemmas
import Derived.RowKit
import Derived.Test.YtbeadogignmpiaaWWords
import Derived.Test.YtbeadogignmpiaaWLast
import Derived.Test.YtbeadogignmpiaaWTab
import Derived.Test.YtbeadogignmpiaaWFour
import Derived.Test.YtbeadogignmpiaaWQPut
import Derived.Test.YtbeadogignmpiaaWApart
import Derived.Test.YtbeadogignmpiaaWArr
import Derived.Test.YtbeadogignmpiaaWZeros
import Derived.Test.YtbeadogignmpiaaWFoot
import Derived.Test.YtbeadogignmpiaaWKept
import Derived.Test.YtbeadogignmpiaaWShare
import Derived.Test.YtbeadogignmpiaaWN
import Derived.Test.YtbeadogignmpiaaWFootNe
import Derived.Test.YtbeadogignmpiaaWAt
import Derived.Test.YtbeadogignmpiaaWEqStruct
import Derived.Test.YtbeadogignmpiaaWRepsOne
import Derived.Test.YtbeadogignmpiaaWInv
import Derived.Test.YtbeadogignmpiaaWInvWords
import Derived.Test.YtbeadogignmpiaaWGuard
import Derived.Test.YtbeadogignmpiaaWNEv
import Derived.Test.YtbeadogignmpiaaWMore
import Derived.Test.YtbeadogignmpiaaHandE
namespace Go.Proofs.Ytbeadogignmpiaa.F
open Go.RowKit Go.Proofs.Ytbeadogignmpiaa.Hand Go.Proofs.YtbeadogignmpiaaW.PrintWords Go.Proofs.YtbeadogignmpiaaW.PrintLast Go.Proofs.YtbeadogignmpiaaW.PrintMore
attribute [local go_sem] max2_int min2_int max_two min_two max_three min_three max_four min_four   -- for this text's walks alone
set_option linter.unusedVariables false
set_option linter.unusedSimpArgs false



def errW : Option Int → Value
  | none => .nilIface
  | some c => .iface 0 (.int .i64 c)
theorem errW_none : errW none = .nilIface := rfl
theorem errW_some (c : Int) : errW (some c) = .iface 0 (.int .i64 c) := rfl

-- the values' own types

end Go.Proofs.Ytbeadogignmpiaa.F
