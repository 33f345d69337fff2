-- written by mp.py (my program over the kit's print)
import Derived.Test.YtknmojjccfhchaaProg
import Derived.Below
import Derived.Deep.Draws
import Derived.Deep.AppendLies
import Derived.Maps.AppendAt
import Derived.OwnWalk
import Derived.Laws.BytesArg
import Derived.Laws.MakeOwn
import Derived.Laws.OwnMore
import Derived.Deep.OwnRows
import Derived.Tactics
import Derived.Lib.ConvBytes
import Derived.Laws.Slices
import Derived.WalkKit
import Derived.KernelRfl
import Derived.RowKit3
import Derived.Deep.LoopGhost
import Derived.Deep.QuietTactic
import Derived.BigQuiet
import Derived.WideLaws
import Derived.Deep.DeepCutAuto
import Derived.Deep.CutBlock
import Derived.Deep.RegionHeld3
import Derived.Laws.Rows
import Derived.Lib.AppendStr
import Derived.ArgAppend
import Derived.Laws.IdiomCopy
import Derived.OrdersHeld
import Derived.Laws.BitsLemmas
import Derived.RowKit
import Derived.Test.YtknmojjccfhchaaWWords
import Derived.Test.YtknmojjccfhchaaWLast
import Derived.Test.YtknmojjccfhchaaWTab
import Derived.Test.YtknmojjccfhchaaWQPut
import Derived.Test.YtknmojjccfhchaaWApart
import Derived.Test.YtknmojjccfhchaaWArr
import Derived.Test.YtknmojjccfhchaaWZeros
import Derived.Test.YtknmojjccfhchaaWFoot
import Derived.Test.YtknmojjccfhchaaWKept
import Derived.Test.YtknmojjccfhchaaWShare
import Derived.Test.YtknmojjccfhchaaWN
import Derived.Test.YtknmojjccfhchaaWRepsOne
import Derived.Test.YtknmojjccfhchaaWNEv
import Derived.Test.YtknmojjccfhchaaWMore
import Derived.Test.YtknmojjccfhchaaRx0
import Derived.Test.YtknmojjccfhchaaRx1
import Derived.Test.YtknmojjccfhchaaRx2
namespace Go.Proofs.Ytknmojjccfhchaa.A
open Go.RowKit Go.Proofs.Ytknmojjccfhchaa.R Go.Proofs.YtknmojjccfhchaaW.PrintWords Go.Proofs.YtknmojjccfhchaaW.PrintLast Go.Proofs.YtknmojjccfhchaaW.PrintMore
attribute [local go_sem] max2_int min2_int max_two min_two max_three min_three max_four min_four   -- for this text's walks alone
set_option linter.unusedVariables false
set_option linter.unusedSimpArgs false



def errW : Option Int → Value
  | none => .nilIface
  | some c => .iface 0 (.int .i64 c)
theorem errW_none : errW none = .nilIface := rfl
theorem errW_some (c : Int) : errW (some c) = .iface 0 (.int .i64 c) := rfl

-- the values' own types

end Go.Proofs.Ytknmojjccfhchaa.A
