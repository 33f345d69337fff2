-- written by mp.py (my program over the kit's print)
import Derived.Test.YthnmpnilcdnimaaProg
import Derived.Below
import Derived.Deep.Draws
import Derived.Deep.AppendLies
import Derived.Maps.AppendAt
import Derived.OwnWalk
import Derived.Laws.BytesArg
import Derived.Laws.MakeOwn
import Derived.Laws.OwnMore
import Derived.Deep.OwnRows
import Derived.Tactics
import Derived.Lib.ConvBytes
import Derived.Laws.Slices
import Derived.WalkKit
import Derived.KernelRfl
import Derived.RowKit3
import Derived.Deep.LoopGhost
import Derived.Deep.QuietTactic
import Derived.BigQuiet
import Derived.WideLaws
import Derived.Deep.DeepCutAuto
import Derived.Deep.CutBlock
import Derived.Deep.RegionHeld3
import Derived.Laws.Rows
import Derived.Lib.AppendStr
import Derived.ArgAppend
import Derived.Laws.IdiomCopy
import Derived.OrdersHeld
import Derived.Laws.BitsLemmas
import Derived.RowKit
import Derived.Test.YthnmpnilcdnimaaWWords
import Derived.Test.YthnmpnilcdnimaaWLast
import Derived.Test.YthnmpnilcdnimaaWTab
import Derived.Test.YthnmpnilcdnimaaWFour
import Derived.Test.YthnmpnilcdnimaaWQPut
import Derived.Test.YthnmpnilcdnimaaWApart
import Derived.Test.YthnmpnilcdnimaaWArr
import Derived.Test.YthnmpnilcdnimaaWZeros
import Derived.Test.YthnmpnilcdnimaaWFoot
import Derived.Test.YthnmpnilcdnimaaWKept
import Derived.Test.YthnmpnilcdnimaaWShare
import Derived.Test.YthnmpnilcdnimaaWN
import Derived.Test.YthnmpnilcdnimaaWFootNe
import Derived.Test.YthnmpnilcdnimaaWAt
import Derived.Test.YthnmpnilcdnimaaWEqStruct
import Derived.Test.YthnmpnilcdnimaaWRepsOne
import Derived.Test.YthnmpnilcdnimaaWInv
import Derived.Test.YthnmpnilcdnimaaWInvWords
import Derived.Test.YthnmpnilcdnimaaWGuard
import Derived.Test.YthnmpnilcdnimaaWNEv
import Derived.Test.YthnmpnilcdnimaaWMore
import Derived.Test.YthnmpnilcdnimaaRx0
import Derived.Test.YthnmpnilcdnimaaRx1
import Derived.Test.YthnmpnilcdnimaaRx2
namespace Go.Proofs.Ythnmpnilcdnimaa.A
open Go.RowKit Go.Proofs.Ythnmpnilcdnimaa.R Go.Proofs.YthnmpnilcdnimaaW.PrintWords Go.Proofs.YthnmpnilcdnimaaW.PrintLast Go.Proofs.YthnmpnilcdnimaaW.PrintMore
attribute [local go_sem] max2_int min2_int max_two min_two max_three min_three max_four min_four   -- for this text's walks alone
set_option linter.unusedVariables false
set_option linter.unusedSimpArgs false



def errW : Option Int → Value
  | none => .nilIface
  | some c => .iface 0 (.int .i64 c)
theorem errW_none : errW none = .nilIface := rfl
theorem errW_some (c : Int) : errW (some c) = .iface 0 (.int .i64 c) := rfl

-- the values' own types

end Go.Proofs.Ythnmpnilcdnimaa.A
