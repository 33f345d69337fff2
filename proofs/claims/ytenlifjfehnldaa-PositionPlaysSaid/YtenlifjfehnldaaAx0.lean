-- written by mp.py (my program over the kit's print)
import Derived.Test.YtenlifjfehnldaaProg
import Derived.Below
import Derived.Deep.Draws
import Derived.Deep.AppendLies
import Derived.Maps.AppendAt
import Derived.OwnWalk
import Derived.Laws.BytesArg
import Derived.Laws.MakeOwn
import Derived.Laws.OwnMore
import Derived.Deep.OwnRows
import Derived.Tactics
import Derived.Lib.ConvBytes
import Derived.Laws.Slices
import Derived.WalkKit
import Derived.KernelRfl
import Derived.RowKit3
import Derived.Deep.LoopGhost
import Derived.Deep.QuietTactic
import Derived.BigQuiet
import Derived.WideLaws
import Derived.Deep.DeepCutAuto
import Derived.Deep.CutBlock
import Derived.Deep.RegionHeld3
import Derived.Laws.Rows
import Derived.Lib.AppendStr
import Derived.ArgAppend
import Derived.Laws.IdiomCopy
import Derived.OrdersHeld
import Derived.Laws.BitsLemmas
import Derived.RowKit
import Derived.Test.YtenlifjfehnldaaWWords
import Derived.Test.YtenlifjfehnldaaWLast
import Derived.Test.YtenlifjfehnldaaWTab
import Derived.Test.YtenlifjfehnldaaWFour
import Derived.Test.YtenlifjfehnldaaWQPut
import Derived.Test.YtenlifjfehnldaaWApart
import Derived.Test.YtenlifjfehnldaaWArr
import Derived.Test.YtenlifjfehnldaaWZeros
import Derived.Test.YtenlifjfehnldaaWFoot
import Derived.Test.YtenlifjfehnldaaWKept
import Derived.Test.YtenlifjfehnldaaWShare
import Derived.Test.YtenlifjfehnldaaWN
import Derived.Test.YtenlifjfehnldaaWFootNe
import Derived.Test.YtenlifjfehnldaaWAt
import Derived.Test.YtenlifjfehnldaaWEqStruct
import Derived.Test.YtenlifjfehnldaaWRepsOne
import Derived.Test.YtenlifjfehnldaaWInv
import Derived.Test.YtenlifjfehnldaaWInvWords
import Derived.Test.YtenlifjfehnldaaWGuard
import Derived.Test.YtenlifjfehnldaaWNEv
import Derived.Test.YtenlifjfehnldaaWMore
import Derived.Test.YtenlifjfehnldaaRx0
import Derived.Test.YtenlifjfehnldaaRx1
import Derived.Test.YtenlifjfehnldaaRx2
namespace Go.Proofs.Ytenlifjfehnldaa.A
open Go.RowKit Go.Proofs.Ytenlifjfehnldaa.R Go.Proofs.YtenlifjfehnldaaW.PrintWords Go.Proofs.YtenlifjfehnldaaW.PrintLast Go.Proofs.YtenlifjfehnldaaW.PrintMore
attribute [local go_sem] max2_int min2_int max_two min_two max_three min_three max_four min_four   -- for this text's walks alone
set_option linter.unusedVariables false
set_option linter.unusedSimpArgs false



def errW : Option Int → Value
  | none => .nilIface
  | some c => .iface 0 (.int .i64 c)
theorem errW_none : errW none = .nilIface := rfl
theorem errW_some (c : Int) : errW (some c) = .iface 0 (.int .i64 c) := rfl

-- the values' own types

end Go.Proofs.Ytenlifjfehnldaa.A
