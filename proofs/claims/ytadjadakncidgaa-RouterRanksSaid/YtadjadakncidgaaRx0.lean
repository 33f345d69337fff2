-- written by mp.py (my program over the kit's print)
import Derived.Test.YtadjadakncidgaaProg
import Derived.Below
import Derived.Deep.Draws
import Derived.Deep.AppendLies
import Derived.Maps.AppendAt
import Derived.OwnWalk
import Derived.Laws.BytesArg
import Derived.Laws.MakeOwn
import Derived.Laws.OwnMore
import Derived.Deep.OwnRows
import Derived.Tactics
import Derived.Lib.ConvBytes
import Derived.Laws.Slices
import Derived.WalkKit
import Derived.KernelRfl
import Derived.RowKit3
import Derived.Deep.LoopGhost
import Derived.Deep.QuietTactic
import Derived.BigQuiet
import Derived.WideLaws
import Derived.Deep.DeepCutAuto
import Derived.Deep.CutBlock
import Derived.Deep.RegionHeld3
import Derived.Laws.Rows
import Derived.Lib.AppendStr
import Derived.ArgAppend
import Derived.Laws.IdiomCopy
import Derived.OrdersHeld
import Derived.Laws.BitsLemmas
import Derived.RowKit
import Derived.Test.YtadjadakncidgaaWWords
import Derived.Test.YtadjadakncidgaaWLast
import Derived.Test.YtadjadakncidgaaWTab
import Derived.Test.YtadjadakncidgaaWFour
import Derived.Test.YtadjadakncidgaaWQPut
import Derived.Test.YtadjadakncidgaaWApart
import Derived.Test.YtadjadakncidgaaWArr
import Derived.Test.YtadjadakncidgaaWZeros
import Derived.Test.YtadjadakncidgaaWFoot
import Derived.Test.YtadjadakncidgaaWKept
import Derived.Test.YtadjadakncidgaaWShare
import Derived.Test.YtadjadakncidgaaWN
import Derived.Test.YtadjadakncidgaaWFootNe
import Derived.Test.YtadjadakncidgaaWAt
import Derived.Test.YtadjadakncidgaaWEqStruct
import Derived.Test.YtadjadakncidgaaWRepsOne
import Derived.Test.YtadjadakncidgaaWInv
import Derived.Test.YtadjadakncidgaaWInvWords
import Derived.Test.YtadjadakncidgaaWGuard
import Derived.Test.YtadjadakncidgaaWNEv
import Derived.Test.YtadjadakncidgaaWMore
import Derived.Test.YtadjadakncidgaaHandB
namespace Go.Proofs.Ytadjadakncidgaa.R
open Go.RowKit Go.Proofs.Ytadjadakncidgaa.Hand Go.Proofs.YtadjadakncidgaaW.PrintWords Go.Proofs.YtadjadakncidgaaW.PrintLast Go.Proofs.YtadjadakncidgaaW.PrintMore
attribute [local go_sem] max2_int min2_int max_two min_two max_three min_three max_four min_four   -- for this text's walks alone
set_option linter.unusedVariables false
set_option linter.unusedSimpArgs false



def errW : Option Int → Value
  | none => .nilIface
  | some c => .iface 0 (.int .i64 c)
theorem errW_none : errW none = .nilIface := rfl
theorem errW_some (c : Int) : errW (some c) = .iface 0 (.int .i64 c) := rfl

theorem info4 : (Try.prog.info? 4).map (fun i => (i.zero, i.size, i.bytes)) = some (some (.bool false), 1, 1) := by kernel_rfl
-- the values' own types

end Go.Proofs.Ytadjadakncidgaa.R
