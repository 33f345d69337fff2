-- written by mp.py (my program over the kit's print)
import Derived.Test.YtmeengcbfhhncaaProg
import Derived.Below
import Derived.Deep.Draws
import Derived.Deep.AppendLies
import Derived.Maps.AppendAt
import Derived.OwnWalk
import Derived.Laws.BytesArg
import Derived.Laws.MakeOwn
import Derived.Laws.OwnMore
import Derived.Deep.OwnRows
import Derived.Tactics
import Derived.Lib.ConvBytes
import Derived.Laws.Slices
import Derived.WalkKit
import Derived.KernelRfl
import Derived.RowKit3
import Derived.Deep.LoopGhost
import Derived.Deep.QuietTactic
import Derived.BigQuiet
import Derived.WideLaws
import Derived.Deep.DeepCutAuto
import Derived.Deep.CutBlock
import Derived.Deep.RegionHeld3
import Derived.Laws.Rows
import Derived.Lib.AppendStr
import Derived.ArgAppend
import Derived.Laws.IdiomCopy
import Derived.OrdersHeld
import Derived.Laws.BitsLemmas
import Derived.RowKit
import Derived.Test.YtmeengcbfhhncaaWWords
import Derived.Test.YtmeengcbfhhncaaWLast
import Derived.Test.YtmeengcbfhhncaaWTab
import Derived.Test.YtmeengcbfhhncaaWFour
import Derived.Test.YtmeengcbfhhncaaWQPut
import Derived.Test.YtmeengcbfhhncaaWApart
import Derived.Test.YtmeengcbfhhncaaWArr
import Derived.Test.YtmeengcbfhhncaaWZeros
import Derived.Test.YtmeengcbfhhncaaWFoot
import Derived.Test.YtmeengcbfhhncaaWKept
import Derived.Test.YtmeengcbfhhncaaWShare
import Derived.Test.YtmeengcbfhhncaaWN
import Derived.Test.YtmeengcbfhhncaaWFootNe
import Derived.Test.YtmeengcbfhhncaaWAt
import Derived.Test.YtmeengcbfhhncaaWEqStruct
import Derived.Test.YtmeengcbfhhncaaWRepsOne
import Derived.Test.YtmeengcbfhhncaaWInv
import Derived.Test.YtmeengcbfhhncaaWInvWords
import Derived.Test.YtmeengcbfhhncaaWGuard
import Derived.Test.YtmeengcbfhhncaaWNEv
import Derived.Test.YtmeengcbfhhncaaWMore
import Derived.Test.YtmeengcbfhhncaaHandB
namespace Go.Proofs.Ytmeengcbfhhncaa.R
open Go.RowKit Go.Proofs.Ytmeengcbfhhncaa.Hand Go.Proofs.YtmeengcbfhhncaaW.PrintWords Go.Proofs.YtmeengcbfhhncaaW.PrintLast Go.Proofs.YtmeengcbfhhncaaW.PrintMore
attribute [local go_sem] max2_int min2_int max_two min_two max_three min_three max_four min_four   -- for this text's walks alone
set_option linter.unusedVariables false
set_option linter.unusedSimpArgs false



def errW : Option Int → Value
  | none => .nilIface
  | some c => .iface 0 (.int .i64 c)
theorem errW_none : errW none = .nilIface := rfl
theorem errW_some (c : Int) : errW (some c) = .iface 0 (.int .i64 c) := rfl

theorem info4 : (Try.prog.info? 4).map (fun i => (i.zero, i.size, i.bytes)) = some (some (.bool false), 1, 1) := by kernel_rfl
-- the values' own types

end Go.Proofs.Ytmeengcbfhhncaa.R
