-- written by mp.py (my program over the kit's print)
import Derived.Test.YtbeadogignmpiaaFx0
import Derived.Test.YtbeadogignmpiaaFx1
namespace Go.Proofs.Ytbeadogignmpiaa.F
open Go.RowKit Go.Proofs.Ytbeadogignmpiaa.Hand Go.Proofs.YtbeadogignmpiaaW.PrintWords Go.Proofs.YtbeadogignmpiaaW.PrintLast Go.Proofs.YtbeadogignmpiaaW.PrintMore
attribute [local go_sem] max2_int min2_int max_two min_two max_three min_three max_four min_four   -- for this text's walks alone
set_option linter.unusedVariables false
set_option linter.unusedSimpArgs false

end Go.Proofs.Ytbeadogignmpiaa.F
