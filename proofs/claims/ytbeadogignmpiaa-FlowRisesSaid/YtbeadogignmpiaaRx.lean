-- written by mp.py (my program over the kit's print)
import Derived.Test.YtbeadogignmpiaaRx0
import Derived.Test.YtbeadogignmpiaaRx1
import Derived.Test.YtbeadogignmpiaaRx2
import Derived.Test.YtbeadogignmpiaaRx3
import Derived.Test.YtbeadogignmpiaaRx4
import Derived.Test.YtbeadogignmpiaaRx5
import Derived.Test.YtbeadogignmpiaaRx6
import Derived.Test.YtbeadogignmpiaaRx7
import Derived.Test.YtbeadogignmpiaaRx8
import Derived.Test.YtbeadogignmpiaaRx9
namespace Go.Proofs.Ytbeadogignmpiaa.R
open Go.RowKit Go.Proofs.Ytbeadogignmpiaa.Hand Go.Proofs.YtbeadogignmpiaaW.PrintWords Go.Proofs.YtbeadogignmpiaaW.PrintLast Go.Proofs.YtbeadogignmpiaaW.PrintMore
attribute [local go_sem] max2_int min2_int max_two min_two max_three min_three max_four min_four   -- for this text's walks alone
set_option linter.unusedVariables false
set_option linter.unusedSimpArgs false

end Go.Proofs.Ytbeadogignmpiaa.R
