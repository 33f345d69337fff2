/- Sums and differences, and what is below, as plain functions of numbers. -/
import Derived.Test.YtapfidpfjbacgaaHandC
set_option linter.unusedVariables false
set_option linter.unusedSimpArgs false
namespace Go.Proofs.Ytapfidpfjbacgaa.Hand
open Go Go.RowKit Go.Proofs.YtapfidpfjbacgaaW.PrintWords Go.Proofs.YtapfidpfjbacgaaW.PrintMore Go.Proofs.Ytapfidpfjbacgaa.RL

end Go.Proofs.Ytapfidpfjbacgaa.Hand
