/- Sums and differences, and what is below, as plain functions of numbers. -/
import Derived.Test.YtadjadakncidgaaHandC
set_option linter.unusedVariables false
set_option linter.unusedSimpArgs false
namespace Go.Proofs.Ytadjadakncidgaa.Hand
open Go Go.RowKit Go.Proofs.YtadjadakncidgaaW.PrintWords Go.Proofs.YtadjadakncidgaaW.PrintMore Go.Proofs.Ytadjadakncidgaa.RL

end Go.Proofs.Ytadjadakncidgaa.Hand
