/- Sums and differences, and what is below, as plain functions of numbers. -/
import Derived.Test.YtcbjamjmefgjcaaHandC
set_option linter.unusedVariables false
set_option linter.unusedSimpArgs false
namespace Go.Proofs.Ytcbjamjmefgjcaa.Hand
open Go Go.RowKit Go.Proofs.YtcbjamjmefgjcaaW.PrintWords Go.Proofs.YtcbjamjmefgjcaaW.PrintMore Go.Proofs.Ytcbjamjmefgjcaa.RL

end Go.Proofs.Ytcbjamjmefgjcaa.Hand
