/- Sums and differences, and what is below, as plain functions of numbers. -/
import Derived.Test.YtknmojjccfhchaaHandC
set_option linter.unusedVariables false
set_option linter.unusedSimpArgs false
namespace Go.Proofs.Ytknmojjccfhchaa.Hand
open Go Go.RowKit Go.Proofs.YtknmojjccfhchaaW.PrintWords Go.Proofs.YtknmojjccfhchaaW.PrintMore Go.Proofs.Ytknmojjccfhchaa.RL

end Go.Proofs.Ytknmojjccfhchaa.Hand
