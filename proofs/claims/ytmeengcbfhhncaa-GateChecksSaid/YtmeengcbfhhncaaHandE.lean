/- Sums and differences, and what is below, as plain functions of numbers. -/
import Derived.Test.YtmeengcbfhhncaaHandC
set_option linter.unusedVariables false
set_option linter.unusedSimpArgs false
namespace Go.Proofs.Ytmeengcbfhhncaa.Hand
open Go Go.RowKit Go.Proofs.YtmeengcbfhhncaaW.PrintWords Go.Proofs.YtmeengcbfhhncaaW.PrintMore Go.Proofs.Ytmeengcbfhhncaa.RL

end Go.Proofs.Ytmeengcbfhhncaa.Hand
