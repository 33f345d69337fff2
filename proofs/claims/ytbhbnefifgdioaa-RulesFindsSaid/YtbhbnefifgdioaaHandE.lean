/- Sums and differences, and what is below, as plain functions of numbers. -/
import Derived.Test.YtbhbnefifgdioaaHandC
set_option linter.unusedVariables false
set_option linter.unusedSimpArgs false
namespace Go.Proofs.Ytbhbnefifgdioaa.Hand
open Go Go.RowKit Go.Proofs.YtbhbnefifgdioaaW.PrintWords Go.Proofs.YtbhbnefifgdioaaW.PrintMore Go.Proofs.Ytbhbnefifgdioaa.RL

end Go.Proofs.Ytbhbnefifgdioaa.Hand
