-- written by mp.py (my program over the kit's print)
import Derived.Test.YthnmpnilcdnimaaAx0
import Derived.Test.YthnmpnilcdnimaaAx1
namespace Go.Proofs.Ythnmpnilcdnimaa.A
open Go.RowKit Go.Proofs.Ythnmpnilcdnimaa.R Go.Proofs.YthnmpnilcdnimaaW.PrintWords Go.Proofs.YthnmpnilcdnimaaW.PrintLast Go.Proofs.YthnmpnilcdnimaaW.PrintMore
attribute [local go_sem] max2_int min2_int max_two min_two max_three min_three max_four min_four   -- for this text's walks alone
set_option linter.unusedVariables false
set_option linter.unusedSimpArgs false

end Go.Proofs.Ythnmpnilcdnimaa.A
