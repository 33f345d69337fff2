/- CostRates: averages, costs in ten thousandths, and parts of a volume, of any three numbers of 64 bits, are the document's, or refused; no condition. -/
import Derived.Test.YtbkoahipcjknfaaPl35d
import Derived.Test.YtbkoahipcjknfaaCx11
set_option linter.unusedVariables false
namespace Go.Proofs.Ytbkoahipcjknfaa.Pure
open Go Go.RowKit Go.Proofs.Ytbkoahipcjknfaa.C Go.Proofs.Ytbkoahipcjknfaa.PL Go.Proofs.Ytbkoahipcjknfaa.Hand
theorem CostRates : spigotlaw35_CostRates.Pure := by
  intro n q p hn hq hp
  have hn := in64_wf hn
  refine ⟨2, ?_⟩
  unfold spigotlaw35_CostRates.f
  rw [awake35 2 (by omega), Option.bind_some, if_pos rfl, avg_is q n hn 2 (by omega), Option.bind_some, basis_is n q p hn 2 (by omega), Option.bind_some, cpart_is, Option.bind_some,
    ravg_is q n hn 2 (by omega), Option.bind_some, rbasis_is n q p hn 2 (by omega), Option.bind_some, rcpart_is, Option.bind_some]
  simp
end Go.Proofs.Ytbkoahipcjknfaa.Pure
