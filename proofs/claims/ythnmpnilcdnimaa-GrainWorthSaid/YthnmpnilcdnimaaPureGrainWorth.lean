/- GrainWorth: what any quantity is worth at any price (any two numbers of 64 bits) is exact, or refused; no condition. -/
import Derived.Test.YthnmpnilcdnimaaPl02
import Derived.Test.YthnmpnilcdnimaaGx12
set_option linter.unusedVariables false
namespace Go.Proofs.Ythnmpnilcdnimaa.Pure
open Go Go.RowKit Go.Proofs.Ythnmpnilcdnimaa.G Go.Proofs.Ythnmpnilcdnimaa.PL Go.Proofs.Ythnmpnilcdnimaa.Hand
theorem GrainWorth : spigotlaw02_GrainWorth.Pure := by
  intro q p _ _
  refine ⟨2, ?_⟩
  unfold spigotlaw02_GrainWorth.f
  rw [awake02 2 (by omega), Option.bind_some, if_pos rfl, worth_is, Option.bind_some, rworth_is q p 2 (by omega), Option.bind_some, if_pos rfl]
  simp
end Go.Proofs.Ythnmpnilcdnimaa.Pure
