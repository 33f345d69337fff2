/- GrainSteps: any two numbers of 64 bits are on a step, or go down or up to the next one on it, or are refused, as the document says; no condition. -/
import Derived.Test.YthnmpnilcdnimaaPl02
import Derived.Test.YthnmpnilcdnimaaGx6
set_option linter.unusedVariables false
namespace Go.Proofs.Ythnmpnilcdnimaa.Pure
open Go Go.RowKit Go.Proofs.Ythnmpnilcdnimaa.G Go.Proofs.Ythnmpnilcdnimaa.PL Go.Proofs.Ythnmpnilcdnimaa.Hand Go.Proofs.YthnmpnilcdnimaaW.PrintWords Go.Proofs.YthnmpnilcdnimaaW.PrintMore
theorem GrainSteps : spigotlaw02_GrainSteps.Pure := by
  intro n s hn hs
  have hn := in64_wf hn
  have hs := in64_wf hs
  refine ⟨2, ?_⟩
  unfold spigotlaw02_GrainSteps.f
  rw [awake02 2 (by omega), Option.bind_some, if_pos rfl, floor_is n s hn hs, Option.bind_some, ceil_is n s hn hs, Option.bind_some, rfloor_is n s hn hs, Option.bind_some, rceil_is n s hn hs 2 (by omega), Option.bind_some]
  by_cases h : s ≥ 1
  · have e : mx s 1 = s := by unfold mx; split <;> omega
    rw [if_pos h, e, ron_is n s hn hs, Option.bind_some, if_pos rfl, if_pos rfl, if_pos rfl, if_pos rfl, on_is, Option.bind_some]
    simp
  · rw [if_neg h, if_pos rfl, if_pos rfl, if_pos rfl, if_pos rfl, on_is, Option.bind_some]
    have : onS n s = false := by unfold onS; rw [decide_eq_false_iff_not]; omega
    rw [this]; rfl
end Go.Proofs.Ythnmpnilcdnimaa.Pure
