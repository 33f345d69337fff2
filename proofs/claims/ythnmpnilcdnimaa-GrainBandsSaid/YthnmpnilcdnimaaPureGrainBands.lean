/- GrainBands: for any three numbers of 64 bits the band about a middle is the document's, or there is none; no condition. -/
import Derived.Test.YthnmpnilcdnimaaPl02
import Derived.Test.YthnmpnilcdnimaaGx8
set_option linter.unusedVariables false
namespace Go.Proofs.Ythnmpnilcdnimaa.Pure
open Go Go.RowKit Go.Proofs.Ythnmpnilcdnimaa.G Go.Proofs.Ythnmpnilcdnimaa.PL Go.Proofs.Ythnmpnilcdnimaa.Hand
theorem GrainBands : spigotlaw02_GrainBands.Pure := by
  intro m w t _ _ ht
  refine ⟨2, ?_⟩
  unfold spigotlaw02_GrainBands.f
  rw [awake02 2 (by omega), Option.bind_some, if_pos rfl, band_is m w t (in64_wf ht) 2 (by omega), Option.bind_some, rband_is m w t (in64_wf ht) 2 (by omega), Option.bind_some, if_pos rfl, if_pos rfl]
  simp
end Go.Proofs.Ythnmpnilcdnimaa.Pure
