/- BergTargets: for any three numbers of 64 bits how much should be out, how much is shown and how often are the document's, or refused; no condition. -/
import Derived.Test.YthnmpnilcdnimaaPl26
namespace Go.Proofs.Ythnmpnilcdnimaa.Pure
open Go Go.RowKit Go.Proofs.Ythnmpnilcdnimaa.B Go.Proofs.Ythnmpnilcdnimaa.PL
theorem BergTargets : spigotlaw26_BergTargets.Pure := by
  intro q s f _ _ _
  refine ⟨30, ?_⟩
  unfold spigotlaw26_BergTargets.f
  rw [awake26 30 (by omega), Option.bind_some, if_pos rfl]
  have h3 : ∃ p r, berg_Target.f 30 q s f = some p ∧ spigotref26_Target.f 30 q s f = some p ∧ berg_Shown.f 30 q s f = some r ∧ spigotref26_Shown.f 30 q s f = some r := by
    by_cases h : ok3 q s f
    · exact ⟨_, _, target_ok q s f h 30 (by omega), rtarget26_ok q s f h 30 (by omega), shown_ok q s f h 30 (by omega), rshown_ok q s f h 30 (by omega)⟩
    · exact ⟨_, _, target_no q s f h 30 (by omega), rtarget26_no q s f h 30 (by omega), shown_no q s f h 30 (by omega), rshown_no q s f h 30 (by omega)⟩
  have h2 : ∃ u, berg_Slices.f 30 q s = some u ∧ spigotref26_Slices.f 30 q s = some u := by
    by_cases h : ok2 q s
    · exact ⟨_, slices_ok q s h 30 (by omega), rslices_ok q s h 30 (by omega)⟩
    · exact ⟨_, slices_no q s h 30 (by omega), rslices_no q s h 30 (by omega)⟩
  obtain ⟨p, r, e1, e2, e3, e4⟩ := h3
  obtain ⟨u, e5, e6⟩ := h2
  rw [e1, e2, e3, e4, e5, e6]
  simp
end Go.Proofs.Ythnmpnilcdnimaa.Pure
