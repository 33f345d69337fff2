/- FlowTargets: for any three numbers of 64 bits how much of a volume should be ours is the document's, or refused; no condition. -/
import Derived.Test.YtbeadogignmpiaaPl25
namespace Go.Proofs.Ytbeadogignmpiaa.Pure
open Go Go.RowKit Go.Proofs.Ytbeadogignmpiaa.F Go.Proofs.Ytbeadogignmpiaa.PL
theorem FlowTargets : spigotlaw25_FlowTargets.Pure := by
  intro q r v _ _ _
  refine ⟨1, ?_⟩
  unfold spigotlaw25_FlowTargets.f
  rw [awake25 1 (by omega), Option.bind_some, if_pos rfl, target_is q r v 1 (by omega), Option.bind_some, rtarget_is q r v 1 (by omega), Option.bind_some, if_pos rfl]
  simp
end Go.Proofs.Ytbeadogignmpiaa.Pure
