/- The examples of the chapter on checked numbers. -/
import Derived.Test.YtbeadogignmpiaaPl
set_option linter.unusedVariables false
namespace Go.Proofs.Ytbeadogignmpiaa.PL
open Go Go.RowKit Go.Proofs.Ytbeadogignmpiaa.P Go.Proofs.Ytbeadogignmpiaa.Hand Go.Proofs.Ytbeadogignmpiaa.RL Go.Proofs.YtbeadogignmpiaaW.PrintWords Go.Proofs.YtbeadogignmpiaaW.PrintMore
theorem awake01 : spigotlaw01_awake.f = some true := by
  unfold spigotlaw01_awake.f
  rw [add_is _ _ (by decide) (by decide), down_is _ _ _ (by decide) (by decide) (by decide), up_is _ _ _ (by decide) (by decide) (by decide)]
  decide
theorem told01 (p q : Int × Int) : spigotlaw01_told.f p.1 p.2 q.1 q.2 = some (decide (p = q)) := by
  unfold spigotlaw01_told.f
  obtain ⟨a, b⟩ := p
  obtain ⟨c, d⟩ := q
  by_cases h : a = c
  · subst h; rw [if_pos rfl]; congr 1; rw [Bool.eq_iff_iff]; simp
  · simp [h]
end Go.Proofs.Ytbeadogignmpiaa.PL
