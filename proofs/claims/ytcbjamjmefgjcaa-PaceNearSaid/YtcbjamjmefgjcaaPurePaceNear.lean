/- PaceNear: a goal is from its target to less than a lot above it, and no more than all; it is on the lot, or all; no condition. -/
import Derived.Test.YtcbjamjmefgjcaaPl24
import Derived.Test.YtcbjamjmefgjcaaUx11
set_option linter.unusedVariables false
namespace Go.Proofs.Ytcbjamjmefgjcaa.Pure
open Go Go.RowKit Go.Proofs.Ytcbjamjmefgjcaa.U Go.Proofs.Ytcbjamjmefgjcaa.PL Go.Proofs.Ytcbjamjmefgjcaa.Hand Go.Proofs.Ytcbjamjmefgjcaa.RL Go.Proofs.YtcbjamjmefgjcaaW.PrintWords Go.Proofs.YtcbjamjmefgjcaaW.PrintMore
theorem PaceNear : spigotlaw24_PaceNear.Pure := by
  intro t l q _ hl _
  have hl := in64_wf hl
  unfold in64 at hl
  refine ⟨2, ?_⟩
  unfold spigotlaw24_PaceNear.f
  rw [awake24 2 (by omega), Option.bind_some, if_pos rfl, goal_is t l q hl 2 (by omega), Option.bind_some]
  unfold goalS
  by_cases h : 1 ≤ l ∧ (0 ≤ q ∧ q ≤ 1099511627776) ∧ 0 ≤ t ∧ t ≤ q
  · rw [if_pos h]
    have m0 : 0 ≤ t % l := Int.emod_nonneg _ (by omega)
    have m1 : t % l < l := Int.emod_lt_of_pos _ (by omega)
    have hon : (if t % l = 0 then t else t - t % l + l) % l = 0 := by
      by_cases hz : t % l = 0
      · rw [if_pos hz]; exact hz
      · rw [if_neg hz, Int.add_emod_right, ← gdiv_mul]; exact Int.mul_emod_left _ _
    have hb : t ≤ (if t % l = 0 then t else t - t % l + l) ∧ (if t % l = 0 then t else t - t % l + l) - t < l := by
      split <;> omega
    generalize (if t % l = 0 then t else t - t % l + l) = c at *
    by_cases h4 : c > q
    · rw [if_pos h4, if_pos rfl]
      show (if q ≥ t then _ else _) = _
      rw [if_pos (by omega), w64q (n := q - t) (by omega) (by omega), if_pos (by omega), if_pos (by omega), if_pos rfl]
    · rw [if_neg h4, if_pos rfl]
      show (if c ≥ t then _ else _) = _
      rw [if_pos (by omega), w64q (n := c - t) (by omega) (by omega), if_pos (by omega), if_pos (by omega)]
      by_cases h5 : c = q
      · rw [if_pos h5]
      · rw [if_neg h5, if_neg (by omega), Int.tmod_eq_emod_of_nonneg (by omega), hon]; rfl
  · rw [if_neg h]; rfl
end Go.Proofs.Ytcbjamjmefgjcaa.Pure
