/- PaceGoals: a goal is the document's of any target and lot, or refused; no condition. -/
import Derived.Test.YtcbjamjmefgjcaaPl24
import Derived.Test.YtcbjamjmefgjcaaUx3
import Derived.Test.YtcbjamjmefgjcaaUx2
set_option linter.unusedVariables false
namespace Go.Proofs.Ytcbjamjmefgjcaa.Pure
open Go Go.RowKit Go.Proofs.Ytcbjamjmefgjcaa.U Go.Proofs.Ytcbjamjmefgjcaa.PL Go.Proofs.Ytcbjamjmefgjcaa.Hand Go.Proofs.Ytcbjamjmefgjcaa.RL Go.Proofs.YtcbjamjmefgjcaaW.PrintWords Go.Proofs.YtcbjamjmefgjcaaW.PrintMore
theorem rin24g (a b c : Int) : spigotref24_in.f a b c = some (decide (b ≤ a ∧ a ≤ c)) := by
  unfold spigotref24_in.f
  by_cases h : a ≥ b
  · rw [if_pos h]; exact congrArg some (decide_eq_decide.2 (by omega))
  · rw [if_neg h, decide_eq_false (by omega)]
theorem rgoal_is (t l q : Int) (hl : in64 l) (k : Nat) (hk : 1 ≤ k) : spigotref24_Goal.f k t l q = some (goalS t l q) := by
  obtain ⟨k, rfl⟩ : ∃ m, k = m + 1 := ⟨k - 1, by omega⟩
  unfold spigotref24_Goal.f goalS
  by_cases h1 : l < 1
  · rw [if_pos h1, if_neg (by omega)]; simp [spigotref24_Goal.j0]
  rw [if_neg h1, rin24g, Option.bind_some]
  by_cases h2 : 0 ≤ q ∧ q ≤ 1099511627776
  · rw [decide_eq_true h2, if_pos rfl, rin24g, Option.bind_some]
    by_cases h3 : 0 ≤ t ∧ t ≤ q
    · rw [decide_eq_true h3, if_pos ⟨by omega, h2, h3⟩]
      simp only [spigotref24_Goal.j0, Bool.not_true, Bool.false_eq_true, if_false]
      rw [if_neg (by omega), Int.tmod_eq_emod_of_nonneg h3.1]
      have m0 : 0 ≤ t % l := Int.emod_nonneg _ (by omega)
      have m1 : t % l < l := Int.emod_lt_of_pos _ (by omega)
      have m2 : t % l ≤ t := by
        have := gdiv_mul t l
        have h5 : 0 ≤ t / l * l := Int.mul_nonneg (Int.ediv_nonneg h3.1 (by omega)) (by omega)
        omega
      generalize t % l = m at *
      unfold in64 at hl
      by_cases hz : m = 0
      · rw [if_pos hz, if_pos hz, if_neg (by omega)]
      · rw [if_neg hz, if_neg hz, w64q (n := l - m) (by omega) (by omega), w64q (n := q - t) (by omega) (by omega), w64q (n := t - m) (by omega) (by omega)]
        by_cases h4 : l - m > q - t
        · rw [if_pos h4, if_pos (by omega)]
        · rw [if_neg h4, if_neg (by omega), w64q (n := t - m + l) (by omega) (by omega)]
    · rw [decide_eq_false h3, if_neg (fun h => h3 h.2.2)]; simp [spigotref24_Goal.j0]
  · rw [decide_eq_false h2, if_neg (by decide), if_neg (fun h => h2 h.2.1)]; simp [spigotref24_Goal.j0]
theorem PaceGoals : spigotlaw24_PaceGoals.Pure := by
  intro t l q _ hl _
  refine ⟨2, ?_⟩
  unfold spigotlaw24_PaceGoals.f
  rw [awake24 2 (by omega), Option.bind_some, if_pos rfl, goal_is t l q (in64_wf hl) 2 (by omega), Option.bind_some, rgoal_is t l q (in64_wf hl) 2 (by omega), Option.bind_some, if_pos rfl]; simp
end Go.Proofs.Ytcbjamjmefgjcaa.Pure
