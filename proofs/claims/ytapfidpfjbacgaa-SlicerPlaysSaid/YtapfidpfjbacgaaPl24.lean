/- The laws of pace, plainly: goals, the chapter's examples. -/
import Derived.Test.YtapfidpfjbacgaaPace
import Derived.Test.YtapfidpfjbacgaaUx0
set_option linter.unusedVariables false
set_option linter.unusedSimpArgs false
namespace Go.Proofs.Ytapfidpfjbacgaa.PL
open Go Go.RowKit Go.Proofs.Ytapfidpfjbacgaa.U Go.Proofs.Ytapfidpfjbacgaa.Hand Go.Proofs.Ytapfidpfjbacgaa.RL Go.Proofs.YtapfidpfjbacgaaW.PrintWords Go.Proofs.YtapfidpfjbacgaaW.PrintMore
theorem gwithin_is (a b c : Int) : U.pace_within.f a b c = some (decide (b ≤ a ∧ a ≤ c)) := by
  unfold U.pace_within.f
  by_cases h : a ≥ b
  · rw [if_pos h]; exact congrArg some (decide_eq_decide.2 (by omega))
  · rw [if_neg h, decide_eq_false (by omega)]
theorem gdiv_mul (n s : Int) : n / s * s = n - n % s := by
  have := Int.mul_ediv_add_emod n s
  rw [Int.mul_comm] at this; omega
/-- A target, up to a lot. -/
def goalS (t l q : Int) : Int × Int := if 1 ≤ l ∧ (0 ≤ q ∧ q ≤ 1099511627776) ∧ 0 ≤ t ∧ t ≤ q then (if (if t % l = 0 then t else t - t % l + l) > q then (q, 0) else (if t % l = 0 then t else t - t % l + l, 0)) else (0, 2)
theorem goal_is (t l q : Int) (hl : in64 l) (k : Nat) (hk : 1 ≤ k) : pace_Goal.f k t l q = some (goalS t l q) := by
  obtain ⟨k, rfl⟩ : ∃ m, k = m + 1 := ⟨k - 1, by omega⟩
  unfold pace_Goal.f goalS
  by_cases h1 : l < 1
  · rw [if_pos h1, if_neg (by omega)]; simp [pace_Goal.j0]
  rw [if_neg h1, gwithin_is, Option.bind_some]
  by_cases h2 : 0 ≤ q ∧ q ≤ 1099511627776
  · rw [decide_eq_true h2, if_pos rfl, gwithin_is, Option.bind_some]
    by_cases h3 : 0 ≤ t ∧ t ≤ q
    · rw [decide_eq_true h3, if_pos ⟨by omega, h2, h3⟩]
      simp only [pace_Goal.j0, Bool.not_true, Bool.false_eq_true, if_false]
      have hg : grain_Ceil.f t l = some (tell ((if t % l = 0 then t / l else t / l + 1) * l)) := by
        unfold grain_Ceil.f
        rw [if_pos ⟨by unfold in64; omega, hl⟩, if_neg (show ¬ (l < 1 ∨ t < 0) by omega), cei_pos (by omega) h3.1]
      rw [hg, Option.bind_some]
      have e : (if t % l = 0 then t / l else t / l + 1) * l = (if t % l = 0 then t else t - t % l + l) := by
        by_cases hz : t % l = 0
        · rw [if_pos hz, if_pos hz, gdiv_mul, hz]; omega
        · rw [if_neg hz, if_neg hz, Int.add_mul, gdiv_mul]; omega
      rw [e]
      generalize (if t % l = 0 then t else t - t % l + l) = c at *
      by_cases hc : in64 c
      · rw [tell_in hc, if_pos rfl]
        by_cases h4 : c > q
        · rw [if_pos h4, if_pos h4]
        · rw [if_neg h4, if_neg h4]
      · have hb : 0 ≤ c := by
          rw [← e]
          have h5 : 0 ≤ t / l := Int.ediv_nonneg h3.1 (by omega)
          by_cases hz : t % l = 0
          · rw [if_pos hz]; exact Int.mul_nonneg h5 (by omega)
          · rw [if_neg hz]; exact Int.mul_nonneg (by omega) (by omega)
        rw [tell_out hc, if_neg (by decide), if_pos (by unfold in64 at hc; omega)]
    · rw [decide_eq_false h3, if_neg (fun h => h3 h.2.2)]; simp [pace_Goal.j0]
  · rw [decide_eq_false h2, if_neg (by decide), if_neg (fun h => h2 h.2.1)]; simp [pace_Goal.j0]
theorem ex_twap : twapW 10 0 4 1 = (2, 0) := by decide
theorem ex_vwap : vwapW 10 [1, 3] 0 8 6 = (6, 0) := by decide
theorem ex_goal : goalS 2 5 10 = (5, 0) := by decide
end Go.Proofs.Ytapfidpfjbacgaa.PL
