/- FlowRises: for any three numbers of 64 bits what should be ours never falls as the market trades or the rate rises, is no more than all, and no more of the volume than the rate says; no condition. -/
import Derived.Test.YtbeadogignmpiaaPl25
set_option linter.unusedVariables false
namespace Go.Proofs.Ytbeadogignmpiaa.Pure
open Go Go.RowKit Go.Proofs.Ytbeadogignmpiaa.F Go.Proofs.Ytbeadogignmpiaa.PL Go.Proofs.Ytbeadogignmpiaa.Hand
theorem FlowRises : spigotlaw25_FlowRises.Pure := by
  intro q r v hq hr hv
  have hq := in64_wf hq
  refine ⟨2, ?_⟩
  have ht : spigotlaw25_FlowRises.j0 2 q r v true = some true := by simp [spigotlaw25_FlowRises.j0]
  unfold spigotlaw25_FlowRises.f
  rw [awake25 2 (by omega), Option.bind_some, if_pos rfl]
  by_cases h1 : r ≥ 10000
  · rw [if_pos h1]; exact ht
  rw [if_neg h1]
  by_cases h2 : r < 0
  · rw [if_pos h2]; exact ht
  rw [if_neg h2]
  by_cases h3 : v ≥ 4611686018427387904
  · rw [if_pos h3]; exact ht
  rw [if_neg h3]
  by_cases h4 : v < 0
  · rw [decide_eq_true h4]; exact ht
  rw [decide_eq_false h4]
  have e1 : Go.RowKit.wrap64 (r + 1) = r + 1 := by unfold Go.RowKit.wrap64; omega
  have e2 : Go.RowKit.wrap64 (v + 1) = v + 1 := by unfold Go.RowKit.wrap64; omega
  have hj : ∀ k, 0 < k → spigotlaw25_FlowRises.j0 (k + 1) q r v false = some true := by
    intro k hk
    simp only [spigotlaw25_FlowRises.j0, Bool.false_eq_true, if_false, e1, e2]
    clear e1 e2
    rw [target_is _ _ _ k hk, Option.bind_some, target_is _ _ _ k hk, Option.bind_some, target_is _ _ _ k hk, Option.bind_some]
    by_cases hq2 : 0 ≤ q ∧ q ≤ 1099511627776
    · have c1 : (0 ≤ q ∧ q ≤ 1099511627776) ∧ (0 ≤ r ∧ r ≤ 10000) ∧ (0 ≤ v ∧ v ≤ 4611686018427387904) := ⟨hq2, by omega, by omega⟩
      have c2 : (0 ≤ q ∧ q ≤ 1099511627776) ∧ (0 ≤ r + 1 ∧ r + 1 ≤ 10000) ∧ (0 ≤ v ∧ v ≤ 4611686018427387904) := ⟨hq2, by omega, by omega⟩
      have c3 : (0 ≤ q ∧ q ≤ 1099511627776) ∧ (0 ≤ r ∧ r ≤ 10000) ∧ (0 ≤ v + 1 ∧ v + 1 ≤ 4611686018427387904) := ⟨hq2, by omega, by omega⟩
      unfold tg
      rw [if_pos c1, if_pos c2, if_pos c3]
      clear c1 c2 c3
      have m1 : v * r ≤ v * (r + 1) := Int.mul_le_mul_of_nonneg_left (by omega) (by omega)
      have m2 : v * r ≤ (v + 1) * r := Int.mul_le_mul_of_nonneg_right (by omega) (by omega)
      have m0 : 0 ≤ v * r := Int.mul_nonneg (by omega) (by omega)
      generalize v * (r + 1) = y at *
      generalize (v + 1) * r = z at *
      simp only [if_true]
      have hx : in64 (if v * r / 10000 > q then q else v * r / 10000) := by unfold in64; split <;> omega
      rw [less_is v r _ 10000 (by unfold in64; omega) (by unfold in64; omega) hx (by decide)]
      rw [if_pos (by split <;> omega), if_pos (by split <;> split <;> omega), if_pos (by split <;> split <;> omega), if_pos (by split <;> omega), if_pos (by split <;> omega), Option.bind_some]
      rw [decide_eq_false (by split <;> omega)]
      rfl
    · have e : ∀ r v, tg q r v = (0, 2) := fun r v => if_neg (fun h => hq2 h.1)
      rw [e, e, e, if_neg (by decide), if_pos rfl, if_pos rfl]
      simp [Go.RowKit.wrap64]
  exact hj 1 (by omega)
end Go.Proofs.Ytbeadogignmpiaa.Pure
