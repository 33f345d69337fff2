/- How much of a volume should be ours, in plain numbers. -/
import Derived.Test.YtbeadogignmpiaaPl
import Derived.Test.YtbeadogignmpiaaFx
set_option linter.unusedVariables false
namespace Go.Proofs.Ytbeadogignmpiaa.PL
open Go Go.RowKit Go.Proofs.Ytbeadogignmpiaa.F Go.Proofs.Ytbeadogignmpiaa.Hand Go.Proofs.Ytbeadogignmpiaa.RL Go.Proofs.YtbeadogignmpiaaW.PrintWords Go.Proofs.YtbeadogignmpiaaW.PrintMore
/-- The target. -/
def tg (q r v : Int) : Int × Int := if (0 ≤ q ∧ q ≤ 1099511627776) ∧ (0 ≤ r ∧ r ≤ 10000) ∧ (0 ≤ v ∧ v ≤ 4611686018427387904) then (if v * r / 10000 > q then q else v * r / 10000, 0) else (0, 2)
theorem share_b {r v : Int} (hr : 0 ≤ r) (hr2 : r ≤ 10000) (hv : 0 ≤ v) (hv2 : v ≤ 4611686018427387904) : 0 ≤ v * r / 10000 ∧ v * r / 10000 ≤ v := by
  have h1 : 0 ≤ v * r := Int.mul_nonneg hv hr
  have h2 : v * r ≤ v * 10000 := Int.mul_le_mul_of_nonneg_left hr2 hv
  omega
theorem fr_share {r v : Int} (hr : 0 ≤ r) (hr2 : r ≤ 10000) (hv : 0 ≤ v) (hv2 : v ≤ 4611686018427387904) : fr v r 10000 false = (v * r / 10000, 0) := by
  have := share_b hr hr2 hv hv2
  unfold fr frac flo
  rw [if_neg (by omega)]
  simp only [Bool.false_eq_true, if_false]
  rw [if_neg (by omega), tell_in (by unfold in64; omega)]
theorem between_is (a b c : Int) : flow_between_int.f a b c = some (decide (b ≤ a ∧ a ≤ c)) := by
  unfold flow_between_int.f
  by_cases h : a ≥ b
  · rw [if_pos h]; congr 1; rw [decide_eq_decide]; omega
  · rw [if_neg h, decide_eq_false (by omega)]
theorem rin_is (a b c : Int) : spigotref25_in.f a b c = some (decide (b ≤ a ∧ a ≤ c)) := by
  unfold spigotref25_in.f
  by_cases h : a ≥ b
  · rw [if_pos h]; congr 1; rw [decide_eq_decide]; omega
  · rw [if_neg h, decide_eq_false (by omega)]
theorem target_is (q r v : Int) (k : Nat) (hk : 0 < k) : flow_Target.f k q r v = some (tg q r v) := by
  obtain ⟨k, rfl⟩ : ∃ m, k = m + 1 := ⟨k - 1, by omega⟩
  have hno : flow_Target.j0 (k + 1) q r v true = some (0, 2) := by simp [flow_Target.j0]
  unfold flow_Target.f tg
  simp only [between_is, Option.bind_some]
  by_cases h1 : 0 ≤ q ∧ q ≤ 1099511627776
  · rw [decide_eq_true h1, if_pos rfl]
    by_cases h2 : 0 ≤ r ∧ r ≤ 10000
    · rw [decide_eq_true h2, if_pos rfl]
      by_cases h3 : 0 ≤ v ∧ v ≤ 4611686018427387904
      · rw [decide_eq_true h3, if_pos ⟨h1, h2, h3⟩]
        simp only [flow_Target.j0, Bool.not_true, Bool.false_eq_true, if_false]
        rw [down_is v r 10000 (by unfold in64; omega) (by unfold in64; omega) (by decide), Option.bind_some, fr_share h2.1 h2.2 h3.1 h3.2, if_pos rfl]
        rfl
      · rw [decide_eq_false h3, if_neg (fun h => h3 h.2.2)]; exact hno
    · rw [decide_eq_false h2, if_neg (by simp), if_neg (fun h => h2 h.2.1)]; exact hno
  · rw [decide_eq_false h1, if_neg (by simp), if_neg (fun h => h1 h.1)]; exact hno
theorem rtarget_is (q r v : Int) (k : Nat) (hk : 0 < k) : spigotref25_Target.f k q r v = some (tg q r v) := by
  obtain ⟨k, rfl⟩ : ∃ m, k = m + 1 := ⟨k - 1, by omega⟩
  have hno : spigotref25_Target.j0 (k + 1) q r v true = some (0, 2) := by simp [spigotref25_Target.j0]
  unfold spigotref25_Target.f tg
  simp only [rin_is, Option.bind_some]
  by_cases h1 : 0 ≤ q ∧ q ≤ 1099511627776
  · rw [decide_eq_true h1, if_pos rfl]
    by_cases h2 : 0 ≤ r ∧ r ≤ 10000
    · rw [decide_eq_true h2, if_pos rfl]
      by_cases h3 : 0 ≤ v ∧ v ≤ 4611686018427387904
      · rw [decide_eq_true h3, if_pos ⟨h1, h2, h3⟩]
        simp only [spigotref25_Target.j0, Bool.not_true, Bool.false_eq_true, if_false]
        rw [fraction_is v r 10000 _ (by unfold in64; omega) (by unfold in64; omega) (by decide), Option.bind_some, fr_share h2.1 h2.2 h3.1 h3.2]
        simp only
        split <;> rfl
      · rw [decide_eq_false h3, if_neg (fun h => h3 h.2.2)]; exact hno
    · rw [decide_eq_false h2, if_neg (by simp), if_neg (fun h => h2 h.2.1)]; exact hno
  · rw [decide_eq_false h1, if_neg (by simp), if_neg (fun h => h1 h.1)]; exact hno
theorem awake25 (k : Nat) (hk : 0 < k) : spigotlaw25_awake.f k = some true := by
  unfold spigotlaw25_awake.f
  rw [target_is _ _ _ k hk, target_is _ _ _ k hk]
  decide
end Go.Proofs.Ytbeadogignmpiaa.PL
