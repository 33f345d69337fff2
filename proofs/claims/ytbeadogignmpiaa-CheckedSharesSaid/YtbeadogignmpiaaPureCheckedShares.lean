/- CheckedShares: for any three numbers of 64 bits a share of a whole is from nothing to all of it and never falls as the part grows; no condition. -/
import Derived.Test.YtbeadogignmpiaaPl01
namespace Go.Proofs.Ytbeadogignmpiaa.Pure
open Go Go.RowKit Go.Proofs.Ytbeadogignmpiaa.P Go.Proofs.Ytbeadogignmpiaa.Hand Go.Proofs.Ytbeadogignmpiaa.RL Go.Proofs.Ytbeadogignmpiaa.PL
theorem CheckedShares : spigotlaw01_CheckedShares.Pure := by
  intro a b c ha hb hc
  have ha := in64_wf ha
  have hb := in64_wf hb
  have hc := in64_wf hc
  refine ⟨1, ?_⟩
  unfold spigotlaw01_CheckedShares.f
  rw [awake01, Option.bind_some, if_pos rfl]
  have ht : spigotlaw01_CheckedShares.j0 1 a b c true = some true := by simp [spigotlaw01_CheckedShares.j0]
  by_cases h1 : a < 0
  · rw [if_pos h1, ht]
  rw [if_neg h1]
  by_cases h2 : b < 0
  · rw [if_pos h2, ht]
  rw [if_neg h2]
  by_cases h3 : c < 1
  · rw [if_pos h3, ht]
  rw [if_neg h3]
  by_cases h4 : b ≥ c
  · rw [decide_eq_true h4, ht]
  rw [decide_eq_false h4]
  have hb1 : in64 (b + 1) := by have := hc.2; unfold in64; omega
  have e : wrap64 (b + 1) = b + 1 := by have := hb1.1; have := hb1.2; unfold wrap64; omega
  simp only [spigotlaw01_CheckedShares.j0, Bool.false_eq_true, if_false, e]
  rw [down_is a b c ha hb hc, Option.bind_some, down_is a (b + 1) c ha hb1 hc, Option.bind_some]
  clear e
  have hc0 : ¬ c = 0 := by omega
  have hcn : ¬ c < 0 := by omega
  unfold fr frac flo
  simp only [if_neg hc0, if_neg hcn, Bool.false_eq_true, if_false]
  -- the two shares
  have q0 : 0 ≤ a * b / c := Int.ediv_nonneg (Int.mul_nonneg (by omega) (by omega)) (by omega)
  have hmul : a * b ≤ a * (b + 1) := Int.mul_le_mul_of_nonneg_left (by omega) (by omega)
  have q1 : a * b / c ≤ a * (b + 1) / c := Int.ediv_le_ediv (by omega) hmul
  have hmul2 : a * (b + 1) ≤ a * c := Int.mul_le_mul_of_nonneg_left (by omega) (by omega)
  have q2 : a * (b + 1) / c ≤ a := by
    have h := Int.ediv_le_ediv (show 0 < c by omega) hmul2
    rwa [Int.mul_ediv_cancel _ (by omega)] at h
  generalize a * b / c = x at *
  generalize a * (b + 1) / c = y at *
  have hx : in64 x := by have := ha.2; unfold in64; omega
  have hy : in64 y := by have := ha.2; unfold in64; omega
  rw [tell_in hx, tell_in hy]
  simp only [if_true]
  rw [if_pos q0, if_pos q1]
  simp [q2]
end Go.Proofs.Ytbeadogignmpiaa.Pure
