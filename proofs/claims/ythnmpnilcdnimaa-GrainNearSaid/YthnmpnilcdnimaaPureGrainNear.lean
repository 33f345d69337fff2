/- GrainNear: for any two numbers of 64 bits, down and up are on the step, less than a step away, and what is on it stays; no condition. -/
import Derived.Test.YthnmpnilcdnimaaPl02
import Derived.Test.YthnmpnilcdnimaaGx9
set_option linter.unusedVariables false
set_option linter.unusedSimpArgs false
namespace Go.Proofs.Ythnmpnilcdnimaa.Pure
open Go Go.RowKit Go.Proofs.Ythnmpnilcdnimaa.G Go.Proofs.Ythnmpnilcdnimaa.PL Go.Proofs.Ythnmpnilcdnimaa.Hand Go.Proofs.Ythnmpnilcdnimaa.RL
namespace Near
theorem down_on (n s : Int) : (n - n % s) % s = 0 := by
  have hdm := Int.emod_add_mul_ediv n s
  rw [show n - n % s = s * (n / s) by omega]; exact Int.mul_emod_right _ _
theorem up_on (n s : Int) : (n - n % s + s) % s = 0 := by
  have hdm := Int.emod_add_mul_ediv n s
  rw [show n - n % s + s = s * (n / s + 1) by rw [Int.mul_add]; omega]; exact Int.mul_emod_right _ _
end Near
open Near in
theorem GrainNear : spigotlaw02_GrainNear.Pure := by
  intro n s hn hs
  have hn := in64_wf hn
  have hs := in64_wf hs
  refine ⟨2, ?_⟩
  have ht : spigotlaw02_GrainNear.j0 2 n s true = some true := by simp [spigotlaw02_GrainNear.j0]
  unfold spigotlaw02_GrainNear.f
  rw [awake02 2 (by omega), Option.bind_some, if_pos rfl]
  by_cases h1 : n < 0
  · rw [if_pos h1]; exact ht
  rw [if_neg h1]
  by_cases h2 : s < 1
  · rw [decide_eq_true h2]; exact ht
  rw [decide_eq_false h2]
  have b1 := hn.2; have b2 := hs.2
  have m0 := Int.emod_nonneg n (show s ≠ 0 by omega)
  have m1 := Int.emod_lt_of_pos n (show 0 < s by omega)
  have m2 : n % s ≤ n := by have := Int.emod_add_mul_ediv n s; have := Int.mul_nonneg (show 0 ≤ s by omega) (Int.ediv_nonneg (show 0 ≤ n by omega) (show 0 ≤ s by omega)); omega
  have d1 := down_on n s
  have d2 := up_on n s
  have hf : floorS n s = (n - n % s, 0) := by unfold floorS; rw [if_neg (by omega)]
  have hc : ceilS n s = tell (if n % s = 0 then n else n - n % s + s) := by unfold ceilS; rw [if_neg (by omega)]
  simp only [spigotlaw02_GrainNear.j0, Bool.false_eq_true, if_false]
  rw [floor_is n s hn hs, Option.bind_some, ceil_is n s hn hs, Option.bind_some, hf, hc]
  simp only [if_true]
  have o1 : onS (n - n % s) s = true := by unfold onS; rw [decide_eq_true_eq]; exact ⟨by omega, by omega, d1⟩
  rw [on_is, Option.bind_some, o1, if_pos rfl, if_neg (by omega), w64j (by omega) (by omega), if_neg (by omega), on_is, Option.bind_some]
  have o2 : (onS n s != (n - n % s == n)) = false := by
    rw [bne_eq_false_iff_eq]
    unfold onS
    rw [Bool.eq_iff_iff]; simp; omega
  rw [o2, if_neg (by simp)]
  by_cases hz : n % s = 0
  · have o3 : onS n s = true := by unfold onS; rw [decide_eq_true_eq]; exact ⟨by omega, by omega, hz⟩
    rw [if_pos hz, tell_in hn, if_neg (by simp), if_pos rfl, on_is, Option.bind_some, o3, if_pos rfl, if_pos (by omega), w64j (by omega) (by omega)]
    simp; omega
  · rw [if_neg hz]
    by_cases hi : in64 (n - n % s + s)
    · have o3 : onS (n - n % s + s) s = true := by unfold onS; rw [decide_eq_true_eq]; exact ⟨by omega, by omega, d2⟩
      rw [tell_in hi, if_neg (by simp), if_pos rfl]
      simp only
      rw [on_is, Option.bind_some, o3, if_pos rfl, if_pos (by omega), w64j (by omega) (by omega)]
      simp; omega
    · rw [tell_out hi, if_pos rfl]
end Go.Proofs.Ythnmpnilcdnimaa.Pure
