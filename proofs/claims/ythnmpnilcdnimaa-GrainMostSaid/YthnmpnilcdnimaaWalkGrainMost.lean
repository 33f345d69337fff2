/- GrainMost: a fill at the limit or better, and not above the upper end, is worth no more than the worst price says (any five numbers of 64 bits); no condition. -/
import Derived.Test.YthnmpnilcdnimaaPl02
import Derived.Test.YthnmpnilcdnimaaWalkGrainGood
import Derived.Test.YthnmpnilcdnimaaGx14
set_option linter.unusedVariables false
set_option linter.unusedSimpArgs false
namespace Go.Proofs.Ythnmpnilcdnimaa.Walk
open Go Go.RowKit Go.Proofs.Ythnmpnilcdnimaa.G Go.Proofs.Ythnmpnilcdnimaa.PL Go.Proofs.Ythnmpnilcdnimaa.Hand Go.Proofs.Ythnmpnilcdnimaa.RL
theorem worth_no {q p : Int} (h : (worthS q p).2 ≠ 0) : (worthS q p).1 = 0 := by
  unfold worthS at h ⊢
  split
  · rename_i c
    rw [if_pos c] at h
    by_cases hi : in64 (q * p)
    · rw [tell_in hi] at h; simp at h
    · rw [tell_out hi]
  · rfl
theorem worth_yes {q p : Int} (h : (worthS q p).2 = 0) : (0 ≤ q ∧ q ≤ 1099511627776) ∧ (0 ≤ p ∧ p ≤ 1099511627776) ∧ in64 (q * p) ∧ worthS q p = (q * p, 0) := by
  unfold worthS at h ⊢
  split
  · rename_i c
    rw [if_pos c] at h
    by_cases hi : in64 (q * p)
    · exact ⟨c.1, c.2, hi, tell_in hi⟩
    · rw [tell_out hi] at h; simp at h
  · rename_i c
    rw [if_neg c] at h; simp at h
theorem most_pure (s l p h q : Int) : spigotlaw02_GrainMost.f 1 s l p h q = some true := by
  have skip : spigotlaw02_GrainMost.j0 1 q true s l p h = some true := by simp [spigotlaw02_GrainMost.j0]
  unfold spigotlaw02_GrainMost.f
  rw [awake02 1 (by omega), Option.bind_some, if_pos rfl, goods, Option.bind_some]
  by_cases hg : s = 1 ∧ p ≤ l ∨ s = 2 ∧ l ≤ p
  · rw [if_pos (by simpa using hg)]
    by_cases h1 : p > h
    · rw [if_pos h1]; exact skip
    · rw [if_neg h1]
      by_cases h2 : l > h
      · rw [decide_eq_true h2]; exact skip
      · rw [decide_eq_false h2]
        simp only [spigotlaw02_GrainMost.j0, Bool.false_eq_true, if_false]
        have hw : ∃ t, grain_Worst.f s l h = some t ∧ p ≤ t := by
          unfold grain_Worst.f
          by_cases hs : s = 2
          · exact ⟨h, by rw [if_pos hs], by omega⟩
          · exact ⟨l, by rw [if_neg hs], by omega⟩
        obtain ⟨t, ht, hpt⟩ := hw
        rw [ht, Option.bind_some, worth_is, Option.bind_some]
        by_cases h0 : (worthS q t).2 = 0
        · obtain ⟨hq, hp, hi, e⟩ := worth_yes h0
          rw [if_pos h0, worth_is, Option.bind_some, e]
          by_cases hp0 : p < 0
          · have e2 : worthS q p = (0, 2) := by unfold worthS; rw [if_neg (by omega)]
            rw [e2, if_pos rfl, if_pos hp0]
          · have hm : q * p ≤ q * t := Int.mul_le_mul_of_nonneg_left hpt hq.1
            have hm0 : 0 ≤ q * p := Int.mul_nonneg hq.1 (by omega)
            have e2 : worthS q p = (q * p, 0) := by unfold worthS; rw [if_pos ⟨hq, by omega⟩]; exact tell_in (by unfold in64 at hi ⊢; omega)
            rw [e2, if_neg (by simp), if_pos rfl]
            simpa using hm
        · rw [if_neg h0, worth_no h0]; rfl
  · rw [if_neg (by simpa using hg)]; exact skip
theorem GrainMost (a0_0 : Int) (a0_1 : Int) (a0_2 : Int) (a0_3 : Int) (a1 : Int) (W : World) (w0_0 : (Lit.int .i64 a0_0).wf = true) (w0_1 : (Lit.int .i64 a0_1).wf = true) (w0_2 : (Lit.int .i64 a0_2).wf = true) (w0_3 : (Lit.int .i64 a0_3).wf = true) (w1 : (Lit.int .i64 a1).wf = true) :
    Calls Try.prog 14 #[.agg #[.int .i64 a0_0, .int .i64 a0_1, .int .i64 a0_2, .int .i64 a0_3], .int .i64 a1] W fun e W' => e = .returned (.bool true) ∧ Below W.heap.size W W' :=
  spigotlaw02_GrainMost.calls 1 a0_0 a0_1 a0_2 a0_3 a1 true W (most_pure a0_0 a0_1 a0_2 a0_3 a1)
end Go.Proofs.Ythnmpnilcdnimaa.Walk
