/- GrainGood: of any side, limit, price and upper end (any four numbers of 64 bits) a price is the limit or better just if the document says so, and the worst one is the document's; no condition. -/
import Derived.Test.YthnmpnilcdnimaaPl02
import Derived.Test.YthnmpnilcdnimaaGx13
set_option linter.unusedVariables false
set_option linter.unusedSimpArgs false
namespace Go.Proofs.Ythnmpnilcdnimaa.Walk
open Go Go.RowKit Go.Proofs.Ythnmpnilcdnimaa.G Go.Proofs.Ythnmpnilcdnimaa.PL Go.Proofs.Ythnmpnilcdnimaa.Hand
theorem goods (s l p : Int) : grain_Good.f s l p = some (decide (s = 1 ∧ p ≤ l ∨ s = 2 ∧ l ≤ p)) := by
  unfold grain_Good.f
  by_cases h1 : s = 1
  · rw [if_pos h1]; congr 1; rw [decide_eq_decide]; omega
  · by_cases h2 : s = 2
    · rw [if_neg h1, if_pos h2]; congr 1; rw [decide_eq_decide]; omega
    · rw [if_neg h1, if_neg h2]; congr 1; rw [eq_comm, decide_eq_false_iff_not]; omega
theorem rgoods (s l p : Int) : spigotref02_Good.f s l p = some (decide (s = 1 ∧ p ≤ l ∨ s = 2 ∧ l ≤ p)) := by
  unfold spigotref02_Good.f
  by_cases h1 : s = 1
  · by_cases h3 : p ≤ l
    · rw [if_pos h1, if_pos h3]; congr 1; rw [eq_comm, decide_eq_true_eq]; omega
    · rw [if_pos h1, if_neg h3, if_neg (by omega)]; congr 1; rw [eq_comm, decide_eq_false_iff_not]; omega
  · by_cases h2 : s = 2
    · rw [if_neg h1, if_pos h2]; congr 1; rw [decide_eq_decide]; omega
    · rw [if_neg h1, if_neg h2]; congr 1; rw [eq_comm, decide_eq_false_iff_not]; omega
theorem good_pure (s l p h : Int) : spigotlaw02_GrainGood.f 1 s l p h = some true := by
  unfold spigotlaw02_GrainGood.f
  rw [awake02 1 (by omega), Option.bind_some, if_pos rfl, goods, Option.bind_some, rgoods, Option.bind_some, if_pos (by simp)]
  unfold grain_Worst.f spigotref02_Worst.f
  by_cases h2 : s = 2
  · simp [h2]
  · simp [h2]
theorem GrainGood (a0_0 : Int) (a0_1 : Int) (a0_2 : Int) (a0_3 : Int) (W : World) (w0_0 : (Lit.int .i64 a0_0).wf = true) (w0_1 : (Lit.int .i64 a0_1).wf = true) (w0_2 : (Lit.int .i64 a0_2).wf = true) (w0_3 : (Lit.int .i64 a0_3).wf = true) :
    Calls Try.prog 13 #[.agg #[.int .i64 a0_0, .int .i64 a0_1, .int .i64 a0_2, .int .i64 a0_3]] W fun e W' => e = .returned (.bool true) ∧ Below W.heap.size W W' :=
  spigotlaw02_GrainGood.calls 1 a0_0 a0_1 a0_2 a0_3 true W (good_pure a0_0 a0_1 a0_2 a0_3)
end Go.Proofs.Ythnmpnilcdnimaa.Walk
