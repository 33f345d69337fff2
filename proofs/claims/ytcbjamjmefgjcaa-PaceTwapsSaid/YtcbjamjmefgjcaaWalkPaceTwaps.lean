/- PaceTwaps: how much should be out evenly is the document's at any time, or refused; no condition. -/
import Derived.Test.YtcbjamjmefgjcaaPl24r
import Derived.Test.YtcbjamjmefgjcaaRowKit
import Derived.Test.YtcbjamjmefgjcaaUx2
set_option linter.unusedVariables false
namespace Go.Proofs.Ytcbjamjmefgjcaa.Walk
open Go Go.RowKit Go.Proofs.Ytcbjamjmefgjcaa.U Go.Proofs.Ytcbjamjmefgjcaa.PL Go.Proofs.Ytcbjamjmefgjcaa.Hand
theorem one_right : rightW [1] = true := by decide
theorem twap_one (q s e n : Int) : twapW q s e n = vwapW q [1] s e n := by
  unfold twapW vwapW
  by_cases c : rightP q s e n = 0
  · rw [if_pos c, if_pos c, if_pos one_right]
    obtain ⟨b0, b1, b2, b3, b4⟩ := rightP_open c
    by_cases h1 : n ≤ s
    · rw [if_pos h1, if_pos h1]
    · rw [if_neg h1, if_neg h1]
      by_cases h2 : e ≤ n
      · rw [if_pos h2, if_pos h2]
      · rw [if_neg h2, if_neg h2, (fr_cum b0.1 b0.2 (show 0 ≤ n - s by omega) (show n - s ≤ e - s by omega) (by omega)).1]
        unfold targetW
        rw [if_pos one_right, if_pos (by omega), if_pos b0]
        have hd : doneN [1] (n - s) (e - s) = n - s := by
          show 0 + 1 * clampG ((n - s) * ((1 : Nat) : Int) - ((0 : Nat) : Int) * (e - s)) (e - s) = n - s
          unfold clampG
          have e1 : (n - s) * ((1 : Nat) : Int) - ((0 : Nat) : Int) * (e - s) = n - s := by simp
          rw [e1, if_neg (by omega), if_pos (by omega)]; omega
        rw [hd]
        have e2 : ([1] : List Int).sum * (e - s) = e - s := by simp
        rw [e2]
  · rw [if_neg c, if_neg c]
theorem twaps_pure (q s e n : Int) : spigotlaw24_PaceTwaps.f 80 q s e n = some true := by
  unfold spigotlaw24_PaceTwaps.f pace_Twap.f spigotref24_Twap.f
  rw [awake24 80 (by omega), Option.bind_some, if_pos rfl, Option.bind_some, rvwap_is q [1] s e n 80 (by omega), Option.bind_some, Option.bind_some, twap_one, if_pos rfl]; simp
theorem PaceTwaps (a0 : Int) (a1_0 : Int) (a1_1 : Int) (a1_2 : Int) (W : World) (w0 : (Lit.int .i64 a0).wf = true) (w1_0 : (Lit.int .i64 a1_0).wf = true) (w1_1 : (Lit.int .i64 a1_1).wf = true) (w1_2 : (Lit.int .i64 a1_2).wf = true) :
    Calls Try.prog 3 #[.int .i64 a0, .agg #[.int .i64 a1_0, .int .i64 a1_1, .int .i64 a1_2]] W fun e W' => e = .returned (.bool true) ∧ Below W.heap.size W W' :=
  spigotlaw24_PaceTwaps.calls 80 a0 a1_0 a1_1 a1_2 true W (twaps_pure a0 a1_0 a1_1 a1_2)
end Go.Proofs.Ytcbjamjmefgjcaa.Walk
