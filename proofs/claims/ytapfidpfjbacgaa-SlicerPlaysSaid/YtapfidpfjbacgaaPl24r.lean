/- How much should be out, by the document. -/
import Derived.Test.YtapfidpfjbacgaaPl03r
import Derived.Test.YtapfidpfjbacgaaPl24
import Derived.Test.YtapfidpfjbacgaaUx0
set_option linter.unusedVariables false
set_option linter.unusedSimpArgs false
namespace Go.Proofs.Ytapfidpfjbacgaa.PL
open Go Go.RowKit Go.Proofs.Ytapfidpfjbacgaa.U Go.Proofs.Ytapfidpfjbacgaa.Hand Go.Proofs.Ytapfidpfjbacgaa.RL Go.Proofs.YtapfidpfjbacgaaW.PrintWords Go.Proofs.YtapfidpfjbacgaaW.PrintMore
theorem rin24 (a b c : Int) : spigotref24_in.f a b c = some (decide (b ≤ a ∧ a ≤ c)) := by
  unfold spigotref24_in.f
  by_cases h : a ≥ b
  · rw [if_pos h]; exact congrArg some (decide_eq_decide.2 (by omega))
  · rw [if_neg h, decide_eq_false (by omega)]
theorem rright_is (q s e n : Int) (k : Nat) (hk : 1 ≤ k) : spigotref24_Right.f k q s e n = some (rightP q s e n) := by
  obtain ⟨k, rfl⟩ : ∃ m, k = m + 1 := ⟨k - 1, by omega⟩
  unfold spigotref24_Right.f rightP
  rw [rin24, Option.bind_some]
  by_cases h1 : 0 ≤ q ∧ q ≤ 1099511627776
  · rw [decide_eq_true h1, if_pos rfl, if_pos h1, rin24, Option.bind_some]
    by_cases h2 : 0 ≤ s ∧ s ≤ 1099511627776
    · rw [decide_eq_true h2, if_pos rfl, rin24, Option.bind_some]
      by_cases h3 : 0 ≤ e ∧ e ≤ 1099511627776
      · rw [decide_eq_true h3, if_pos rfl, rin24, Option.bind_some]
        by_cases h4 : 0 ≤ n ∧ n ≤ 1099511627776
        · rw [decide_eq_true h4, if_pos ⟨h2, h3, h4⟩]
          simp only [spigotref24_Right.j0, Bool.not_true, Bool.false_eq_true, if_false]
          rw [w64q (n := e - s) (by omega) (by omega), rin24, Option.bind_some]
          by_cases h5 : 1 ≤ e - s ∧ e - s ≤ 1073741824
          · rw [decide_eq_true h5, if_pos rfl, if_pos h5]
          · rw [decide_eq_false h5, if_neg (by decide), if_neg h5]
        · rw [decide_eq_false h4, if_neg (fun h => h4 h.2.2)]; simp [spigotref24_Right.j0]
      · rw [decide_eq_false h3, if_neg (by decide), if_neg (fun h => h3 h.2.1)]; simp [spigotref24_Right.j0]
    · rw [decide_eq_false h2, if_neg (by decide), if_neg (fun h => h2 h.1)]; simp [spigotref24_Right.j0]
  · rw [decide_eq_false h1, if_neg (by decide), if_neg h1]; simp [spigotref24_Right.j0]
theorem rvwap_is (q : Int) (l : List Int) (s e n : Int) (k : Nat) (hk : 80 ≤ k) : spigotref24_Vwap.f k q l s e n = some (vwapW q l s e n) := by
  unfold spigotref24_Vwap.f vwapW
  rw [rright_is q s e n k (by omega), Option.bind_some]
  by_cases c : rightP q s e n = 0
  · rw [if_pos c, if_pos c, right_is l k (by omega), Option.bind_some]
    obtain ⟨b0, b1, b2, b3, b4⟩ := rightP_open c
    by_cases d : rightW l = true
    · rw [if_pos d, if_pos d]
      by_cases h1 : n ≤ s
      · rw [if_pos h1, if_pos h1]
      · rw [if_neg h1, if_neg h1]
        by_cases h2 : e ≤ n
        · rw [if_pos h2, if_pos h2]
        · rw [if_neg h2, if_neg h2, w64q (n := n - s) (by omega) (by omega), w64q (n := e - s) (by omega) (by omega), rtarget03_is q l d (n - s) (e - s) b0.1 b0.2 (by omega) (by omega) (by omega) (by omega) k (by omega), Option.bind_some]
          unfold targetW
          rw [if_pos d, if_pos (by omega), if_pos b0]
    · rw [if_neg d, if_neg d]
  · rw [if_neg c, if_neg c]
end Go.Proofs.Ytapfidpfjbacgaa.PL
