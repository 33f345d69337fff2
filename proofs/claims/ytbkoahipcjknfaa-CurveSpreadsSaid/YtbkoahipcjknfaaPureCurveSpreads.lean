/- CurveSpreads: the parts of any quantity over any curve are the document's, or refused; no condition. -/
import Derived.Test.YtbkoahipcjknfaaPl03r
import Derived.Test.YtbkoahipcjknfaaPl03e
import Derived.Test.YtbkoahipcjknfaaUx9
namespace Go.Proofs.Ytbkoahipcjknfaa.Pure
open Go Go.RowKit Go.Proofs.Ytbkoahipcjknfaa.U Go.Proofs.Ytbkoahipcjknfaa.PL Go.Proofs.Ytbkoahipcjknfaa.Hand
theorem CurveSpreads : spigotlaw03_CurveSpreads.Pure := by
  intro q l _ _ _ _
  refine ⟨151, ?_⟩
  unfold spigotlaw03_CurveSpreads.f curve_Spread.f spreadW
  rw [awake03 151 (by omega), Option.bind_some, if_pos rfl]
  by_cases h : (l.length : Int) > 300
  · rw [if_pos h]
  rw [if_neg h, Option.bind_some, right_is l 151 (by omega), Option.bind_some]
  by_cases c : rightW l = true
  · rw [if_pos c, if_pos c]
    by_cases h1 : q < 0
    · rw [if_pos h1, if_neg (by omega)]; simp [spigotlaw03_CurveSpreads.j0]
    · rw [if_neg h1]
      by_cases h2 : q > 1099511627776
      · rw [if_neg (by omega), decide_eq_true h2]; simp [spigotlaw03_CurveSpreads.j0]
      · rw [if_pos (by omega), decide_eq_false h2]
        simp only [spigotlaw03_CurveSpreads.j0, Bool.false_eq_true, if_false]
        have hl := (right_okZ c).1.1
        rw [if_pos trivial, rspread_is q l c (by omega) (by omega) 150 (by omega), Option.bind_some, same_is _ _ (by rw [spread_len]; omega) 150 (by rw [spread_len]; omega)]
        simp
  · rw [if_neg c, if_neg c, if_pos rfl]; rfl
end Go.Proofs.Ytbkoahipcjknfaa.Pure
