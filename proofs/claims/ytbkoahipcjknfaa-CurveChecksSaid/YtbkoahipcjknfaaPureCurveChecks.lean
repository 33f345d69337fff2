/- CurveChecks: any weights are a curve just if the document says so; their sum is exact; no condition. -/
import Derived.Test.YtbkoahipcjknfaaPl03r
import Derived.Test.YtbkoahipcjknfaaUx4
namespace Go.Proofs.Ytbkoahipcjknfaa.Pure
open Go Go.RowKit Go.Proofs.Ytbkoahipcjknfaa.U Go.Proofs.Ytbkoahipcjknfaa.PL Go.Proofs.Ytbkoahipcjknfaa.Hand
theorem CurveChecks : spigotlaw03_CurveChecks.Pure := by
  intro l _ _ _
  refine ⟨70, ?_⟩
  unfold spigotlaw03_CurveChecks.f curve_Total.f curve_Check.f totW
  rw [awake03 70 (by omega), Option.bind_some, if_pos rfl]
  by_cases h : (l.length : Int) > 300
  · rw [if_pos h]
  rw [if_neg h, Option.bind_some, right_is l 70 (by omega), Option.bind_some]
  by_cases c : rightW l = true
  · rw [if_pos c, if_pos c, if_pos c, Option.bind_some, if_pos rfl, if_pos rfl, rtotal_is l (right_okZ c).1 70 (by omega), Option.bind_some]; simp
  · rw [if_neg c, if_neg c, if_neg c, Option.bind_some, if_pos rfl, if_pos rfl]; simp
end Go.Proofs.Ytbkoahipcjknfaa.Pure
