/- CurveWhole: a spread's parts are not below nought, and together they are the quantity; a weight of nought gets nothing; no condition. -/
import Derived.Test.YtbkoahipcjknfaaPl03
import Derived.Test.YtbkoahipcjknfaaUx11
set_option linter.unusedVariables false
namespace Go.Proofs.Ytbkoahipcjknfaa.Pure
open Go Go.RowKit Go.Proofs.Ytbkoahipcjknfaa.U Go.Proofs.Ytbkoahipcjknfaa.PL Go.Proofs.Ytbkoahipcjknfaa.Hand Go.Proofs.Ytbkoahipcjknfaa.RL Go.Proofs.YtbkoahipcjknfaaW.PrintWords Go.Proofs.YtbkoahipcjknfaaW.PrintMore
theorem whole_l0 (q : Int) (l : List Int) (hr : rightW l = true) (hq : 0 ≤ q) (hq1 : q ≤ 1099511627776) : ∀ (d k i : Nat), i + d = l.length → d < k → spigotlaw03_CurveWhole.l0 k q l (cumN q l i) (spreadN q l) ((spreadN q l).length : Int) (i : Int) = some true := by
  have hl := (right_okZ hr).1.1
  have hsl : (spreadN q l).length = l.length := by simp [spreadN]
  intro d
  induction d with
  | zero =>
    intro k i hi hk
    obtain ⟨k, rfl⟩ : ∃ m, k = m + 1 := ⟨k - 1, by omega⟩
    simp only [spigotlaw03_CurveWhole.l0]
    rw [if_neg (by omega), show i = l.length by omega, cum_all hr]; simp
  | succ d ih =>
    intro k i hi hk
    obtain ⟨k, rfl⟩ : ∃ m, k = m + 1 := ⟨k - 1, by omega⟩
    have b1 := (cum_bd hr hq hq1 i).2
    have b2 := (cum_bd hr hq hq1 (i + 1)).2
    have b3 := cum_step hr hq i
    have hx : rd (spreadN q l) (i : Int) = cumN q l (i + 1) - cumN q l i := by
      have h1 : i < (spreadN q l).length := by omega
      have : rd (spreadN q l) (i : Int) = (spreadN q l)[i] := by simp [rd, h1]
      rw [this]; simp [spreadN]
    have hy : rd l (i : Int) = l.getD i 0 := by simp [rd, show i < l.length by omega]
    have ih := ih k (i + 1) (by omega) (by omega)
    have hz : l.getD i 0 = 0 → cumN q l (i + 1) - cumN q l i = 0 := by
      intro e; unfold cumN; rw [sumN_succ, e, Int.add_zero]; omega
    simp only [spigotlaw03_CurveWhole.l0]
    rw [if_pos (show (i : Int) < ((spreadN q l).length : Int) by omega), if_pos (by omega), if_pos (show (i : Int) < ((spreadN q l).length : Int) by omega), hx, hy, if_neg (by omega), if_neg (by omega), if_pos (by omega), wsucc i (by omega), w64q (n := cumN q l i + (cumN q l (i + 1) - cumN q l i)) (by omega) (by omega), show cumN q l i + (cumN q l (i + 1) - cumN q l i) = cumN q l (i + 1) by omega, ih]
    by_cases h0 : l.getD i 0 = 0
    · rw [if_pos h0, if_pos (hz h0)]
    · rw [if_neg h0]
theorem CurveWhole : spigotlaw03_CurveWhole.Pure := by
  intro q l _ _ _ _
  have skip : spigotlaw03_CurveWhole.j0 80 q l true = some true := by simp [spigotlaw03_CurveWhole.j0]
  refine ⟨80, ?_⟩
  unfold spigotlaw03_CurveWhole.f curve_Check.f
  rw [awake03 80 (by omega), Option.bind_some, if_pos rfl]
  by_cases h : (l.length : Int) > 100
  · rw [if_pos h]; exact skip
  rw [if_neg h, Option.bind_some]
  by_cases c : rightW l = true
  · rw [if_pos c, if_pos rfl]
    by_cases h1 : q < 0
    · rw [if_pos h1]; exact skip
    · rw [if_neg h1]
      by_cases h2 : q > 1099511627776
      · rw [decide_eq_true h2]; exact skip
      · rw [decide_eq_false h2]
        have hl := (right_okZ c).1.1
        have hsl : (spreadN q l).length = l.length := by simp [spreadN]
        have hw := whole_l0 q l c (by omega) (by omega) l.length 78 0 (by omega) (by omega)
        rw [cum_zero] at hw
        have hs : spreadW q l = (spreadN q l, 0) := by unfold spreadW; rw [if_pos c, if_pos (by omega)]
        simp only [spigotlaw03_CurveWhole.j0, Bool.false_eq_true, if_false]
        unfold curve_Spread.f
        rw [hs, Option.bind_some, if_pos rfl]
        show spigotlaw03_CurveWhole.j1 79 q l (spreadN q l) (((spreadN q l).length : Int) != (l.length : Int)) = some true
        rw [hsl, bne_self_eq_false]
        simp only [spigotlaw03_CurveWhole.j1, Bool.false_eq_true, if_false]
        exact hw
  · rw [if_neg c, if_neg (by decide)]; exact skip
end Go.Proofs.Ytbkoahipcjknfaa.Pure
