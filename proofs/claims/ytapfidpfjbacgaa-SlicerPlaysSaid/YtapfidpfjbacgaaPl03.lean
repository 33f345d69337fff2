/- The laws of curves, plainly: the program's target, the chapter's examples, what the document calls a curve. -/
import Derived.Test.YtapfidpfjbacgaaPl
import Derived.Test.YtapfidpfjbacgaaDx0
set_option linter.unusedVariables false
set_option linter.unusedSimpArgs false
namespace Go.Proofs.Ytapfidpfjbacgaa.PL
open Go Go.RowKit Go.Proofs.Ytapfidpfjbacgaa.Hand Go.Proofs.Ytapfidpfjbacgaa.RL Go.Proofs.YtapfidpfjbacgaaW.PrintWords Go.Proofs.YtapfidpfjbacgaaW.PrintMore
open Go.Proofs.Ytapfidpfjbacgaa.D
theorem w64q {n : Int} (h0 : -9223372036854775808 ≤ n) (h1 : n ≤ 9223372036854775807) : wrap64 n = n := w64 h0 h1
theorem clamp_b (g : Int) {s : Int} (hs : 0 ≤ s) : 0 ≤ clampG g s ∧ clampG g s ≤ s := by unfold clampG; split <;> (try split) <;> omega
theorem doneP_bd {l : List Int} (hz : okZ l) (t : Int) {s : Int} (hs : 0 ≤ s) : ∀ m, 0 ≤ doneP l t s m ∧ doneP l t s m ≤ sumN l m * s
  | 0 => by simp [doneP, sumN]
  | m + 1 => by
    have ih := doneP_bd hz t hs m
    have hc := clamp_b (t * l.length - m * s) hs
    have hg := getD_bd hz m
    have h1 := Int.mul_nonneg hg.1 hc.1
    have h2 := Int.mul_le_mul_of_nonneg_left hc.2 hg.1
    rw [sumN_succ, Int.add_mul]
    simp only [doneP]
    omega
theorem doneN_bd {l : List Int} (hz : okZ l) (t : Int) {s : Int} (hs : 0 ≤ s) : 0 ≤ doneN l t s ∧ doneN l t s ≤ l.sum * s := by
  have := doneP_bd hz t hs l.length
  rwa [sumN_all] at this
theorem all_span {l : List Int} (h : rightW l = true) {s : Int} (hs : 1 ≤ s) (hs2 : s ≤ 1073741824) : 1 ≤ l.sum * s ∧ l.sum * s ≤ 72057594037927936 := by
  have h1 := right_sum h
  have h2 : l.sum * s ≤ 67108864 * 1073741824 := Int.mul_le_mul h1.2 hs2 (by omega) (by omega)
  have h3 : 1 * 1 ≤ l.sum * s := Int.mul_le_mul h1.1 hs (by omega) (by omega)
  omega
/-- How much should be done by a time; or that there is no curve, or no such time or quantity. -/
def targetW (q : Int) (l : List Int) (t s : Int) : Int × Int :=
  if rightW l = true then (if 1 ≤ s ∧ s ≤ 1073741824 ∧ 0 ≤ t ∧ t ≤ s then (if 0 ≤ q ∧ q ≤ 1099511627776 then (q * doneN l t s / (l.sum * s), 0) else (0, 2)) else (0, 2)) else (0, 30)
theorem target_val {l : List Int} (h : rightW l = true) {q s : Int} (t : Int) (hq : 0 ≤ q) (hq1 : q ≤ 1099511627776) (hs : 1 ≤ s) (hs2 : s ≤ 1073741824) : fr q (doneN l t s) (l.sum * s) false = (q * doneN l t s / (l.sum * s), 0) ∧ 0 ≤ q * doneN l t s / (l.sum * s) ∧ q * doneN l t s / (l.sum * s) ≤ q :=
  fr_cum hq hq1 (doneN_bd (right_okZ h).1 t (by omega)).1 (doneN_bd (right_okZ h).1 t (by omega)).2 (all_span h hs hs2).1
theorem ctarget_is (q : Int) (l : List Int) (t s : Int) (ht : in64 t) (hs : in64 s) (k : Nat) (hk : 1 ≤ k) : curve_Target.f k q l t s = some (targetW q l t s) := by
  obtain ⟨k, rfl⟩ : ∃ m, k = m + 1 := ⟨k - 1, by omega⟩
  unfold curve_Target.f curve_Done.f targetW
  rw [if_pos ⟨ht, hs⟩, Option.bind_some]
  unfold doneW
  by_cases c : rightW l = true
  · rw [if_pos c, if_pos c]
    by_cases d : 1 ≤ s ∧ s ≤ 1073741824 ∧ 0 ≤ t ∧ t ≤ s
    · rw [if_pos d, if_pos d, if_pos rfl]
      have hb := doneN_bd (right_okZ c).1 t (show 0 ≤ s by omega)
      have ha := all_span c d.1 d.2.1
      by_cases h1 : q < 0
      · rw [if_pos h1, if_neg (by omega)]; simp [curve_Target.j0]
      · rw [if_neg h1]
        by_cases h2 : q > 1099511627776
        · rw [if_neg (by omega), decide_eq_true h2]; simp [curve_Target.j0]
        · rw [if_pos (by omega), decide_eq_false h2]
          have hv := (target_val c t (show 0 ≤ q by omega) (by omega) d.1 d.2.1).1
          simp only [curve_Target.j0, Bool.false_eq_true, if_false]
          unfold curve_Total.f totW
          rw [if_pos c, Option.bind_some, if_pos rfl]
          show (checked_Down.f q (doneN l t s) (wrap64 (l.sum * s))).bind _ = _
          rw [w64q (by omega) (by omega), down_is _ _ _ (by unfold in64; omega) (by unfold in64; omega) (by unfold in64; omega), Option.bind_some, hv]
    · rw [if_neg d, if_neg d]; rfl
  · rw [if_neg c, if_neg c]; rfl
end Go.Proofs.Ytapfidpfjbacgaa.PL
