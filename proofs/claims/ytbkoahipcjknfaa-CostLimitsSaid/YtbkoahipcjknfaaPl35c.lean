/- Averages and parts of a volume, in plain numbers. -/
import Derived.Test.YtbkoahipcjknfaaPl35
import Derived.Test.YtbkoahipcjknfaaCx5
set_option linter.unusedVariables false
set_option linter.unusedSimpArgs false
namespace Go.Proofs.Ytbkoahipcjknfaa.PL
open Go Go.RowKit Go.Proofs.Ytbkoahipcjknfaa.C Go.Proofs.Ytbkoahipcjknfaa.Hand Go.Proofs.Ytbkoahipcjknfaa.RL Go.Proofs.YtbkoahipcjknfaaW.PrintWords Go.Proofs.YtbkoahipcjknfaaW.PrintMore
/-- At what price something was executed. -/
def avgS (q w : Int) : Int × Int × Int := if (1 ≤ q ∧ q ≤ 1099511627776) ∧ 0 ≤ w then (w / q, (if w % q = 0 then w / q else w / q + 1), 0) else (0, 0, 2)
theorem cei_up {n s : Int} (h : 1 ≤ s) (h2 : 0 ≤ n) : cei n s = if n % s = 0 then n / s else n / s + 1 := by
  rw [cei_eq n s (by omega)]
  obtain ⟨n, rfl⟩ := Int.eq_ofNat_of_zero_le h2
  obtain ⟨s, rfl⟩ := Int.eq_ofNat_of_zero_le (show 0 ≤ s by omega)
  rw [if_neg (by simp; omega)]
  simp
  norm_cast
theorem avg_b {q w : Int} (hq : 1 ≤ q) (h0 : 0 ≤ w) (hw : in64 w) : in64 (w / q) ∧ in64 (if w % q = 0 then w / q else w / q + 1) := by
  have h1 : 0 ≤ w / q := Int.ediv_nonneg h0 (by omega)
  have h2 : w / q ≤ w := Int.ediv_le_self _ h0
  have h3 := Int.emod_add_mul_ediv w q
  have h4 : w / q ≤ q * (w / q) := by
    have := Int.mul_le_mul_of_nonneg_right hq h1
    omega
  have h5 := Int.emod_nonneg w (show q ≠ 0 by omega)
  unfold in64 at *
  refine ⟨by omega, ?_⟩
  split
  · omega
  · omega
theorem avg_is (q w : Int) (hw : in64 w) (k : Nat) (hk : 1 ≤ k) : cost_Average.f k q w = some (avgS q w) := by
  obtain ⟨k, rfl⟩ : ∃ m, k = m + 1 := ⟨k - 1, by omega⟩
  have hno : cost_Average.j0 (k + 1) q w true = some (0, 0, 2) := by simp [cost_Average.j0]
  unfold cost_Average.f avgS
  simp only [cwithin_is, Option.bind_some]
  by_cases h1 : 1 ≤ q ∧ q ≤ 1099511627776
  · rw [decide_eq_true h1, if_pos rfl]
    by_cases h2 : w < 0
    · rw [decide_eq_true h2, hno, if_neg (by omega)]
    · rw [decide_eq_false h2, if_pos ⟨h1, by omega⟩]
      obtain ⟨b1, b2⟩ := avg_b h1.1 (show 0 ≤ w by omega) hw
      simp only [cost_Average.j0, Bool.false_eq_true, if_false]
      have e1 : fr w 1 q false = (w / q, 0) := by unfold fr frac flo; rw [if_neg (by omega)]; simp only [Bool.false_eq_true, if_false]; rw [if_neg (by omega), Int.mul_one]; exact tell_in b1
      have e2 : fr w 1 q true = ((if w % q = 0 then w / q else w / q + 1), 0) := by unfold fr frac; rw [if_neg (by omega)]; simp only [if_true]; rw [Int.mul_one, cei_up h1.1 (by omega)]; exact tell_in b2
      rw [down_is w 1 q hw (by decide) (by unfold in64; omega), Option.bind_some, e1, if_pos rfl, up_is w 1 q hw (by decide) (by unfold in64; omega), Option.bind_some, e2, if_pos rfl]
  · rw [decide_eq_false h1, if_neg (by simp), hno, if_neg (fun h => h1 h.1)]
end Go.Proofs.Ytbkoahipcjknfaa.PL
