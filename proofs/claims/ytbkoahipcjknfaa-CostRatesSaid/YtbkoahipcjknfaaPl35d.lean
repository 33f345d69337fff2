/- Averages, costs in ten thousandths and parts of a volume: the document's. -/
import Derived.Test.YtbkoahipcjknfaaPl35c
import Derived.Test.YtbkoahipcjknfaaCx9
import Derived.Test.YtbkoahipcjknfaaCx10
import Derived.Test.YtbkoahipcjknfaaCx11
set_option linter.unusedVariables false
set_option linter.unusedSimpArgs false
namespace Go.Proofs.Ytbkoahipcjknfaa.PL
open Go Go.RowKit Go.Proofs.Ytbkoahipcjknfaa.C Go.Proofs.Ytbkoahipcjknfaa.Hand Go.Proofs.Ytbkoahipcjknfaa.RL Go.Proofs.YtbkoahipcjknfaaW.PrintWords Go.Proofs.YtbkoahipcjknfaaW.PrintMore
theorem small_mul2 {q p : Int} (h2 : 0 ≤ q ∧ q ≤ 1099511627776) (h4 : 0 ≤ p ∧ p ≤ 1099511627776) : small (q * p) := by
  have := mul_b h2.1 h2.2 h4.1 h4.2
  exact small_le (by omega)
theorem rpart_is (a b : Int) (up : Bool) (ha : small a) (hb : small b) (h : b ≠ 0) : spigotref01_Part.f (enc a).1 (enc a).2 (enc b).1 (enc b).2 up = some (enc (frac a b up)) := by
  unfold spigotref01_Part.f; rw [if_pos ⟨okB_enc ha, okB_enc hb, by rw [dec_enc]; exact h⟩, dec_enc, dec_enc]
theorem flo_small {z c : Int} (hz : z.natAbs ≤ 1000000000000000000000000) (hc : 1 ≤ c) : small (frac z c false) := by
  have e : frac z c false = z / c := by unfold frac; simp only [Bool.false_eq_true, if_false]; unfold flo; rw [if_neg (by omega)]
  rw [e]
  refine small_le ?_
  have h1 := Int.natAbs_ediv_le_natAbs z c
  omega
theorem rbasis_is (n q p : Int) (hn : in64 n) (k : Nat) (hk : 1 ≤ k) : spigotref35_Basis.f k n q p = some (basisS n q p) := by
  obtain ⟨k, rfl⟩ : ∃ m, k = m + 1 := ⟨k - 1, by omega⟩
  have hno : spigotref35_Basis.j0 (k + 1) n q p true = some (0, 2) := by simp [spigotref35_Basis.j0]
  unfold spigotref35_Basis.f basisS
  simp only [cin_is, Option.bind_some]
  by_cases h1 : 1 ≤ q ∧ q ≤ 1099511627776
  · rw [decide_eq_true h1, if_pos rfl]
    by_cases h2 : 1 ≤ p ∧ p ≤ 1099511627776
    · rw [decide_eq_true h2, if_pos ⟨h1, h2⟩]
      simp only [spigotref35_Basis.j0, Bool.not_true, Bool.false_eq_true, if_false]
      have iq : in64 q := by unfold in64; omega
      have ip : in64 p := by unfold in64; omega
      have hm : 1 ≤ q * p := Int.mul_pos (by omega) (by omega)
      have sm := small_mul2 (show 0 ≤ q ∧ q ≤ 1099511627776 by omega) (show 0 ≤ p ∧ p ≤ 1099511627776 by omega)
      rw [of_is q iq, Option.bind_some, of_is p ip, Option.bind_some, rmul_is q p (small64 iq) (small64 ip), Option.bind_some, int_is _ sm, Option.bind_some]
      by_cases hi : in64 (q * p)
      · have hb : (n * 10000).natAbs ≤ 1000000000000000000000000 := by unfold in64 at hn; omega
        rw [intV_in hi, if_pos rfl, if_pos hi, of_is n hn, Option.bind_some, of_is 10000 (by decide), Option.bind_some, rmul_is n 10000 (small64 hn) (small64 (by decide)), Option.bind_some,
          rpart_is _ _ false (small_le (by omega)) sm (by omega), Option.bind_some, told_is _ (flo_small hb hm), Option.bind_some]
        unfold fr; rw [if_neg (by omega)]
      · rw [if_neg (by rw [intV_out hi]; simp), if_neg hi]
    · rw [decide_eq_false h2, Bool.not_false, hno, if_neg (fun h => h2 h.2)]
  · rw [decide_eq_false h1, if_neg (by simp), hno, if_neg (fun h => h1 h.1)]
theorem rcpart_is (f v : Int) : spigotref35_Part.f f v = some (cpartS f v) := by
  unfold spigotref35_Part.f cpartS
  simp only [cin_is, Option.bind_some]
  by_cases h1 : 0 ≤ f ∧ f ≤ 1099511627776
  · rw [decide_eq_true h1, if_pos rfl]
    by_cases h2 : 1 ≤ v ∧ v ≤ 4611686018427387904
    · rw [decide_eq_true h2, if_pos rfl, if_pos ⟨h1, h2⟩, fraction_is f 10000 v false (by unfold in64; omega) (by decide) (by unfold in64; omega), Option.bind_some]
    · rw [decide_eq_false h2, if_neg (by simp), if_neg (fun h => h2 h.2)]
  · rw [decide_eq_false h1, if_neg (by simp), if_neg (fun h => h1 h.1)]
theorem ravg_is (q w : Int) (hw : in64 w) (k : Nat) (hk : 1 ≤ k) : spigotref35_Average.f k q w = some (avgS q w) := by
  obtain ⟨k, rfl⟩ : ∃ m, k = m + 1 := ⟨k - 1, by omega⟩
  have hno : spigotref35_Average.j0 (k + 1) q w true = some (0, 0, 2) := by simp [spigotref35_Average.j0]
  unfold spigotref35_Average.f avgS
  simp only [cin_is, Option.bind_some]
  by_cases h1 : 1 ≤ q ∧ q ≤ 1099511627776
  · rw [decide_eq_true h1, if_pos rfl]
    by_cases h2 : w < 0
    · rw [decide_eq_true h2, hno, if_neg (by omega)]
    · rw [decide_eq_false h2, if_pos ⟨h1, by omega⟩]
      obtain ⟨b1, b2⟩ := avg_b h1.1 (show 0 ≤ w by omega) hw
      simp only [spigotref35_Average.j0, Bool.false_eq_true, if_false]
      rw [if_neg (by omega), Int.tmod_eq_emod_of_nonneg (by omega), Int.tdiv_eq_ediv_of_nonneg (by omega), w64c b1.1 b1.2]
      by_cases hz : w % q = 0
      · rw [if_pos hz, if_pos hz]
      · rw [if_neg hz, if_neg hz] at *
        rw [w64c b2.1 b2.2]
  · rw [decide_eq_false h1, if_neg (by simp), hno, if_neg (fun h => h1 h.1)]
end Go.Proofs.Ytbkoahipcjknfaa.PL
