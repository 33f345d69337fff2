/- What executions cost, in plain numbers: the program's functions. -/
import Derived.Test.YtbkoahipcjknfaaPl
import Derived.Test.YtbkoahipcjknfaaCx1
import Derived.Test.YtbkoahipcjknfaaCx2
import Derived.Test.YtbkoahipcjknfaaCx3
import Derived.Test.YtbkoahipcjknfaaCx4
import Derived.Test.YtbkoahipcjknfaaCx7
set_option linter.unusedVariables false
set_option linter.unusedSimpArgs false
namespace Go.Proofs.Ytbkoahipcjknfaa.PL
open Go Go.RowKit Go.Proofs.Ytbkoahipcjknfaa.C Go.Proofs.Ytbkoahipcjknfaa.Hand Go.Proofs.Ytbkoahipcjknfaa.RL Go.Proofs.YtbkoahipcjknfaaW.PrintWords Go.Proofs.YtbkoahipcjknfaaW.PrintMore
theorem w64c {n : Int} (h0 : -9223372036854775808 ≤ n) (h1 : n ≤ 9223372036854775807) : wrap64 n = n := w64 h0 h1
theorem cwithin_is (a b c : Int) : cost_within.f a b c = some (decide (b ≤ a ∧ a ≤ c)) := by
  unfold cost_within.f
  by_cases h : a ≥ b
  · rw [if_pos h]; congr 1; rw [decide_eq_decide]; omega
  · rw [if_neg h, decide_eq_false (by omega)]
theorem cin_is (a b c : Int) : spigotref35_in.f a b c = some (decide (b ≤ a ∧ a ≤ c)) := by
  unfold spigotref35_in.f
  by_cases h : a ≥ b
  · rw [if_pos h]; congr 1; rw [decide_eq_decide]; omega
  · rw [if_neg h, decide_eq_false (by omega)]
theorem sided_is (s : Int) : cost_sided.f s = some (decide (s = 1 ∨ s = 2)) := by
  unfold cost_sided.f
  by_cases h : s = 1
  · rw [if_pos h, decide_eq_true (.inl h)]
  · rw [if_neg h]; congr 1; rw [Bool.eq_iff_iff]; simp [h]
theorem side_is (s : Int) : spigotref35_side.f s = some (decide (s = 1 ∨ s = 2)) := by
  unfold spigotref35_side.f
  by_cases h : s = 1
  · rw [if_pos h, decide_eq_true (.inl h)]
  · rw [if_neg h]; congr 1; rw [Bool.eq_iff_iff]; simp [h]
/-- A number as a side sees it. -/
def sg (s n : Int) : Int := if s = 2 then -n else n
theorem toward_is (s n : Int) (h : in64 n) : cost_toward.f s n = some (tell (sg s n)) := by
  unfold cost_toward.f sg
  by_cases hs : s = 2
  · rw [if_pos hs, if_pos hs, neg_is n h, Option.bind_some]
  · rw [if_neg hs, if_neg hs, tell_in h]
theorem mul_b {a b x y : Int} (a0 : 0 ≤ a) (a1 : a ≤ x) (b0 : 0 ≤ b) (b1 : b ≤ y) : 0 ≤ a * b ∧ a * b ≤ x * y := ⟨Int.mul_nonneg a0 b0, Int.mul_le_mul a1 b1 b0 (Int.le_trans a0 a1)⟩

/-- What executions cost, against a price. -/
def slipS (s q w p : Int) : Int × Int :=
  if (s = 1 ∨ s = 2) ∧ (0 ≤ q ∧ q ≤ 1099511627776) ∧ 0 ≤ w ∧ (1 ≤ p ∧ p ≤ 1099511627776) then (if in64 (q * p) then tell (sg s (w - q * p)) else (0, 10)) else (0, 2)
theorem slip_is (s q w p : Int) (hw : in64 w) (k : Nat) (hk : 1 ≤ k) : cost_Slip.f k s q w p = some (slipS s q w p) := by
  obtain ⟨k, rfl⟩ : ∃ m, k = m + 1 := ⟨k - 1, by omega⟩
  have hno : cost_Slip.j0 (k + 1) s q w p true = some (0, 2) := by simp [cost_Slip.j0]
  unfold cost_Slip.f slipS
  simp only [sided_is, cwithin_is, Option.bind_some]
  by_cases h1 : s = 1 ∨ s = 2
  · rw [decide_eq_true h1, if_pos rfl]
    by_cases h2 : 0 ≤ q ∧ q ≤ 1099511627776
    · rw [decide_eq_true h2, if_pos rfl]
      by_cases h3 : w < 0
      · rw [if_pos h3, hno, if_neg (by omega)]
      · rw [if_neg h3]
        by_cases h4 : 1 ≤ p ∧ p ≤ 1099511627776
        · rw [decide_eq_true h4, if_pos ⟨h1, h2, by omega, h4⟩]
          simp only [cost_Slip.j0, Bool.not_true, Bool.false_eq_true, if_false]
          rw [mul_is q p (by unfold in64; omega) (by unfold in64; omega), Option.bind_some]
          by_cases hi : in64 (q * p)
          · have hm : 0 ≤ q * p := Int.mul_nonneg h2.1 (by omega)
            have hi2 : in64 (w - q * p) := by unfold in64 at *; omega
            rw [tell_in hi, if_pos rfl, if_pos hi, sub_is _ _ hw hi, Option.bind_some, tell_in hi2, if_pos rfl, toward_is s _ hi2, Option.bind_some]
          · rw [tell_out hi, if_neg (by simp), if_neg hi]
        · rw [decide_eq_false h4, Bool.not_false, hno, if_neg (fun h => h4 h.2.2.2)]
    · rw [decide_eq_false h2, if_neg (by simp), hno, if_neg (fun h => h2 h.2.1)]
  · rw [decide_eq_false h1, if_neg (by simp), hno, if_neg (fun h => h1 h.1)]
/-- What it costs that something was not executed. -/
def missS (s l p t : Int) : Int × Int :=
  if (s = 1 ∨ s = 2) ∧ (0 ≤ l ∧ l ≤ 1099511627776) ∧ (1 ≤ p ∧ p ≤ 1099511627776) ∧ (1 ≤ t ∧ t ≤ 1099511627776) then (if in64 (l * (t - p)) then tell (sg s (l * (t - p))) else (0, 10)) else (0, 2)
theorem miss_is (s l p t : Int) (k : Nat) (hk : 1 ≤ k) : cost_Miss.f k s l p t = some (missS s l p t) := by
  obtain ⟨k, rfl⟩ : ∃ m, k = m + 1 := ⟨k - 1, by omega⟩
  have hno : cost_Miss.j0 (k + 1) s l p t true = some (0, 2) := by simp [cost_Miss.j0]
  unfold cost_Miss.f missS
  simp only [sided_is, cwithin_is, Option.bind_some]
  by_cases h1 : s = 1 ∨ s = 2
  · rw [decide_eq_true h1, if_pos rfl]
    by_cases h2 : 0 ≤ l ∧ l ≤ 1099511627776
    · rw [decide_eq_true h2, if_pos rfl]
      by_cases h3 : 1 ≤ p ∧ p ≤ 1099511627776
      · rw [decide_eq_true h3, if_pos rfl]
        by_cases h4 : 1 ≤ t ∧ t ≤ 1099511627776
        · rw [decide_eq_true h4, if_pos ⟨h1, h2, h3, h4⟩]
          simp only [cost_Miss.j0, Bool.not_true, Bool.false_eq_true, if_false]
          rw [w64c (n := t - p) (by omega) (by omega), mul_is l (t - p) (by unfold in64; omega) (by unfold in64; omega), Option.bind_some]
          by_cases hi : in64 (l * (t - p))
          · rw [tell_in hi, if_pos rfl, if_pos hi, toward_is s _ hi, Option.bind_some]
          · rw [tell_out hi, if_neg (by simp), if_neg hi]
        · rw [decide_eq_false h4, Bool.not_false, hno, if_neg (fun h => h4 h.2.2.2)]
      · rw [decide_eq_false h3, if_neg (by simp), hno, if_neg (fun h => h3 h.2.2.1)]
    · rw [decide_eq_false h2, if_neg (by simp), hno, if_neg (fun h => h2 h.2.1)]
  · rw [decide_eq_false h1, if_neg (by simp), hno, if_neg (fun h => h1 h.1)]
/-- Both together. -/
def shortS (s q f w p t : Int) : Int × Int :=
  if (0 ≤ q ∧ q ≤ 1099511627776) ∧ (0 ≤ f ∧ f ≤ q) then (if (slipS s f w p).2 = 0 then (if (missS s (q - f) p t).2 = 0 then tell ((slipS s f w p).1 + (missS s (q - f) p t).1) else (0, (missS s (q - f) p t).2)) else (0, (slipS s f w p).2)) else (0, 2)
theorem ite_64 {c : Prop} [Decidable c] {a b : Int × Int} (ha : in64 a.1) (hb : in64 b.1) : in64 (if c then a else b).1 := by split <;> assumption
theorem slip_64 (s q w p : Int) : in64 (slipS s q w p).1 := ite_64 (ite_64 (tell_64 _) (by decide)) (by decide)
theorem miss_64 (s q w p : Int) : in64 (missS s q w p).1 := ite_64 (ite_64 (tell_64 _) (by decide)) (by decide)
theorem short_is (s q f w p t : Int) (hw : in64 w) (k : Nat) (hk : 2 ≤ k) : cost_Shortfall.f k s q f w p t = some (shortS s q f w p t) := by
  obtain ⟨k, rfl⟩ : ∃ m, k = m + 1 := ⟨k - 1, by omega⟩
  have hno : cost_Shortfall.j0 (k + 1) s q f w p t true = some (0, 2) := by simp [cost_Shortfall.j0]
  unfold cost_Shortfall.f shortS
  simp only [cwithin_is, Option.bind_some]
  by_cases h1 : 0 ≤ q ∧ q ≤ 1099511627776
  · rw [decide_eq_true h1, if_pos rfl]
    by_cases h2 : 0 ≤ f ∧ f ≤ q
    · rw [decide_eq_true h2, if_pos ⟨h1, h2⟩]
      simp only [cost_Shortfall.j0, Bool.not_true, Bool.false_eq_true, if_false]
      rw [slip_is s f w p hw k (by omega), Option.bind_some, w64c (n := q - f) (by omega) (by omega), miss_is s _ p t k (by omega), Option.bind_some]
      have hs : cost_together.f [(slipS s f w p).1, (missS s (q - f) p t).1] = some (tell ((slipS s f w p).1 + (missS s (q - f) p t).1)) := by
        unfold cost_together.f checked_Sum.f
        rw [if_pos (by intro x hx; simp at hx; rcases hx with rfl | rfl; exact slip_64 _ _ _ _; exact miss_64 _ _ _ _), Option.bind_some]
        simp
      rw [hs, Option.bind_some]
      split
      · split <;> rfl
      · rfl
    · rw [decide_eq_false h2, Bool.not_false, hno, if_neg (fun h => h2 h.2)]
  · rw [decide_eq_false h1, if_neg (by simp), hno, if_neg (fun h => h1 h.1)]
/-- A cost in ten thousandths. -/
def basisS (n q p : Int) : Int × Int :=
  if (1 ≤ q ∧ q ≤ 1099511627776) ∧ (1 ≤ p ∧ p ≤ 1099511627776) then (if in64 (q * p) then fr n 10000 (q * p) false else (0, 10)) else (0, 2)
theorem basis_is (n q p : Int) (hn : in64 n) (k : Nat) (hk : 1 ≤ k) : cost_Basis.f k n q p = some (basisS n q p) := by
  obtain ⟨k, rfl⟩ : ∃ m, k = m + 1 := ⟨k - 1, by omega⟩
  have hno : cost_Basis.j0 (k + 1) n q p true = some (0, 2) := by simp [cost_Basis.j0]
  unfold cost_Basis.f basisS
  simp only [cwithin_is, Option.bind_some]
  by_cases h1 : 1 ≤ q ∧ q ≤ 1099511627776
  · rw [decide_eq_true h1, if_pos rfl]
    by_cases h2 : 1 ≤ p ∧ p ≤ 1099511627776
    · rw [decide_eq_true h2, if_pos ⟨h1, h2⟩]
      simp only [cost_Basis.j0, Bool.not_true, Bool.false_eq_true, if_false]
      rw [mul_is q p (by unfold in64; omega) (by unfold in64; omega), Option.bind_some]
      by_cases hi : in64 (q * p)
      · rw [tell_in hi, if_pos rfl, if_pos hi, down_is n 10000 _ hn (by decide) hi, Option.bind_some]
      · rw [tell_out hi, if_neg (by simp), if_neg hi]
    · rw [decide_eq_false h2, Bool.not_false, hno, if_neg (fun h => h2 h.2)]
  · rw [decide_eq_false h1, if_neg (by simp), hno, if_neg (fun h => h1 h.1)]
theorem awake35 (k : Nat) (hk : 2 ≤ k) : spigotlaw35_awake.f k = some true := by
  unfold spigotlaw35_awake.f
  rw [slip_is _ _ _ _ (by decide) k (by omega), Option.bind_some, short_is _ _ _ _ _ _ (by decide) k hk, Option.bind_some, basis_is _ _ _ (by decide) k (by omega), Option.bind_some]
  decide
end Go.Proofs.Ytbkoahipcjknfaa.PL
