/- The parts of a quantity, by the document. -/
import Derived.Test.YtbkoahipcjknfaaPl03r
import Derived.Test.YtbkoahipcjknfaaUx8
set_option linter.unusedVariables false
set_option linter.unusedSimpArgs false
namespace Go.Proofs.Ytbkoahipcjknfaa.PL
open Go Go.RowKit Go.Proofs.Ytbkoahipcjknfaa.U Go.Proofs.Ytbkoahipcjknfaa.Hand Go.Proofs.Ytbkoahipcjknfaa.RL Go.Proofs.YtbkoahipcjknfaaW.PrintWords Go.Proofs.YtbkoahipcjknfaaW.PrintMore
theorem done_even (l : List Int) (i : Nat) (hi : i < l.length) : ∀ m, m ≤ l.length → doneP l ((i + 1 : Nat) : Int) l.length m = sumN l (min m (i + 1)) * l.length
  | 0, _ => by simp [doneP, sumN]
  | m + 1, hm => by
    have ih := done_even l i hi m (by omega)
    simp only [doneP]
    rw [ih]
    have e : ((i + 1 : Nat) : Int) * l.length - (m : Int) * l.length = (((i + 1 : Nat) : Int) - m) * l.length := (Int.sub_mul _ _ _).symm
    rw [e]
    by_cases c : m ≤ i
    · obtain ⟨d, hd⟩ : ∃ d : Nat, ((i + 1 : Nat) : Int) - m = ((d + 1 : Nat) : Int) := ⟨i - m, by omega⟩
      have e2 : ((d + 1 : Nat) : Int) * (l.length : Int) = d * l.length + l.length := by rw [Int.natCast_add, Int.add_mul]; simp
      have e3 : 0 ≤ (d : Int) * (l.length : Int) := Int.mul_nonneg (by omega) (by omega)
      have hc : clampG ((((i + 1 : Nat) : Int) - m) * l.length) l.length = l.length := by
        rw [hd, e2]; unfold clampG
        by_cases c2 : (d : Int) * (l.length : Int) + (l.length : Int) > (l.length : Int)
        · rw [if_pos c2]
        · rw [if_neg c2, if_pos (by omega)]; omega
      rw [hc, show min m (i + 1) = m by omega, show min (m + 1) (i + 1) = m + 1 by omega, sumN_succ, Int.add_mul]
    · have e3 : (((i + 1 : Nat) : Int) - m) * (l.length : Int) ≤ 0 := by
        have := Int.mul_le_mul_of_nonneg_right (show ((i + 1 : Nat) : Int) - m ≤ 0 by omega) (show 0 ≤ (l.length : Int) by omega)
        rwa [Int.zero_mul] at this
      have hc : clampG ((((i + 1 : Nat) : Int) - m) * l.length) l.length = 0 := by
        unfold clampG; rw [if_neg (by omega), if_neg (by omega)]
      rw [hc, show min m (i + 1) = i + 1 by omega, show min (m + 1) (i + 1) = i + 1 by omega]; simp
theorem even_val {l : List Int} (hr : rightW l = true) (q : Int) (i : Nat) (hi : i < l.length) : q * doneN l ((i + 1 : Nat) : Int) l.length / (l.sum * l.length) = cumN q l (i + 1) := by
  unfold doneN cumN
  rw [done_even l i hi l.length (Nat.le_refl _), show min l.length (i + 1) = i + 1 by omega, ← Int.mul_assoc]
  exact Int.mul_ediv_mul_of_pos_left _ _ (by omega)
theorem spread_take {q : Int} {l : List Int} (i : Nat) (hi : i < l.length) : (spreadN q l).take (i + 1) = (spreadN q l).take i ++ [cumN q l (i + 1) - cumN q l i] := by
  unfold spreadN
  rw [← List.map_take, ← List.map_take, List.take_range, List.take_range, show min (i + 1) l.length = i + 1 by omega, show min i l.length = i by omega, List.range_succ, List.map_append]
  simp
theorem spread_len (q : Int) (l : List Int) : (spreadN q l).length = l.length := by simp [spreadN]
theorem rspread_l0 (q : Int) (l : List Int) (hr : rightW l = true) (hq : 0 ≤ q) (hq1 : q ≤ 1099511627776) : ∀ (d k i : Nat), i + d = l.length → d + 66 < k → spigotref03_Spread.l0 k q l ((spreadN q l).take i) (cumN q l i) (i : Int) = some (spreadN q l) := by
  have hl := (right_okZ hr).1.1
  have hsl := spread_len q l
  intro d
  induction d with
  | zero =>
    intro k i hi hk
    obtain ⟨k, rfl⟩ : ∃ m, k = m + 1 := ⟨k - 1, by omega⟩
    simp only [spigotref03_Spread.l0]
    rw [if_neg (by omega), List.take_of_length_le (by omega)]
  | succ d ih =>
    intro k i hi hk
    obtain ⟨k, rfl⟩ : ∃ m, k = m + 1 := ⟨k - 1, by omega⟩
    have b1 := (cum_bd hr hq hq1 i).2
    have b2 := (cum_bd hr hq hq1 (i + 1)).2
    have ht := rtarget03_is q l hr ((i + 1 : Nat) : Int) (l.length : Int) hq hq1 (by omega) (by omega) (by omega) (by omega) k (by omega)
    rw [even_val hr q i (by omega)] at ht
    have ih := ih k (i + 1) (by omega) (by omega)
    simp only [spigotref03_Spread.l0]
    rw [if_pos (show (i : Int) < (l.length : Int) by omega), wsucc i (by omega), ht, Option.bind_some, if_pos (by rw [List.length_take]; omega), w64q (by omega) (by omega), ← spread_take i (by omega), ih]
theorem rspread_is (q : Int) (l : List Int) (hr : rightW l = true) (hq : 0 ≤ q) (hq1 : q ≤ 1099511627776) (k : Nat) (hk : 140 ≤ k) : spigotref03_Spread.f k q l = some (spreadN q l) := by
  have hl := (right_okZ hr).1.1
  unfold spigotref03_Spread.f
  have := rspread_l0 q l hr hq hq1 l.length k 0 (by omega) (by omega)
  rwa [List.take_zero, cum_zero] at this
end Go.Proofs.Ytbkoahipcjknfaa.PL
