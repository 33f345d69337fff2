/- Steps, what something is worth, and bands, in plain numbers. -/
import Derived.Test.YtbhbnefifgdioaaPl
import Derived.Test.YtbhbnefifgdioaaKx1
set_option linter.unusedVariables false
set_option linter.unusedSimpArgs false
namespace Go.Proofs.Ytbhbnefifgdioaa.PL
open Go Go.RowKit Go.Proofs.Ytbhbnefifgdioaa.K Go.Proofs.Ytbhbnefifgdioaa.Hand Go.Proofs.Ytbhbnefifgdioaa.RL Go.Proofs.YtbhbnefifgdioaaW.PrintWords Go.Proofs.YtbhbnefifgdioaaW.PrintMore
theorem w64j {n : Int} (h0 : -9223372036854775808 ≤ n) (h1 : n ≤ 9223372036854775807) : wrap64 n = n := w64 h0 h1
/-- The next number up that is on a step. -/
def ceilS (n s : Int) : Int × Int := if s < 1 ∨ n < 0 then (0, 2) else tell (if n % s = 0 then n else n - n % s + s)
def floorS (n s : Int) : Int × Int := if s < 1 ∨ n < 0 then (0, 2) else (n - n % s, 0)
theorem div_mul (n s : Int) : n / s * s = n - n % s := by
  have hdm := Int.emod_add_mul_ediv n s
  rw [Int.mul_comm]; omega
theorem floor_is (n s : Int) (hn : in64 n) (hs : in64 s) : grain_Floor.f n s = some (floorS n s) := by
  unfold grain_Floor.f floorS
  rw [if_pos ⟨hn, hs⟩, div_mul]
theorem ceil_is (n s : Int) (hn : in64 n) (hs : in64 s) : grain_Ceil.f n s = some (ceilS n s) := by
  unfold grain_Ceil.f ceilS
  rw [if_pos ⟨hn, hs⟩]
  by_cases h : s < 1 ∨ n < 0
  · rw [if_pos h, if_pos h]
  · rw [if_neg h, if_neg h, cei_pos (by omega) (by omega)]
    by_cases hz : n % s = 0
    · rw [if_pos hz, if_pos hz, div_mul, hz]; simp
    · rw [if_neg hz, if_neg hz, Int.add_mul, div_mul]; simp
theorem rfloor_is (n s : Int) (hn : in64 n) (hs : in64 s) : spigotref02_Floor.f n s = some (floorS n s) := by
  have := hn.2
  unfold spigotref02_Floor.f floorS
  by_cases h1 : s < 1
  · rw [if_pos h1, if_pos (.inl h1)]
  · rw [if_neg h1]
    by_cases h2 : n < 0
    · rw [if_pos h2, if_pos (.inr h2)]
    · have hm := Int.emod_nonneg n (show s ≠ 0 by omega)
      have hm2 : n % s ≤ n := by have := Int.emod_add_mul_ediv n s; have := Int.mul_nonneg (show 0 ≤ s by omega) (Int.ediv_nonneg (show 0 ≤ n by omega) (show 0 ≤ s by omega)); omega
      rw [if_neg h2, if_neg (by omega), if_neg (by omega), Int.tmod_eq_emod_of_nonneg (by omega), w64j (by omega) (by omega)]
theorem rceil_is (n s : Int) (hn : in64 n) (hs : in64 s) (k : Nat) (hk : 1 ≤ k) : spigotref02_Ceil.f k n s = some (ceilS n s) := by
  obtain ⟨k, rfl⟩ : ∃ m, k = m + 1 := ⟨k - 1, by omega⟩
  have hno : spigotref02_Ceil.j0 (k + 1) n s true = some (0, 2) := by simp [spigotref02_Ceil.j0]
  have := hn.2
  have := hs.2
  unfold spigotref02_Ceil.f ceilS
  by_cases h1 : s < 1
  · rw [if_pos h1, if_pos (.inl h1)]; exact hno
  · rw [if_neg h1]
    by_cases h2 : n < 0
    · rw [decide_eq_true h2, if_pos (.inr h2)]; exact hno
    · have hm := Int.emod_nonneg n (show s ≠ 0 by omega)
      have hm2 : n % s ≤ n := by have := Int.emod_add_mul_ediv n s; have := Int.mul_nonneg (show 0 ≤ s by omega) (Int.ediv_nonneg (show 0 ≤ n by omega) (show 0 ≤ s by omega)); omega
      rw [decide_eq_false h2, if_neg (by omega)]
      simp only [spigotref02_Ceil.j0, Bool.false_eq_true, if_false]
      rw [if_neg (by omega), Int.tmod_eq_emod_of_nonneg (by omega)]
      by_cases hz : n % s = 0
      · rw [if_pos hz, if_pos hz, tell_in hn]
      · have i1 : in64 (n - n % s) := ⟨by omega, by omega⟩
        rw [if_neg hz, if_neg hz, w64j (by omega) (by omega), of_is _ i1, Option.bind_some, of_is _ hs, Option.bind_some]
        have ha : spigotref01_Add.f (enc (n - n % s)).1 (enc (n - n % s)).2 (enc s).1 (enc s).2 = some (enc (n - n % s + s)) := by
          unfold spigotref01_Add.f; rw [if_pos ⟨okB_enc (small64 i1), okB_enc (small64 hs)⟩, dec_enc, dec_enc]
        rw [ha, Option.bind_some, told_is _ (small_le (by omega)), Option.bind_some]
theorem within_is (a b c : Int) : grain_within.f a b c = some (decide (b ≤ a ∧ a ≤ c)) := by
  unfold grain_within.f
  by_cases h : a ≥ b
  · rw [if_pos h]; congr 1; rw [decide_eq_decide]; omega
  · rw [if_neg h, decide_eq_false (by omega)]
theorem rin02 (a b c : Int) : spigotref02_In.f a b c = some (decide (b ≤ a ∧ a ≤ c)) := by
  unfold spigotref02_In.f
  by_cases h : a ≥ b
  · rw [if_pos h]; congr 1; rw [decide_eq_decide]; omega
  · rw [if_neg h, decide_eq_false (by omega)]
/-- The band about a middle. -/
def bandS (m w t : Int) : Int × Int × Int :=
  if (0 ≤ m ∧ m ≤ 1099511627776) ∧ (0 ≤ w ∧ w ≤ 10000) ∧ 1 ≤ t then
    (if (ceilS ((m * (10000 - w) + 9999) / 10000) t).2 = 0 ∧ (ceilS ((m * (10000 - w) + 9999) / 10000) t).1 ≤ (floorS (if m * (10000 + w) / 10000 > 1099511627776 then 1099511627776 else m * (10000 + w) / 10000) t).1 then
      ((ceilS ((m * (10000 - w) + 9999) / 10000) t).1, (floorS (if m * (10000 + w) / 10000 > 1099511627776 then 1099511627776 else m * (10000 + w) / 10000) t).1, 0) else (0, 0, 22))
  else (0, 0, 2)
theorem cei_tt (x : Int) : cei x 10000 = (x + 9999) / 10000 := by
  unfold cei flo
  rw [if_neg (by omega)]; omega
theorem band_b {m w : Int} (h1 : 0 ≤ m ∧ m ≤ 1099511627776) (h2 : 0 ≤ w ∧ w ≤ 10000) : 0 ≤ m * (10000 - w) ∧ m * (10000 - w) ≤ 10995116277760000 ∧ 0 ≤ m * (10000 + w) ∧ m * (10000 + w) ≤ 21990232555520000 := by
  have a1 : 0 ≤ m * (10000 - w) := Int.mul_nonneg h1.1 (by omega)
  have a2 : 0 ≤ m * (10000 + w) := Int.mul_nonneg h1.1 (by omega)
  have a3 : m * (10000 - w) ≤ 1099511627776 * 10000 := Int.mul_le_mul h1.2 (by omega) (by omega) (by omega)
  have a4 : m * (10000 + w) ≤ 1099511627776 * 20000 := Int.mul_le_mul h1.2 (by omega) (by omega) (by omega)
  exact ⟨a1, by omega, a2, by omega⟩
theorem tell_ge {z : Int} (h : 0 ≤ z) : 0 ≤ (tell z).1 := by
  unfold tell
  split
  · exact h
  · exact Int.le_refl _
theorem ceilS_b {n s : Int} (h : 0 ≤ n) : 0 ≤ (ceilS n s).1 := by
  unfold ceilS
  split
  · exact Int.le_refl _
  · have hm := Int.emod_nonneg n (show s ≠ 0 by omega)
    have hm2 : n % s ≤ n := by have := Int.emod_add_mul_ediv n s; have := Int.mul_nonneg (show 0 ≤ s by omega) (Int.ediv_nonneg h (show 0 ≤ s by omega)); omega
    exact tell_ge (by split <;> omega)
theorem near_is (m w t : Int) (h1 : 0 ≤ m ∧ m ≤ 1099511627776) (h2 : 0 ≤ w ∧ w ≤ 10000) (ht : in64 t) (h3 : 1 ≤ t) :
    grain_near.f m w t = some (if (ceilS ((m * (10000 - w) + 9999) / 10000) t).2 = 0 then
      (if (ceilS ((m * (10000 - w) + 9999) / 10000) t).1 > (floorS (if m * (10000 + w) / 10000 > 1099511627776 then 1099511627776 else m * (10000 + w) / 10000) t).1 then (-1, -1, 0)
        else ((ceilS ((m * (10000 - w) + 9999) / 10000) t).1, (floorS (if m * (10000 + w) / 10000 > 1099511627776 then 1099511627776 else m * (10000 + w) / 10000) t).1, 0))
      else (0, 0, (ceilS ((m * (10000 - w) + 9999) / 10000) t).2)) := by
  obtain ⟨a1, a2, a3, a4⟩ := band_b h1 h2
  have im : in64 m := by unfold in64; omega
  have f1 : fr m (10000 - w) 10000 true = ((m * (10000 - w) + 9999) / 10000, 0) := by
    unfold fr frac; rw [if_neg (by omega)]; simp only [if_true]; rw [cei_tt, tell_in (by unfold in64; omega)]
  have f2 : fr m (10000 + w) 10000 false = (m * (10000 + w) / 10000, 0) := by
    unfold fr frac flo; rw [if_neg (by omega)]; simp only [Bool.false_eq_true, if_false]; rw [if_neg (by omega), tell_in (by unfold in64; omega)]
  unfold grain_near.f
  rw [w64j (by omega) (by omega), w64j (by omega) (by omega), up_is m (10000 - w) 10000 im (by unfold in64; omega) (by decide), Option.bind_some, f1, if_pos rfl, down_is m (10000 + w) 10000 im (by unfold in64; omega) (by decide), Option.bind_some, f2, if_pos rfl]
  simp only
  have emn : mn (m * (10000 + w) / 10000) 1099511627776 = (if m * (10000 + w) / 10000 > 1099511627776 then 1099511627776 else m * (10000 + w) / 10000) := rfl
  rw [ceil_is _ t (by unfold in64; omega) ht, Option.bind_some, emn, floor_is _ t (by unfold in64; split <;> omega) ht, Option.bind_some]
  have hf : (floorS (if m * (10000 + w) / 10000 > 1099511627776 then 1099511627776 else m * (10000 + w) / 10000) t).2 = 0 := by unfold floorS; rw [if_neg (by split <;> omega)]
  rw [if_pos hf]
  by_cases he : (ceilS ((m * (10000 - w) + 9999) / 10000) t).2 = 0
  · rw [if_pos he, if_pos he]
    generalize (floorS (if m * (10000 + w) / 10000 > 1099511627776 then 1099511627776 else m * (10000 + w) / 10000) t).1 = hi
    by_cases hg : (ceilS ((m * (10000 - w) + 9999) / 10000) t).1 > hi
    · rw [if_pos hg, if_pos hg]
    · rw [if_neg hg, if_neg hg]
  · rw [if_neg he, if_neg he]
theorem band_is (m w t : Int) (ht : in64 t) (k : Nat) (hk : 1 ≤ k) : grain_Band.f k m w t = some (bandS m w t) := by
  obtain ⟨k, rfl⟩ : ∃ m, k = m + 1 := ⟨k - 1, by omega⟩
  have hno : grain_Band.j0 (k + 1) m w t true = some (0, 0, 2) := by simp [grain_Band.j0]
  unfold grain_Band.f bandS
  simp only [within_is, Option.bind_some]
  by_cases h1 : 0 ≤ m ∧ m ≤ 1099511627776
  · rw [decide_eq_true h1, if_pos rfl]
    by_cases h2 : 0 ≤ w ∧ w ≤ 10000
    · rw [decide_eq_true h2, if_pos rfl]
      by_cases h3 : t < 1
      · rw [decide_eq_true h3, if_neg (by omega)]; exact hno
      · rw [decide_eq_false h3, if_pos ⟨h1, h2, by omega⟩]
        simp only [grain_Band.j0, Bool.false_eq_true, if_false]
        rw [near_is m w t h1 h2 ht (by omega), Option.bind_some]
        obtain ⟨a1, a2, a3, a4⟩ := band_b h1 h2
        have hp := ceilS_b (n := (m * (10000 - w) + 9999) / 10000) (s := t) (by omega)
        generalize ceilS ((m * (10000 - w) + 9999) / 10000) t = lo at *
        generalize (floorS (if m * (10000 + w) / 10000 > 1099511627776 then 1099511627776 else m * (10000 + w) / 10000) t).1 = hi at *
        by_cases he : lo.2 = 0
        · by_cases hg : lo.1 > hi
          · rw [if_pos he, if_pos hg, if_neg (show ¬ (lo.2 = 0 ∧ lo.1 ≤ hi) by omega)]; simp
          · have hno1 : ¬ ((lo.1 == -1 && (hi == -1)) = true) := by simp; omega
            rw [if_pos he, if_neg hg, if_pos (show lo.2 = 0 ∧ lo.1 ≤ hi from ⟨he, by omega⟩)]
            simp only [if_true]
            rw [if_neg hno1]
        · have hno2 : ¬ (lo.2 = 0 ∧ lo.1 ≤ hi) := fun h => he h.1
          rw [if_neg he, if_neg hno2]
          exact if_neg he
    · rw [decide_eq_false h2, if_neg (by simp), if_neg (fun h => h2 h.2.1)]; exact hno
  · rw [decide_eq_false h1, if_neg (by simp), if_neg (fun h => h1 h.1)]; exact hno
theorem rband_is (m w t : Int) (ht : in64 t) (k : Nat) (hk : 2 ≤ k) : spigotref02_Band.f k m w t = some (bandS m w t) := by
  obtain ⟨k, rfl⟩ : ∃ m, k = m + 1 := ⟨k - 1, by omega⟩
  have hno : spigotref02_Band.j0 (k + 1) m w t true = some (0, 0, 2) := by simp [spigotref02_Band.j0]
  unfold spigotref02_Band.f bandS
  simp only [rin02, Option.bind_some]
  by_cases h1 : 0 ≤ m ∧ m ≤ 1099511627776
  · rw [decide_eq_true h1, if_pos rfl]
    by_cases h2 : 0 ≤ w ∧ w ≤ 10000
    · rw [decide_eq_true h2, if_pos rfl]
      by_cases h3 : t < 1
      · rw [decide_eq_true h3, if_neg (by omega)]; exact hno
      · obtain ⟨a1, a2, a3, a4⟩ := band_b h1 h2
        rw [decide_eq_false h3, if_pos ⟨h1, h2, by omega⟩]
        simp only [spigotref02_Band.j0, Bool.false_eq_true, if_false]
        rw [w64j (n := 10000 - w) (by omega) (by omega), w64j (n := m * (10000 - w)) (by omega) (by omega), w64j (n := m * (10000 - w) + 9999) (by omega) (by omega), Int.tdiv_eq_ediv_of_nonneg (by omega), w64j (n := (m * (10000 - w) + 9999) / 10000) (by omega) (by omega),
          w64j (n := 10000 + w) (by omega) (by omega), w64j (n := m * (10000 + w)) (by omega) (by omega), Int.tdiv_eq_ediv_of_nonneg (by omega), w64j (n := m * (10000 + w) / 10000) (by omega) (by omega)]
        rw [rceil_is _ t (by unfold in64; omega) ht k (by omega), Option.bind_some]
        have key : ∀ u : Int, 0 ≤ u → u ≤ 1099511627776 → ((spigotref02_Floor.f u t).bind fun bt => if (ceilS ((m * (10000 - w) + 9999) / 10000) t).2 = 0 then (if (ceilS ((m * (10000 - w) + 9999) / 10000) t).1 > bt.1 then some (0, 0, 22) else some ((ceilS ((m * (10000 - w) + 9999) / 10000) t).1, bt.1, 0)) else some (0, 0, 22)) =
            some (if (ceilS ((m * (10000 - w) + 9999) / 10000) t).2 = 0 ∧ (ceilS ((m * (10000 - w) + 9999) / 10000) t).1 ≤ (floorS u t).1 then ((ceilS ((m * (10000 - w) + 9999) / 10000) t).1, (floorS u t).1, (0 : Int)) else (0, 0, 22)) := by
          intro u u0 u1
          rw [rfloor_is u t (by unfold in64; omega) ht, Option.bind_some]
          generalize ceilS ((m * (10000 - w) + 9999) / 10000) t = lo
          generalize (floorS u t).1 = hi
          by_cases he : lo.2 = 0
          · rw [if_pos he]
            by_cases hg : lo.1 > hi
            · rw [if_pos hg, if_neg (by omega)]
            · rw [if_neg hg, if_pos ⟨he, by omega⟩]
          · rw [if_neg he, if_neg (fun h => he h.1)]
        by_cases hu : m * (10000 + w) / 10000 > 1099511627776
        · rw [if_pos hu, if_pos hu]; exact key _ (by omega) (by omega)
        · rw [if_neg hu, if_neg hu]; exact key _ (by omega) (by omega)
    · rw [decide_eq_false h2, if_neg (by simp), if_neg (fun h => h2 h.2.1)]; exact hno
  · rw [decide_eq_false h1, if_neg (by simp), if_neg (fun h => h1 h.1)]; exact hno
end Go.Proofs.Ytbhbnefifgdioaa.PL
