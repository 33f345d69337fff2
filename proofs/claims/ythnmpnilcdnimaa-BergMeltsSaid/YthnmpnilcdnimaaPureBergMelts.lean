/- BergMelts: for any two numbers of 64 bits, shown and executed again and again, all is executed behind just as many slices as are told; no condition. -/
import Derived.Test.YthnmpnilcdnimaaPl26
set_option linter.unusedVariables false
namespace Go.Proofs.Ythnmpnilcdnimaa.Pure
open Go Go.RowKit Go.Proofs.Ythnmpnilcdnimaa.B Go.Proofs.Ythnmpnilcdnimaa.PL Go.Proofs.Ythnmpnilcdnimaa.RL
theorem melts (q s : Int) (h : ok2 q s) (n : Nat) (hn : cei q s = n) (hn3 : n ≤ 300) (d : Nat) : ∀ (k i : Nat) (f : Int), i ≤ n → n - i = d → f = (if s * i < q then s * i else q) → 40 + d < k →
    spigotlaw26_BergMelts.l0 k q s f (n : Int) (i : Int) = some true := by
  obtain ⟨h1, h2, h3, h4⟩ := h
  rw [ceil_is q s h1 h3] at hn
  have hdm := Int.emod_add_mul_ediv q s
  have hm0 := Int.emod_nonneg q (show s ≠ 0 by omega)
  have hm1 := Int.emod_lt_of_pos q (show 0 < s by omega)
  induction d with
  | zero =>
    intro k i f hi hd hf hk
    obtain ⟨k, rfl⟩ : ∃ m, k = m + 1 := ⟨k - 1, by omega⟩
    have hin : i = n := by omega
    have hall : ¬ s * i < q := by
      subst hin
      by_cases hz : q % s = 0
      · rw [if_pos hz] at hn; rw [← hn]; omega
      · rw [if_neg hz] at hn; rw [← hn]
        have : s * (q / s + 1) = s * (q / s) + s := by grind
        omega
    rw [if_neg hall] at hf
    rw [hf]
    simp only [spigotlaw26_BergMelts.l0]
    rw [if_neg (by omega), shown_ok _ _ _ (by unfold ok3; omega) k (by omega), Option.bind_some, if_neg (show ¬ q - q > s by omega)]
    simp
  | succ d ih =>
    intro k i f hi hd hf hk
    obtain ⟨k, rfl⟩ : ∃ m, k = m + 1 := ⟨k - 1, by omega⟩
    have hlt : s * i < q := by
      have hle : (i : Int) ≤ n - 1 := by omega
      have hmul : s * (i : Int) ≤ s * ((n : Int) - 1) := Int.mul_le_mul_of_nonneg_left hle (by omega)
      by_cases hz : q % s = 0
      · rw [if_pos hz] at hn
        have : s * ((n : Int) - 1) = s * (q / s) - s := by rw [← hn]; grind
        omega
      · rw [if_neg hz] at hn
        have : s * ((n : Int) - 1) = s * (q / s) := by rw [← hn]; grind
        omega
    have hi0 : 0 ≤ s * (i : Int) := Int.mul_nonneg (by omega) (by omega)
    rw [if_pos hlt] at hf
    subst hf
    have hstep : s * ((i + 1 : Nat) : Int) = s * i + s := by rw [Int.natCast_add]; grind
    have hr := ih k (i + 1) (s * (i : Int) + (if q - s * (i : Int) > s then s else q - s * (i : Int))) (by omega) (by omega) (by rw [hstep]; split <;> split <;> omega) (by omega)
    simp only [spigotlaw26_BergMelts.l0]
    rw [if_pos (by omega), shown_ok _ _ _ (by unfold ok3; omega) k (by omega), Option.bind_some, if_pos rfl]
    simp only
    rw [if_neg (by split <;> omega), if_neg (by split <;> omega), wsucc i (by omega), w64i (by split <;> omega) (by split <;> omega)]
    exact hr
theorem BergMelts : spigotlaw26_BergMelts.Pure := by
  intro q s _ _
  refine ⟨500, ?_⟩
  unfold spigotlaw26_BergMelts.f
  rw [awake26 500 (by omega), Option.bind_some, if_pos rfl]
  by_cases h : ok2 q s
  · rw [slices_ok q s h 500 (by omega), Option.bind_some, if_pos rfl]
    by_cases h3 : cei q s > 300
    · rw [if_pos h3]
    · rw [if_neg h3]
      have hb := ceil_b q s h.1 h.2.2.1
      obtain ⟨n, hn⟩ := Int.eq_ofNat_of_zero_le hb.1
      simp only
      rw [hn]
      refine melts q s h n hn (by omega) n 500 0 0 (by omega) (by omega) ?_ (by omega)
      have := h.1
      simp
      omega
  · rw [slices_no q s h 500 (by omega), Option.bind_some, if_neg (by simp)]; simp
end Go.Proofs.Ythnmpnilcdnimaa.Pure
