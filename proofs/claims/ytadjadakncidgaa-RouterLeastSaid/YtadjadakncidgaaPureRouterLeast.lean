/- RouterLeast: a step is on both, and no lesser number is; in plain numbers. -/
import Derived.Test.YtadjadakncidgaaRou5
import Derived.Test.YtadjadakncidgaaUx19
set_option linter.unusedVariables false
set_option linter.unusedSimpArgs false
namespace Go.Proofs.Ytadjadakncidgaa.Pure
open Go Go.RowKit Go.Proofs.Ytadjadakncidgaa.U Go.Proofs.Ytadjadakncidgaa.Hand Go.Proofs.Ytadjadakncidgaa.PL Go.Proofs.Ytadjadakncidgaa.RL Go.Proofs.YtadjadakncidgaaW.PrintWords Go.Proofs.YtadjadakncidgaaW.PrintMore
theorem awake23l : spigotlaw23_awake.f = some true := by kernel_rfl
theorem least_l0 (A B N : Nat) (hA : 0 < A) (hA2 : A ≤ 300) (hB : 0 < B) (hN : N ≤ 90000) (hno : ∀ i, i * A < N → 0 < i → ¬ B ∣ i * A) : ∀ (k i : Nat), 0 < i → N < k + i → spigotlaw23_RouterLeast.l0 (k + 1) (A : Int) (B : Int) (N : Int) ((i * A : Nat) : Int) = some true := by
  intro k
  induction k with
  | zero =>
    intro i hi hk
    unfold spigotlaw23_RouterLeast.l0
    have : i * 1 ≤ i * A := Nat.mul_le_mul_left i hA
    rw [if_neg (by omega)]
  | succ k ih =>
    intro i hi hk
    unfold spigotlaw23_RouterLeast.l0
    by_cases h : i * A < N
    · have hn := hno i h hi
      have hm : Int.tmod ((i * A : Nat) : Int) (B : Int) = ((i * A % B : Nat) : Int) := rfl
      have hm0 : i * A % B ≠ 0 := fun e => hn (Nat.dvd_of_mod_eq_zero e)
      have he : ((i * A : Nat) : Int) + (A : Int) = (((i + 1) * A : Nat) : Int) := by rw [Nat.add_mul]; omega
      rw [if_pos (by omega), if_neg (by omega), hm, if_neg (by omega), he, w64 (by omega) (by rw [Nat.add_mul]; omega)]
      exact ih (i + 1) (by omega) (by omega)
    · rw [if_neg (by omega)]
theorem RouterLeast : spigotlaw23_RouterLeast.Pure := by
  intro a b wa wb
  obtain ⟨K, hK⟩ : ∃ K : Nat, 9223372036854775815 ≤ K := ⟨_, Nat.le_refl _⟩
  refine ⟨K + 3, ?_⟩
  have e0 : ∀ k, spigotlaw23_RouterLeast.j0 (k + 1) a b true = some true := fun k => by simp [spigotlaw23_RouterLeast.j0]
  unfold spigotlaw23_RouterLeast.f
  rw [awake23l, Option.bind_some, if_pos rfl]
  by_cases h1 : a < 1
  · rw [if_pos h1]; exact e0 (K + 2)
  · rw [if_neg h1]
    by_cases h2 : b < 1
    · rw [if_pos h2]; exact e0 (K + 2)
    · rw [if_neg h2]
      by_cases h3 : a > 300
      · rw [if_pos h3]; exact e0 (K + 2)
      · rw [if_neg h3]
        by_cases h4 : b > 300
        · rw [decide_eq_true h4]; exact e0 (K + 2)
        · rw [decide_eq_false h4]
          obtain ⟨A, rfl⟩ := Int.eq_ofNat_of_zero_le (show 0 ≤ a by omega)
          obtain ⟨B, rfl⟩ := Int.eq_ofNat_of_zero_le (show 0 ≤ b by omega)
          have hA : 0 < A := by omega
          have hB : 0 < B := by omega
          have e : gcdI (A : Int) (B : Int) = (Nat.gcd A B : Int) := by unfold gcdI; simp
          have hl : (A : Int) / gcdI (A : Int) (B : Int) * (B : Int) = (Nat.lcm A B : Int) := by
            rw [e, Nat.lcm, Nat.mul_div_right_comm (Nat.gcd_dvd_left A B)]
            simp
          have hlp : 0 < Nat.lcm A B := Nat.lcm_pos hA hB
          have hl2 : Nat.lcm A B ≤ A * B := Nat.le_of_dvd (Nat.mul_pos hA hB) (Nat.lcm_dvd_mul A B)
          have hl3 : A * B ≤ 300 * 300 := Nat.mul_le_mul (by omega) (by omega)
          have hst : stepV (A : Int) (B : Int) = ((Nat.lcm A B : Int), 0) := by
            unfold stepV
            rw [if_neg (by omega), hl]
            exact tell_in (by unfold in64; omega)
          have hda : Int.tmod (Nat.lcm A B : Int) (A : Int) = 0 := by
            show ((Nat.lcm A B % A : Nat) : Int) = 0
            rw [Nat.mod_eq_zero_of_dvd (Nat.dvd_lcm_left A B)]; rfl
          have hdb : Int.tmod (Nat.lcm A B : Int) (B : Int) = 0 := by
            show ((Nat.lcm A B % B : Nat) : Int) = 0
            rw [Nat.mod_eq_zero_of_dvd (Nat.dvd_lcm_right A B)]; rfl
          have hon : ∀ y : Nat, 0 < y → Int.tmod (Nat.lcm A B : Int) (y : Int) = 0 → grain_On.f (Nat.lcm A B : Int) (y : Int) = some true := by
            intro y hy hz
            unfold grain_On.f
            rw [if_pos (by omega), if_pos (by omega), if_neg (by omega), hz]
            rfl
          have hno : ∀ i, i * A < Nat.lcm A B → 0 < i → ¬ B ∣ i * A := by
            intro i hi hp hd
            have := Nat.le_of_dvd (Nat.mul_pos hp hA) (Nat.lcm_dvd (Nat.dvd_mul_left A i) hd)
            omega
          have hloop := least_l0 A B (Nat.lcm A B) hA (by omega) hB (by omega) hno K 1 (by omega) (by omega)
          rw [Nat.one_mul] at hloop
          show spigotlaw23_RouterLeast.j0 (K + 2 + 1) _ _ false = some true
          simp only [spigotlaw23_RouterLeast.j0, Bool.false_eq_true, if_false]
          rw [step_is _ _ (in64_wf wa) (in64_wf wb) _ (by omega), Option.bind_some, hst]
          simp only [if_true]
          rw [hon A hA hda, Option.bind_some, if_pos rfl, hon B hB hdb, Option.bind_some, if_pos rfl]
          show spigotlaw23_RouterLeast.j1 (K + 1 + 1) _ _ _ _ = some true
          simp only [spigotlaw23_RouterLeast.j1]
          rw [decide_eq_false (by omega)]
          simp only [Bool.false_eq_true, if_false]
          exact hloop
end Go.Proofs.Ytadjadakncidgaa.Pure
