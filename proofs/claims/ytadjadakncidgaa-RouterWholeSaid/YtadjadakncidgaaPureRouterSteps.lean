/- RouterSteps: the least number on any two steps is the document's, or refused; in plain numbers. -/
import Derived.Test.YtadjadakncidgaaRou5
import Derived.Test.YtadjadakncidgaaUx10
import Derived.Test.YtadjadakncidgaaUx8
set_option linter.unusedVariables false
set_option linter.unusedSimpArgs false
namespace Go.Proofs.Ytadjadakncidgaa.Hand
open Go Go.RowKit Go.Proofs.YtadjadakncidgaaW.PrintWords Go.Proofs.YtadjadakncidgaaW.PrintMore Go.Proofs.Ytadjadakncidgaa.RL Go.Proofs.Ytadjadakncidgaa.PL Go.Proofs.Ytadjadakncidgaa.U
theorem awake23 : spigotlaw23_awake.f = some true := by kernel_rfl
theorem common_l0 : ∀ (k X Y : Nat), Y < k → spigotref23_common.l0 k (X : Int) (Y : Int) = some (Nat.gcd X Y : Int) := by
  intro k
  induction k with
  | zero => intro X Y h; omega
  | succ k ih =>
    intro X Y hY
    unfold spigotref23_common.l0
    by_cases h : Y = 0
    · subst h; rw [if_pos (show ((0 : Nat) : Int) = 0 from rfl), Nat.gcd_zero_right]
    · have hlt : X % Y < Y := Nat.mod_lt _ (by omega)
      rw [if_neg (by omega), show Int.tmod (X : Int) (Y : Int) = ((X % Y : Nat) : Int) from rfl, ih Y (X % Y) (by omega), ← gcd_step]
theorem common_l0' (k A B : Nat) (h : B < k) : spigotref23_common.f k (A : Int) (B : Int) = some (Nat.gcd A B : Int) := common_l0 k A B h
theorem lcm_two (A B : Nat) (hA : 0 < A) : (A : Int) / (Nat.gcd A B : Int) * B = A * ((B : Int) / (Nat.gcd A B : Int)) := by
  obtain ⟨a, ha⟩ := Nat.gcd_dvd_left A B
  obtain ⟨b, hb⟩ := Nat.gcd_dvd_right A B
  have hg := Nat.gcd_pos_of_pos_left B hA
  generalize Nat.gcd A B = g at *
  subst ha; subst hb
  rw [Int.natCast_mul, Int.natCast_mul, Int.mul_ediv_cancel_left _ (by omega), Int.mul_ediv_cancel_left _ (by omega), ← Int.mul_assoc, Int.mul_comm (a : Int) g]
theorem refstep_is (a b : Int) (ha : in64 a) (hb : in64 b) (k : Nat) (hk : 9223372036854775810 ≤ k) : spigotref23_Step.f k a b = some (stepV a b) := by
  obtain ⟨k, rfl⟩ : ∃ j, k = j + 1 := ⟨k - 1, by omega⟩
  unfold spigotref23_Step.f stepV
  by_cases h1 : a < 1
  · rw [if_pos h1, if_pos (.inl h1)]; simp [spigotref23_Step.j0]
  · rw [if_neg h1]
    by_cases h2 : b < 1
    · rw [if_pos (.inr h2), decide_eq_true h2]; simp [spigotref23_Step.j0]
    · rw [if_neg (fun h => h.elim h1 h2), decide_eq_false h2]
      simp only [spigotref23_Step.j0, Bool.false_eq_true, if_false]
      obtain ⟨A, rfl⟩ := Int.eq_ofNat_of_zero_le (show 0 ≤ a by omega)
      obtain ⟨B, rfl⟩ := Int.eq_ofNat_of_zero_le (show 0 ≤ b by omega)
      have hb2 := hb.2
      have hg := Nat.gcd_pos_of_pos_left B (show 0 < A by omega)
      have e : gcdI (A : Int) (B : Int) = (Nat.gcd A B : Int) := by unfold gcdI; simp
      have hd0 : 0 ≤ (B : Int) / (Nat.gcd A B : Int) := Int.ediv_nonneg (by omega) (by omega)
      have hd1 : (B : Int) / (Nat.gcd A B : Int) ≤ B := Int.ediv_le_self _ (by omega)
      have hd : in64 ((B : Int) / (Nat.gcd A B : Int)) := by unfold in64; omega
      rw [e, lcm_two A B (by omega), of_is _ ha, Option.bind_some, common_l0' k A B (by omega), Option.bind_some, if_neg (by omega), Int.tdiv_eq_ediv_of_nonneg (by omega), w64 hd.1 hd.2, of_is _ hd, Option.bind_some, rmul_is _ _ (small64 ha) (small64 hd), Option.bind_some, told_is _ (small_le (in64_mul ha hd)), Option.bind_some]
end Go.Proofs.Ytadjadakncidgaa.Hand
namespace Go.Proofs.Ytadjadakncidgaa.Pure
open Go Go.RowKit Go.Proofs.Ytadjadakncidgaa.U Go.Proofs.Ytadjadakncidgaa.Hand Go.Proofs.Ytadjadakncidgaa.PL Go.Proofs.YtadjadakncidgaaW.PrintWords Go.Proofs.YtadjadakncidgaaW.PrintMore
theorem RouterSteps : spigotlaw23_RouterSteps.Pure := by
  intro a b wa wb
  refine ⟨9223372036854775810, ?_⟩
  unfold spigotlaw23_RouterSteps.f
  rw [awake23, Option.bind_some, if_pos rfl, step_is a b (in64_wf wa) (in64_wf wb) _ (Nat.le_refl _), Option.bind_some, refstep_is a b (in64_wf wa) (in64_wf wb) _ (Nat.le_refl _), Option.bind_some, if_pos rfl]
  simp
end Go.Proofs.Ytadjadakncidgaa.Pure
