/- What package checked tells, in plain numbers: the functions that the printed texts call. -/
import Derived.Test.YthnmpnilcdnimaaChk
import Derived.Test.YthnmpnilcdnimaaRefs
set_option linter.unusedVariables false
set_option linter.unusedSimpArgs false
namespace Go.Proofs.Ythnmpnilcdnimaa.Hand
open Go Go.RowKit Go.Proofs.YthnmpnilcdnimaaW.PrintWords Go.Proofs.YthnmpnilcdnimaaW.PrintMore Go.Proofs.Ythnmpnilcdnimaa.RL

/-- It is a number of 64 bits. -/
def in64 (a : Int) : Prop := -9223372036854775808 ≤ a ∧ a ≤ 9223372036854775807
instance (a : Int) : Decidable (in64 a) := by unfold in64; infer_instance

theorem sgn_tell (s : Bool) (h l : Int) (h0 : 0 ≤ h) (l0 : 0 ≤ l) (l1 : l ≤ 18446744073709551615) : sgn s h l = tell (if s = true then -(h * 18446744073709551616 + l) else h * 18446744073709551616 + l) := by
  unfold sgn tell
  cases s
  · simp only [Bool.false_eq_true, if_false]
    by_cases c : h = 0 ∧ l ≤ 9223372036854775807
    · rw [if_pos c, if_pos (by omega)]; obtain ⟨rfl, _⟩ := c; simp
    · rw [if_neg c, if_neg (by omega)]
  · simp only [if_true]
    by_cases c : h = 0 ∧ l ≤ 9223372036854775808
    · rw [if_pos c, if_pos (by omega)]; obtain ⟨rfl, _⟩ := c; simp
    · rw [if_neg c, if_neg (by omega)]
theorem halves (a b : Int) : pHi a b * 18446744073709551616 + pLo a b = a * b := by unfold pHi pLo; omega
theorem ab_nat (a : Int) : ab a = (a.natAbs : Int) := by unfold ab; split <;> omega
theorem ab_mul (a b : Int) : ab a * ab b = ((a * b).natAbs : Int) := by rw [ab_nat, ab_nat, Int.natAbs_mul]; simp
theorem sign_mul (a b : Int) : a * b = if (decide (a < 0) != decide (b < 0)) = true then -(ab a * ab b) else ab a * ab b := by
  unfold ab
  by_cases h1 : a < 0 <;> by_cases h2 : b < 0 <;> simp [h1, h2, Int.neg_mul, Int.mul_neg]
theorem mulT_tell (a b : Int) (ha : in64 a) (hb : in64 b) : mulT a b = tell (a * b) := by
  unfold mulT
  have a1 := ab_ge a; have b1 := ab_ge b
  obtain ⟨p11, p12⟩ := pHi_b a1 (by have := ab_le ha.1 ha.2; omega) b1 (by have := ab_le hb.1 hb.2; omega)
  obtain ⟨p21, p22⟩ := pLo_b (ab a) (ab b)
  rw [sgn_tell _ _ _ p11 p21 p22, halves, ← sign_mul]
theorem frT_tell (a b c : Int) (up : Bool) (ha : in64 a) (hb : in64 b) (hc : in64 c) (hz : c ≠ 0) : frT a b c up = tell (frac (a * b) c up) := by
  have a1 := ab_ge a; have b1 := ab_ge b
  have a2 := ab_le ha.1 ha.2; have b2 := ab_le hb.1 hb.2; have c2 := ab_le hc.1 hc.2
  have c1 : 1 ≤ ab c := by unfold ab; split <;> omega
  obtain ⟨p11, p12⟩ := pHi_b a1 (by omega) b1 (by omega)
  obtain ⟨p21, p22⟩ := pLo_b (ab a) (ab b)
  have m0 := Int.emod_nonneg (pHi (ab a) (ab b)) (show ab c ≠ 0 by omega)
  have m1 := Int.emod_lt_of_pos (pHi (ab a) (ab b)) (show 0 < ab c by omega)
  obtain ⟨q0, q1⟩ := dq_b m0 m1 p21 p22
  obtain ⟨r0, r1⟩ := dr_b (hi := pHi (ab a) (ab b) % ab c) (lo := pLo (ab a) (ab b)) (show 0 < ab c by omega)
  have s0 : 0 ≤ pHi (ab a) (ab b) / ab c := Int.ediv_nonneg p11 (by omega)
  have s1 : pHi (ab a) (ab b) / ab c ≤ pHi (ab a) (ab b) := Int.ediv_le_self _ p11
  have hV := halves (ab a) (ab b)
  have hV2 : ab a * ab b ≤ 9223372036854775808 * 9223372036854775808 := Int.mul_le_mul a2 b2 b1 (by omega)
  -- the quotient and the rest
  have d1 := Int.emod_add_mul_ediv (pHi (ab a) (ab b)) (ab c)
  have d2 : dr (pHi (ab a) (ab b) % ab c) (pLo (ab a) (ab b)) (ab c) + ab c * dq (pHi (ab a) (ab b) % ab c) (pLo (ab a) (ab b)) (ab c) = pHi (ab a) (ab b) % ab c * 18446744073709551616 + pLo (ab a) (ab b) := Int.emod_add_mul_ediv _ _
  unfold frT
  generalize dr (pHi (ab a) (ab b) % ab c) (pLo (ab a) (ab b)) (ab c) = rr at *
  generalize dq (pHi (ab a) (ab b) % ab c) (pLo (ab a) (ab b)) (ab c) = ql at *
  generalize pHi (ab a) (ab b) / ab c = qh at *
  have hVq : rr + ab c * (qh * 18446744073709551616 + ql) = ab a * ab b := by
    rw [← hV, ← d1]
    have : ab c * (qh * 18446744073709551616 + ql) = ab c * qh * 18446744073709551616 + ab c * ql := by grind
    generalize ab c * qh = z1 at *
    generalize ab c * ql = z2 at *
    omega
  obtain ⟨e1, e2⟩ := (Int.ediv_emod_unique (a := ab a * ab b) (b := ab c) (r := rr) (q := qh * 18446744073709551616 + ql) (by omega)).2 ⟨hVq, r0, r1⟩
  have hqh : qh ≤ 4611686018427387904 := by omega
  have hw : IntKind.u64.wrap (qh + (ql + 1) / 18446744073709551616) = qh + (ql + 1) / 18446744073709551616 := by rw [IntKind.wrap_u64]; omega
  rw [hw, sgn_tell _ _ _ (by omega) (by omega) (by omega), sgn_tell _ _ _ s0 q0 q1]
  have hplus : (qh + (ql + 1) / 18446744073709551616) * 18446744073709551616 + (ql + 1) % 18446744073709551616 = qh * 18446744073709551616 + ql + 1 := by omega
  rw [hplus]
  -- as the document has it
  have hnat : ab a * ab b / ab c = (((a * b).natAbs / c.natAbs : Nat) : Int) := by rw [ab_mul, ab_nat]; simp
  have hmod : ab a * ab b % ab c = (((a * b).natAbs % c.natAbs : Nat) : Int) := by rw [ab_mul, ab_nat]; simp
  rw [e1] at hnat
  rw [e2] at hmod
  have hsign : (a * b).natAbs = 0 ∨ odd3 a b c = (decide (a * b < 0) != decide (c < 0)) := by
    by_cases h0 : a * b = 0
    · left; omega
    · right
      unfold odd3
      congr 1
      have ha0 : a ≠ 0 := fun h => h0 (by rw [h]; simp)
      have hb0 : b ≠ 0 := fun h => h0 (by rw [h]; simp)
      by_cases h1 : a < 0 <;> by_cases h2 : b < 0
      · have := Int.mul_pos_of_neg_of_neg h1 h2
        simp [h1, h2]; omega
      · have := Int.mul_neg_of_neg_of_pos h1 (show 0 < b by omega)
        simp [h1, h2, this]
      · have := Int.mul_neg_of_pos_of_neg (show 0 < a by omega) h2
        simp [h1, h2, this]
      · have := Int.mul_pos (show 0 < a by omega) (show 0 < b by omega)
        simp [h1, h2]; omega
  unfold frac
  rw [flo_eq (a * b) c hz, cei_eq (a * b) c hz]
  rw [← apply_ite tell]
  congr 1
  generalize qh * 18446744073709551616 + ql = q at *
  rcases hsign with hs | hs
  · rw [hs] at hnat hmod ⊢
    simp at hnat hmod
    subst hnat; subst hmod
    cases up <;> simp
  · rw [hs]
    generalize (decide (a * b < 0) != decide (c < 0)) = s at *
    generalize (a * b).natAbs % c.natAbs = m at *
    generalize (a * b).natAbs / c.natAbs = n at *
    subst hmod; subst hnat
    cases up <;> cases s <;> by_cases hm : m = 0 <;> simp [hm] <;> omega
end Go.Proofs.Ythnmpnilcdnimaa.Hand
