/- GrainInside: for any three numbers of 64 bits, a band's ends are on the tick, no farther off than the width, and a wider one has no narrower ends; no condition. -/
import Derived.Test.YthnmpnilcdnimaaPl02
import Derived.Test.YthnmpnilcdnimaaGx10
set_option linter.unusedVariables false
set_option linter.unusedSimpArgs false
namespace Go.Proofs.Ythnmpnilcdnimaa.Pure
open Go Go.RowKit Go.Proofs.Ythnmpnilcdnimaa.G Go.Proofs.Ythnmpnilcdnimaa.PL Go.Proofs.Ythnmpnilcdnimaa.Hand Go.Proofs.Ythnmpnilcdnimaa.RL
namespace Near2
theorem down_on (n s : Int) : (n - n % s) % s = 0 := by
  have hdm := Int.emod_add_mul_ediv n s
  rw [show n - n % s = s * (n / s) by omega]; exact Int.mul_emod_right _ _
theorem up_on (n s : Int) : (n - n % s + s) % s = 0 := by
  have hdm := Int.emod_add_mul_ediv n s
  rw [show n - n % s + s = s * (n / s + 1) by rw [Int.mul_add]; omega]; exact Int.mul_emod_right _ _
end Near2
namespace Inside
/-- The next one up, as a number. -/
def up (n s : Int) : Int := if n % s = 0 then n else n - n % s + s
theorem up_ge {n s : Int} (hs : 1 ≤ s) : n ≤ up n s := by
  have := Int.emod_lt_of_pos n (show 0 < s by omega)
  unfold up; split <;> omega
theorem up_on {n s : Int} : up n s % s = 0 := by
  unfold up; split
  · assumption
  · exact Near2.up_on n s
theorem le_of_on {n c s : Int} (hs : 1 ≤ s) (hc : c % s = 0) (h : n ≤ c) : up n s ≤ c := by
  have e1 : up n s = s * (up n s / s) := by have := Int.emod_add_mul_ediv (up n s) s; rw [up_on] at this; omega
  have e2 : c = s * (c / s) := by have := Int.emod_add_mul_ediv c s; rw [hc] at this; omega
  have hlt : up n s < n + s := by
    have := Int.emod_nonneg n (show s ≠ 0 by omega)
    unfold up; split <;> omega
  by_cases hle : up n s / s ≤ c / s
  · have := Int.mul_le_mul_of_nonneg_left hle (show 0 ≤ s by omega); omega
  · have h2 : c / s + 1 ≤ up n s / s := by omega
    have := Int.mul_le_mul_of_nonneg_left h2 (show 0 ≤ s by omega)
    rw [Int.mul_add] at this; omega
theorem up_mono {a b s : Int} (hs : 1 ≤ s) (h : a ≤ b) : up a s ≤ up b s := le_of_on hs up_on (Int.le_trans h (up_ge hs))
theorem down_mono {a b s : Int} (hs : 1 ≤ s) (h : a ≤ b) : a - a % s ≤ b - b % s := by
  have h1 := Int.ediv_le_ediv (show 0 < s by omega) h
  have := Int.mul_le_mul_of_nonneg_left h1 (show 0 ≤ s by omega)
  have e1 := Int.emod_add_mul_ediv a s
  have e2 := Int.emod_add_mul_ediv b s
  omega
/-- The lower and the upper price, ahead of the ticks. -/
def lx (m w : Int) : Int := (m * (10000 - w) + 9999) / 10000
def hy (m w : Int) : Int := if m * (10000 + w) / 10000 > 1099511627776 then 1099511627776 else m * (10000 + w) / 10000
theorem band_ok (m w t : Int) (h1 : 0 ≤ m ∧ m ≤ 1099511627776) (h2 : 0 ≤ w ∧ w ≤ 10000) (h3 : 1 ≤ t) :
    bandS m w t = if up (lx m w) t ≤ hy m w - hy m w % t then (up (lx m w) t, hy m w - hy m w % t, 0) else (0, 0, 22) := by
  obtain ⟨a1, a2, a3, a4⟩ := band_b h1 h2
  have y0 : 0 ≤ hy m w := by unfold hy; split <;> omega
  have y1 : hy m w ≤ 1099511627776 := by unfold hy; split <;> omega
  have x0 : 0 ≤ lx m w := by unfold lx; omega
  have x1 := up_ge (n := lx m w) h3
  have m0 := Int.emod_nonneg (hy m w) (show t ≠ 0 by omega)
  unfold bandS
  rw [if_pos ⟨h1, h2, h3⟩]
  have ef : floorS (hy m w) t = (hy m w - hy m w % t, 0) := by unfold floorS; rw [if_neg (by omega)]
  have ec : ceilS (lx m w) t = tell (up (lx m w) t) := by unfold ceilS up; rw [if_neg (by omega)]
  show (if (ceilS (lx m w) t).2 = 0 ∧ (ceilS (lx m w) t).1 ≤ (floorS (hy m w) t).1 then ((ceilS (lx m w) t).1, (floorS (hy m w) t).1, (0 : Int)) else (0, 0, 22)) = _
  rw [ef, ec]
  by_cases hi : in64 (up (lx m w) t)
  · rw [tell_in hi]
    by_cases hl : up (lx m w) t ≤ hy m w - hy m w % t
    · rw [if_pos hl, if_pos ⟨rfl, hl⟩]
    · rw [if_neg hl, if_neg (fun h => hl h.2)]
  · rw [tell_out hi, if_neg (by simp), if_neg]
    unfold in64 at hi
    omega
end Inside
open Inside in
theorem GrainInside : spigotlaw02_GrainInside.Pure := by
  intro m w t _ _ ht
  have ht := in64_wf ht
  refine ⟨3, ?_⟩
  unfold spigotlaw02_GrainInside.f
  rw [awake02 3 (by omega), Option.bind_some, if_pos rfl, band_is m w t ht 3 (by omega), Option.bind_some]
  by_cases hin : (0 ≤ m ∧ m ≤ 1099511627776) ∧ (0 ≤ w ∧ w ≤ 10000) ∧ 1 ≤ t
  · obtain ⟨h1, h2, h3⟩ := hin
    rw [band_ok m w t h1 h2 h3]
    by_cases hl : up (lx m w) t ≤ hy m w - hy m w % t
    · rw [if_pos hl]
      obtain ⟨a1, a2, a3, a4⟩ := band_b h1 h2
      have x0 : 0 ≤ lx m w := by unfold lx; omega
      have x1 := up_ge (n := lx m w) h3
      have y1 : hy m w ≤ 1099511627776 := by unfold hy; split <;> omega
      have y2 : hy m w ≤ m * (10000 + w) / 10000 := by unfold hy; split <;> omega
      have x2 : m * (10000 - w) ≤ lx m w * 10000 := by unfold lx; omega
      have m0 := Int.emod_nonneg (hy m w) (show t ≠ 0 by omega)
      have e1 : m * (10000 - w) = m * 10000 - m * w := by rw [Int.mul_sub]
      have e2 : m * (10000 + w) = m * 10000 + m * w := by rw [Int.mul_add]
      have o1 : onS (up (lx m w) t) t = true := by unfold onS; rw [decide_eq_true_eq]; exact ⟨h3, by omega, up_on⟩
      have o2 : onS (hy m w - hy m w % t) t = true := by unfold onS; rw [decide_eq_true_eq]; exact ⟨h3, by omega, Near2.down_on _ _⟩
      have hmono1 : 0 ≤ w + 1 → w + 1 ≤ 10000 → up (lx m (w + 1)) t ≤ up (lx m w) t := by
        intro _ _
        refine up_mono h3 ?_
        unfold lx
        have : m * (10000 - (w + 1)) ≤ m * (10000 - w) := Int.mul_le_mul_of_nonneg_left (by omega) h1.1
        omega
      have hmono2 : hy m w - hy m w % t ≤ hy m (w + 1) - hy m (w + 1) % t := by
        refine down_mono h3 ?_
        unfold hy
        have : m * (10000 + w) ≤ m * (10000 + (w + 1)) := Int.mul_le_mul_of_nonneg_left (by omega) h1.1
        split <;> split <;> omega
      have hb : w + 1 ≤ 10000 → bandS m (w + 1) t = (up (lx m (w + 1)) t, hy m (w + 1) - hy m (w + 1) % t, 0) := by
        intro hw
        rw [band_ok m (w + 1) t h1 (by omega) h3, if_pos (by have := hmono1 (by omega) hw; omega)]
      have y3 : hy m w - hy m w % t ≤ hy m w := by omega
      generalize up (lx m w) t = lo at *
      generalize hy m w - hy m w % t = hi at *
      generalize up (lx m (w + 1)) t = lo2 at *
      generalize hy m (w + 1) - hy m (w + 1) % t = hi2 at *
      generalize m * w = p at *
      simp only [if_true]
      rw [on_is, Option.bind_some, o1, if_pos rfl, on_is, Option.bind_some, o2, if_pos rfl, if_neg (by omega), if_neg (by omega), if_neg (by omega), w64j (n := m - lo) (by omega) (by omega), w64j (n := (m - lo) * 10000) (by omega) (by omega), w64j (n := p) (by omega) (by omega), if_neg (by omega),
        w64j (n := hi - m) (by omega) (by omega), w64j (n := (hi - m) * 10000) (by omega) (by omega), decide_eq_false (by omega)]
      simp only [spigotlaw02_GrainInside.j0, Bool.false_eq_true, if_false]
      by_cases hw : w = 10000
      · rw [if_pos hw]
      · rw [if_neg hw, w64j (by omega) (by omega), band_is m (w + 1) t ht 2 (by omega), Option.bind_some, hb (by omega)]
        simp only [if_true]
        rw [if_pos (hmono1 (by omega) (by omega))]
        simpa using hmono2
    · rw [if_neg hl, if_neg (by simp)]; simp
  · have : bandS m w t = (0, 0, 2) := by unfold bandS; exact if_neg hin
    rw [this, if_neg (by simp)]; simp
end Go.Proofs.Ythnmpnilcdnimaa.Pure
