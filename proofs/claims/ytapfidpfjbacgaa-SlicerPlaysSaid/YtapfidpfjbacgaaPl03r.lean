/- What the document calls a curve, its sum, what is done of it, a target. -/
import Derived.Test.YtapfidpfjbacgaaPl03
import Derived.Test.YtapfidpfjbacgaaUx0
import Derived.Test.YtapfidpfjbacgaaUx0
import Derived.Test.YtapfidpfjbacgaaHandI
import Derived.Test.YtapfidpfjbacgaaUx0
set_option linter.unusedVariables false
set_option linter.unusedSimpArgs false
namespace Go.Proofs.Ytapfidpfjbacgaa.PL
open Go Go.RowKit Go.Proofs.Ytapfidpfjbacgaa.U Go.Proofs.Ytapfidpfjbacgaa.Hand Go.Proofs.Ytapfidpfjbacgaa.RL Go.Proofs.YtapfidpfjbacgaaW.PrintWords Go.Proofs.YtapfidpfjbacgaaW.PrintMore
theorem any_sum : ∀ (l : List Int), l.all okW = true → l.any posW = decide (0 < l.sum) ∧ 0 ≤ l.sum
  | [], _ => by simp
  | a :: l, h => by
    rw [List.all_cons, Bool.and_eq_true] at h
    have ih := any_sum l h.2
    have ha := h.1
    unfold okW at ha
    rw [decide_eq_true_eq] at ha
    rw [List.any_cons, List.sum_cons, ih.1]
    refine ⟨?_, by omega⟩
    unfold posW
    rw [Bool.eq_iff_iff, Bool.or_eq_true, decide_eq_true_eq, decide_eq_true_eq, decide_eq_true_eq]; omega
theorem right_l0 (l : List Int) (hl : l.length ≤ 64) : ∀ (d k i : Nat) (s : Int), i + d = l.length → d < k → 0 ≤ s → s ≤ i * 1048576 →
    spigotref03_Right.l0 k l s (i : Int) = some (if (l.drop i).all okW = true then decide (0 < s + (l.drop i).sum) else false) := by
  intro d
  induction d with
  | zero =>
    intro k i s hi hk h0 h1
    obtain ⟨k, rfl⟩ : ∃ m, k = m + 1 := ⟨k - 1, by omega⟩
    simp only [spigotref03_Right.l0]
    rw [if_neg (by omega), List.drop_eq_nil_of_le (by omega)]; simp
  | succ d ih =>
    intro k i s hi hk h0 h1
    obtain ⟨k, rfl⟩ : ∃ m, k = m + 1 := ⟨k - 1, by omega⟩
    have hlt : i < l.length := by omega
    have hx : rd l (i : Int) = l[i] := by simp [rd, hlt]
    have hd : l.drop i = l[i] :: l.drop (i + 1) := List.drop_eq_getElem_cons hlt
    simp only [spigotref03_Right.l0]
    rw [if_pos (by omega), if_pos (by omega), hx, hd, wsucc i (by omega)]
    by_cases h2 : l[i] < 0
    · have e : okW l[i] = false := by unfold okW; rw [decide_eq_false_iff_not]; omega
      rw [if_pos h2, List.all_cons, e]; rfl
    · rw [if_neg h2]
      by_cases h3 : l[i] > 1048576
      · have e : okW l[i] = false := by unfold okW; rw [decide_eq_false_iff_not]; omega
        rw [if_pos h3, List.all_cons, e]; rfl
      · have e : okW l[i] = true := by unfold okW; rw [decide_eq_true_eq]; omega
        rw [if_neg h3, List.all_cons, e, Bool.true_and, w64q (n := s + l[i]) (by omega) (by omega), ih k (i + 1) (s + l[i]) (by omega) (by omega) (by omega) (by omega), List.sum_cons, Int.add_assoc]
theorem right_is (l : List Int) (k : Nat) (hk : 67 ≤ k) : spigotref03_Right.f k l = some (rightW l) := by
  obtain ⟨k, rfl⟩ : ∃ m, k = m + 1 := ⟨k - 1, by omega⟩
  unfold spigotref03_Right.f rightW
  by_cases h1 : (l.length : Int) < 1
  · rw [if_pos h1, decide_eq_false (by omega)]; simp [spigotref03_Right.j0]
  · rw [if_neg h1]
    by_cases h2 : (l.length : Int) > 64
    · rw [if_pos h2, decide_eq_false (by omega)]; simp [spigotref03_Right.j0]
    · rw [if_neg h2, decide_eq_true (by omega)]
      simp only [spigotref03_Right.j0, Bool.false_eq_true, if_false]
      have := right_l0 l (by omega) l.length k 0 0 (by omega) (by omega) (by omega) (by omega)
      rw [show ((0 : Nat) : Int) = 0 from rfl] at this
      rw [this, List.drop_zero, Int.zero_add, Bool.true_and]
      by_cases h : l.all okW = true
      · rw [if_pos h, h, (any_sum l h).1]; simp
      · rw [if_neg h]; simp [Bool.eq_false_iff.2 h]
end Go.Proofs.Ytapfidpfjbacgaa.PL

set_option linter.unusedVariables false
set_option linter.unusedSimpArgs false
namespace Go.Proofs.Ytapfidpfjbacgaa.PL
open Go Go.RowKit Go.Proofs.Ytapfidpfjbacgaa.U Go.Proofs.Ytapfidpfjbacgaa.Hand Go.Proofs.Ytapfidpfjbacgaa.RL Go.Proofs.YtapfidpfjbacgaaW.PrintWords Go.Proofs.YtapfidpfjbacgaaW.PrintMore
theorem rd_at {l : List Int} {i : Nat} (h : i < l.length) : rd l (i : Int) = l.getD i 0 := by simp [rd, h]
theorem rtotal_l0 (l : List Int) (hz : okZ l) : ∀ (d k i : Nat), i + d = l.length → d < k → spigotref03_Total.l0 k l (sumN l i) (i : Int) = some l.sum := by
  have hl := hz.1
  intro d
  induction d with
  | zero =>
    intro k i hi hk
    obtain ⟨k, rfl⟩ : ∃ m, k = m + 1 := ⟨k - 1, by omega⟩
    simp only [spigotref03_Total.l0]
    rw [if_neg (by omega), show i = l.length by omega, sumN_all]
  | succ d ih =>
    intro k i hi hk
    obtain ⟨k, rfl⟩ : ∃ m, k = m + 1 := ⟨k - 1, by omega⟩
    have h1 := sumN_bd hz i
    have h2 := getD_bd hz i
    simp only [spigotref03_Total.l0]
    rw [if_pos (by omega), if_pos (by omega), wsucc i (by omega), rd_at (by omega), w64q (by omega) (by omega), ← sumN_succ, ih k (i + 1) (by omega) (by omega)]
theorem rtotal_is (l : List Int) (hz : okZ l) (k : Nat) (hk : 65 ≤ k) : spigotref03_Total.f k l = some l.sum := by
  unfold spigotref03_Total.f
  have := rtotal_l0 l hz l.length k 0 (by omega) (by have := hz.1; omega)
  rwa [sumN_zero] at this
end Go.Proofs.Ytapfidpfjbacgaa.PL

set_option linter.unusedVariables false
set_option linter.unusedSimpArgs false
namespace Go.Proofs.Ytapfidpfjbacgaa.PL
open Go Go.RowKit Go.Proofs.Ytapfidpfjbacgaa.U Go.Proofs.Ytapfidpfjbacgaa.Hand Go.Proofs.Ytapfidpfjbacgaa.RL Go.Proofs.YtapfidpfjbacgaaW.PrintWords Go.Proofs.YtapfidpfjbacgaaW.PrintMore
theorem rdone_l0 (l : List Int) (hz : okZ l) (t s : Int) (hs : 1 ≤ s) (hs2 : s ≤ 1073741824) (ht : 0 ≤ t) (ht2 : t ≤ s) : ∀ (d k i : Nat), i + d = l.length → d < k → spigotref03_Done.l0 k l t s (doneP l t s i) (i : Int) = some (doneN l t s) := by
  have hl := hz.1
  have ha1 : 0 ≤ t * (l.length : Int) := Int.mul_nonneg ht (by omega)
  have ha2 : t * (l.length : Int) ≤ 1073741824 * 64 := Int.mul_le_mul (by omega) (by omega) (by omega) (by omega)
  intro d
  induction d with
  | zero =>
    intro k i hi hk
    obtain ⟨k, rfl⟩ : ∃ m, k = m + 1 := ⟨k - 1, by omega⟩
    simp only [spigotref03_Done.l0]
    rw [if_neg (by omega), show i = l.length by omega]; rfl
  | succ d ih =>
    intro k i hi hk
    obtain ⟨k, rfl⟩ : ∃ m, k = m + 1 := ⟨k - 1, by omega⟩
    have hb := doneP_bd hz t (show 0 ≤ s by omega) i
    have hu : sumN l i * s ≤ 67108864 * 1073741824 := Int.mul_le_mul (sumN_bd hz i).2 hs2 (by omega) (by omega)
    have h2 := getD_bd hz i
    have hi1 : 0 ≤ (i : Int) * s := Int.mul_nonneg (by omega) (by omega)
    have hi2 : (i : Int) * s ≤ 64 * 1073741824 := Int.mul_le_mul (by omega) (by omega) (by omega) (by omega)
    have hcl := clamp_b (t * (l.length : Int) - (i : Int) * s) (show 0 ≤ s by omega)
    have hm1 := Int.mul_nonneg h2.1 hcl.1
    have hm2 : l.getD i 0 * clampG (t * (l.length : Int) - (i : Int) * s) s ≤ 1048576 * 1073741824 := Int.mul_le_mul h2.2 (by omega) hcl.1 (by omega)
    have hstep : doneP l t s (i + 1) = doneP l t s i + l.getD i 0 * clampG (t * (l.length : Int) - (i : Int) * s) s := rfl
    have ih := ih k (i + 1) (by omega) (by omega)
    simp only [spigotref03_Done.l0]
    rw [if_pos (show (i : Int) < (l.length : Int) by omega), w64q (n := t * (l.length : Int)) (by omega) (by omega), w64q (n := (i : Int) * s) (by omega) (by omega), w64q (n := t * (l.length : Int) - (i : Int) * s) (by omega) (by omega), wsucc i (by omega)]
    by_cases c1 : t * (l.length : Int) - (i : Int) * s > s
    · have hc : clampG (t * (l.length : Int) - (i : Int) * s) s = s := by unfold clampG; rw [if_pos c1]
      rw [hc] at hm1 hm2 hstep
      rw [if_pos c1, if_pos (by omega), if_pos (by omega), rd_at (by omega), w64q (n := l.getD i 0 * s) (by omega) (by omega), w64q (n := doneP l t s i + l.getD i 0 * s) (by omega) (by omega), ← hstep, ih]
    · rw [if_neg c1]
      by_cases c2 : t * (l.length : Int) - (i : Int) * s > 0
      · have hc : clampG (t * (l.length : Int) - (i : Int) * s) s = t * (l.length : Int) - (i : Int) * s := by unfold clampG; rw [if_neg c1, if_pos c2]
        rw [hc] at hm1 hm2 hstep
        rw [if_pos c2, if_pos (by omega), rd_at (by omega), w64q (n := l.getD i 0 * (t * (l.length : Int) - (i : Int) * s)) (by omega) (by omega), w64q (n := doneP l t s i + l.getD i 0 * (t * (l.length : Int) - (i : Int) * s)) (by omega) (by omega), ← hstep, ih]
      · have hc : clampG (t * (l.length : Int) - (i : Int) * s) s = 0 := by unfold clampG; rw [if_neg c1, if_neg c2]
        rw [hc, Int.mul_zero, Int.add_zero] at hstep
        rw [if_neg c2, ← hstep, ih]
theorem rdone_is (l : List Int) (hz : okZ l) (t s : Int) (hs : 1 ≤ s) (hs2 : s ≤ 1073741824) (ht : 0 ≤ t) (ht2 : t ≤ s) (k : Nat) (hk : 65 ≤ k) : spigotref03_Done.f k l t s = some (doneN l t s) :=
  rdone_l0 l hz t s hs hs2 ht ht2 l.length k 0 (by omega) (by have := hz.1; omega)
theorem qpart_is (a b : Int) (up : Bool) (ha : small a) (hb : small b) (h : b ≠ 0) : spigotref01_Part.f (enc a).1 (enc a).2 (enc b).1 (enc b).2 up = some (enc (frac a b up)) := by
  unfold spigotref01_Part.f; rw [if_pos ⟨okB_enc ha, okB_enc hb, by rw [dec_enc]; exact h⟩, dec_enc, dec_enc]
theorem rtarget03_is (q : Int) (l : List Int) (hr : rightW l = true) (t s : Int) (hq : 0 ≤ q) (hq1 : q ≤ 1099511627776) (hs : 1 ≤ s) (hs2 : s ≤ 1073741824) (ht : 0 ≤ t) (ht2 : t ≤ s) (k : Nat) (hk : 65 ≤ k) : spigotref03_Target.f k q l t s = some (q * doneN l t s / (l.sum * s)) := by
  have hz := (right_okZ hr).1
  have hd := doneN_bd hz t (show 0 ≤ s by omega)
  have ha := all_span hr hs hs2
  have hv := target_val hr t hq hq1 hs hs2
  have hqs : in64 q := by unfold in64; omega
  have hds : in64 (doneN l t s) := by unfold in64; omega
  have has : in64 (l.sum * s) := by unfold in64; omega
  have hm := in64_mul hqs hds
  unfold spigotref03_Target.f
  rw [of_is q hqs, Option.bind_some, rdone_is l hz t s hs hs2 ht ht2 k hk, Option.bind_some, of_is _ hds, Option.bind_some, rmul_is _ _ (small64 hqs) (small64 hds), Option.bind_some, rtotal_is l hz k hk, Option.bind_some, w64q (by omega) (by omega), of_is _ has, Option.bind_some, qpart_is _ _ _ (small_le hm) (small64 has) (by omega), Option.bind_some]
  have hf : frac (q * doneN l t s) (l.sum * s) false = q * doneN l t s / (l.sum * s) := by
    unfold frac flo
    simp only [Bool.false_eq_true, if_false]
    rw [if_neg (by omega)]
  rw [hf, int_is _ (small64 (by unfold in64; omega)), Option.bind_some, intV_in (by unfold in64; omega)]
end Go.Proofs.Ytapfidpfjbacgaa.PL
