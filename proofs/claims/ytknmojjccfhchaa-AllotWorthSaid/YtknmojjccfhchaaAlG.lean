/- A fair part, and how far one is below it, as the document has them, plainly. -/
import Derived.Test.YtknmojjccfhchaaAlH
import Derived.Test.YtknmojjccfhchaaBelow
import Derived.Test.YtknmojjccfhchaaHandI
import Derived.Test.YtknmojjccfhchaaUx12
import Derived.Test.YtknmojjccfhchaaUx11
set_option linter.unusedVariables false
set_option linter.unusedSimpArgs false
namespace Go.Proofs.Ytknmojjccfhchaa.Hand
open Go Go.RowKit Go.Proofs.Ytknmojjccfhchaa.U Go.Proofs.YtknmojjccfhchaaW.PrintWords Go.Proofs.YtknmojjccfhchaaW.PrintMore Go.Proofs.Ytknmojjccfhchaa.RL Go.Proofs.Ytknmojjccfhchaa.PL
theorem mul_small {a b m n : Int} (ha : 0 ≤ a ∧ a ≤ m) (hb : 0 ≤ b ∧ b ≤ n) : 0 ≤ a * b ∧ a * b ≤ m * n :=
  ⟨Int.mul_nonneg ha.1 hb.1, Int.mul_le_mul ha.2 hb.2 hb.1 (by omega)⟩
theorem times_is (a b : Int) (ha : 0 ≤ a ∧ a ≤ 9223372036854775807) (hb : 0 ≤ b ∧ b ≤ 9223372036854775807) : spigotref36_times.f a b = some (enc (a * b)) := by
  unfold spigotref36_times.f
  rw [of_is a (by unfold in64; omega), Option.bind_some, of_is b (by unfold in64; omega), Option.bind_some]
  have s1 : small a := small_le (by omega)
  have s2 : small b := small_le (by omega)
  have e : spigotref01_Mul.f (enc a).1 (enc a).2 (enc b).1 (enc b).2 = some (enc (a * b)) := by
    unfold spigotref01_Mul.f; rw [if_pos ⟨okB_enc s1, okB_enc s2⟩, dec_enc, dec_enc]
  rw [e]; rfl
theorem rfair_is (q a all : Int) (hq : 0 ≤ q ∧ q ≤ 9223372036854775807) (ha : 0 ≤ a ∧ a ≤ all) (hall : 1 ≤ all ∧ all ≤ 70368744177664) : spigotref36_Fair.f q a all = some (q * a / all) := by
  have hb := mul_small hq (show 0 ≤ a ∧ a ≤ 70368744177664 by omega)
  have h1 : q * a ≤ q * all := Int.mul_le_mul_of_nonneg_left ha.2 hq.1
  have h2 : q * a / all ≤ q := by
    have := Int.ediv_le_ediv (show 0 < all by omega) h1
    rwa [Int.mul_ediv_cancel _ (by omega)] at this
  have h3 : 0 ≤ q * a / all := Int.ediv_nonneg hb.1 (by omega)
  have s1 : small (q * a) := small_le (by omega)
  have s2 : small all := small_le (by omega)
  have s3 : small (q * a / all) := small_le (by omega)
  unfold spigotref36_Fair.f
  rw [times_is q a hq (by omega), Option.bind_some, of_is all (by unfold in64; omega), Option.bind_some]
  have e : spigotref01_Part.f (enc (q * a)).1 (enc (q * a)).2 (enc all).1 (enc all).2 false = some (enc (q * a / all)) := by
    unfold spigotref01_Part.f
    rw [if_pos ⟨okB_enc s1, okB_enc s2, by rw [dec_enc]; omega⟩, dec_enc, dec_enc]
    unfold frac flo
    simp only [Bool.false_eq_true, if_false]
    rw [if_neg (by omega)]
  rw [e, Option.bind_some, int_is _ s3, Option.bind_some, intV_in (by unfold in64; omega)]
theorem neg_f (z : Int) : spigotref01_Neg.f (enc z).1 (enc z).2 = some (enc (-z)) := by
  have hl := len_pos z.natAbs
  unfold spigotref01_Neg.f
  have e2 : (enc (-z)).2 = (enc z).2 := by show Bl.nbits (-z).natAbs = Bl.nbits z.natAbs; rw [Int.natAbs_neg]
  have e1 : (enc z).1 = decide (z < 0) := rfl
  have e3 : (enc (-z)).1 = decide (-z < 0) := rfl
  have e4 : ((enc z).2.length : Int) = ((Bl.nbits z.natAbs).length : Int) := rfl
  have e5 : enc (-z) = (decide (-z < 0), (enc z).2) := by rw [← e2]; rfl
  rw [e5, e1]
  by_cases h : z < 0
  · rw [if_pos (decide_eq_true h), decide_eq_false (by omega)]
  · rw [if_neg (by rw [decide_eq_true_eq]; exact h)]
    by_cases h2 : 0 < z.natAbs
    · have h3 := hl.2 h2
      rw [if_pos (by omega), decide_eq_true (by omega)]
    · have h3 : ¬ 0 < (Bl.nbits z.natAbs).length := fun q => h2 (hl.1 (by omega))
      rw [if_neg (by omega), decide_eq_false (by omega)]
theorem over_is (q a n all : Int) (hq : 0 ≤ q ∧ q ≤ 9223372036854775807) (ha : 0 ≤ a ∧ a ≤ 70368744177664) (hn : 0 ≤ n ∧ n ≤ 9223372036854775807) (hall : 0 ≤ all ∧ all ≤ 70368744177664) : spigotref36_over.f q a n all = some (enc (q * a - n * all)) ∧ small (q * a - n * all) := by
  have b1 := mul_small hq ha
  have b2 := mul_small hn hall
  have s1 : small (q * a) := small_le (by omega)
  have s2 : small (-(n * all)) := small_le (by omega)
  unfold spigotref36_over.f
  rw [times_is q a hq (by omega), Option.bind_some, times_is n all hn (by omega), Option.bind_some, neg_f, Option.bind_some]
  have e : spigotref01_Add.f (enc (q * a)).1 (enc (q * a)).2 (enc (-(n * all))).1 (enc (-(n * all))).2 = some (enc (q * a - n * all)) := by
    unfold spigotref01_Add.f
    rw [if_pos ⟨okB_enc s1, okB_enc s2⟩, dec_enc, dec_enc, ← Int.sub_eq_add_neg]
  rw [e]
  exact ⟨rfl, small_le (by omega)⟩
theorem getD_rd (l : List Int) (i : Nat) : rd l (i : Int) = l.getD i 0 := by unfold rd; rw [Int.toNat_natCast]
end Go.Proofs.Ytknmojjccfhchaa.Hand
