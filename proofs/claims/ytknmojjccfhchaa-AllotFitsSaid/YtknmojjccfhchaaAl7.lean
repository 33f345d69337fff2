/- rounds and On, plainly. -/
import Derived.Test.YtknmojjccfhchaaAl5
import Derived.Test.YtknmojjccfhchaaUx2
import Derived.Test.YtknmojjccfhchaaUx3
set_option linter.unusedVariables false
set_option linter.unusedSimpArgs false
namespace Go.Proofs.Ytknmojjccfhchaa.Hand
open Go Go.RowKit Go.Proofs.YtknmojjccfhchaaW.PrintWords Go.Proofs.YtknmojjccfhchaaW.PrintMore Go.Proofs.Ytknmojjccfhchaa.RL Go.Proofs.Ytknmojjccfhchaa.PL
theorem rounds_l0 (l : List Shr) (hl : l.length ≤ 9223372036854775807) (d : Nat) : ∀ (k i : Nat), i ≤ l.length → l.length - i = d → d < k → ∃ b, U.spigotlaw36_rounds.l0 k l l (l.length : Int) (i : Int) = some b ∧ (b = true → l.length ≤ 70) := by
  induction d with
  | zero =>
    intro k i hi hd hk
    obtain ⟨k, rfl⟩ : ∃ m, k = m + 1 := ⟨k - 1, by omega⟩
    simp only [U.spigotlaw36_rounds.l0]
    rw [if_neg (by omega)]
    by_cases h : (l.length : Int) ≤ 70
    · rw [if_pos h]; exact ⟨true, rfl, fun _ => by omega⟩
    · rw [if_neg h]; exact ⟨false, rfl, fun h => by cases h⟩
  | succ d ih =>
    intro k i hi hd hk
    obtain ⟨k, rfl⟩ : ∃ m, k = m + 1 := ⟨k - 1, by omega⟩
    have hn := ih k (i + 1) (by omega) (by omega) (by omega)
    rw [show ((i + 1 : Nat) : Int) = wrap64 ((i : Int) + 1) from by rw [w64 (by omega) (by omega)]; rfl] at hn
    simp only [U.spigotlaw36_rounds.l0]
    rw [if_pos (by omega), if_pos (by omega), if_pos (by omega)]
    by_cases h1 : (U.rd_T42 l (i : Int)).f2 ≥ 1
    · rw [if_pos h1, if_neg (by omega)]
      split
      · exact ⟨false, rfl, fun h => by cases h⟩
      · exact hn
    · rw [if_neg h1]; exact hn
theorem rounds_is (l : List Shr) (hl : l.length ≤ 9223372036854775807) : ∃ b, U.spigotlaw36_rounds.f (l.length + 1) l = some b ∧ (b = true → l.length ≤ 70) :=
  rounds_l0 l hl l.length (l.length + 1) 0 (by omega) (by omega) (by omega)
theorem on_is (n s : Int) (hs : 1 ≤ s) (hn : 0 ≤ n) (hm : n % s = 0) : U.grain_On.f n s = some true := by
  unfold U.grain_On.f
  rw [if_pos (by omega), if_pos (by omega), if_neg (by omega), Int.tmod_eq_emod_of_nonneg hn, hm]
  rfl
end Go.Proofs.Ytknmojjccfhchaa.Hand
