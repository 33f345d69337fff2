/- The gate: what it answers, in plain numbers; the law's right and awake, walked. -/
import Derived.Test.YtmeengcbfhhncaaRig
import Derived.Test.YtmeengcbfhhncaaKx0
import Derived.Test.YtmeengcbfhhncaaKx5
set_option linter.unusedVariables false
set_option linter.unusedSimpArgs false
namespace Go.Proofs.Ytmeengcbfhhncaa.Hand
open Go Go.RowKit Go.Proofs.YtmeengcbfhhncaaW.PrintWords Go.Proofs.YtmeengcbfhhncaaW.PrintMore Go.Proofs.YtmeengcbfhhncaaW.PrintLast Go.Proofs.Ytmeengcbfhhncaa.RL Go.Proofs.Ytmeengcbfhhncaa.PL Go.Proofs.Ytmeengcbfhhncaa.K
/-- A symbol's bounds. -/
structure SymOk (lot tick mid wid most worth : Int) : Prop where
  blot : 1 ≤ lot ∧ lot ≤ 1099511627776
  bmost : 1 ≤ most ∧ most ≤ 1099511627776
  btick : 1 ≤ tick ∧ tick ≤ 1099511627776
  bmid : 1 ≤ mid ∧ mid ≤ 1099511627776
  bwid : 0 ≤ wid ∧ wid ≤ 10000
  bworth : 1 ≤ worth ∧ worth ≤ 4611686018427387904
  band : (bandS mid wid tick).2.2 = 0
  low : 1 ≤ (bandS mid wid tick).1
theorem SymOk.of {x : Sym} (h : symS x = true) : SymOk x.2.1 x.2.2.1 x.2.2.2.1 x.2.2.2.2.1 x.2.2.2.2.2.1 x.2.2.2.2.2.2 := by
  unfold symS at h
  simp only [Bool.and_eq_true, decide_eq_true_eq] at h
  obtain ⟨⟨⟨⟨⟨⟨⟨h1, h2⟩, h3⟩, h4⟩, h5⟩, h6⟩, h7⟩, h8⟩ := h
  exact ⟨h1, h2, h3, h4, h5, h6, h7, h8⟩
def shp (lot tick most side q p : Int) : Int := if side < 1 ∨ 2 < side then 2 else if q < 1 ∨ q % lot ≠ 0 then 20 else if most < q then 160 else if p < 1 ∨ p % tick ≠ 0 then 21 else 0
def wst (side p hi : Int) : Int := if side = 2 then hi else p
/-- What the gate answers. -/
def chk (lot tick mid wid most worth side q p : Int) : Int × Int × Int :=
  if shp lot tick most side q p ≠ 0 then (0, 0, shp lot tick most side q p)
  else if p < (bandS mid wid tick).1 ∨ (bandS mid wid tick).2.1 < p then (0, 0, 22)
  else if (worthS q (wst side p (bandS mid wid tick).2.1)).2 ≠ 0 ∨ worth < (worthS q (wst side p (bandS mid wid tick).2.1)).1 then (0, 0, 161)
  else (wst side p (bandS mid wid tick).2.1, (worthS q (wst side p (bandS mid wid tick).2.1)).1, 0)
theorem shape_is (s : ByteArray) (lot tick mid wid most worth side q p : Int) (hl : 1 ≤ lot) (ht : 1 ≤ tick) : gate_shape.f 8 s lot tick mid wid most worth side q p = some (shp lot tick most side q p) := by
  have j1 : ∀ b, gate_shape.j1 7 q p b s lot tick mid wid most worth = some (if b = true then 20 else if most < q then 160 else if p < 1 ∨ p % tick ≠ 0 then 21 else 0) := by
    intro b
    simp only [gate_shape.j1, on_is, Option.bind_some]
    by_cases hb : b = true
    · rw [if_pos hb, if_pos hb]
    · rw [if_neg hb, if_neg hb]
      by_cases h1 : q > most
      · rw [if_pos h1, if_pos (show most < q from h1)]
      · rw [if_neg h1, if_neg (show ¬ most < q from h1)]
        by_cases h2 : p < 1
        · rw [if_pos h2, if_pos (.inl h2)]
        · rw [if_neg h2]
          by_cases h3 : p % tick = 0
          · rw [show onS p tick = true by unfold onS; exact decide_eq_true ⟨ht, by omega, h3⟩, if_pos rfl, if_neg (fun h => h.elim h2 (fun h => h h3))]
          · rw [show onS p tick = false by unfold onS; exact decide_eq_false (fun h => h3 h.2.2), if_neg (by simp), if_pos (.inr h3)]
  have j0 : ∀ b, gate_shape.j0 8 q p b s lot tick mid wid most worth = some (if b = true then 2 else if q < 1 ∨ q % lot ≠ 0 then 20 else if most < q then 160 else if p < 1 ∨ p % tick ≠ 0 then 21 else 0) := by
    intro b
    simp only [gate_shape.j0, on_is, Option.bind_some, j1]
    by_cases hb : b = true
    · rw [if_pos hb, if_pos hb]
    · rw [if_neg hb, if_neg hb]
      by_cases h1 : q < 1
      · rw [if_pos h1, if_pos (c := q < 1 ∨ q % lot ≠ 0) (.inl h1)]; simp
      · rw [if_neg h1]
        by_cases h3 : q % lot = 0
        · rw [show onS q lot = true by unfold onS; exact decide_eq_true ⟨hl, by omega, h3⟩, if_neg (c := q < 1 ∨ q % lot ≠ 0) (fun h => h.elim h1 (fun h => h h3))]; simp
        · rw [show onS q lot = false by unfold onS; exact decide_eq_false (fun h => h3 h.2.2), if_pos (c := q < 1 ∨ q % lot ≠ 0) (.inr h3)]; simp
  unfold gate_shape.f shp
  by_cases h1 : side = 1
  · rw [if_pos h1, j0, if_neg (c := side < 1 ∨ 2 < side) (by omega)]; simp only [Bool.false_eq_true, if_false]
  · rw [if_neg h1, j0]
    by_cases h2 : side = 2
    · rw [if_neg (c := side < 1 ∨ 2 < side) (by omega), if_neg (c := (side != 2) = true) (by simp [h2])]
    · rw [if_pos (c := side < 1 ∨ 2 < side) (by omega), if_pos (c := (side != 2) = true) (by simp [h2])]
theorem chk_is {s : ByteArray} {lot tick mid wid most worth : Int} (h : SymOk lot tick mid wid most worth) (side q p : Int) : gate_Check.f 8 s lot tick mid wid most worth side q p = some (chk lot tick mid wid most worth side q p) := by
  unfold gate_Check.f chk
  rw [shape_is s lot tick mid wid most worth side q p h.blot.1 h.btick.1, Option.bind_some]
  by_cases h0 : shp lot tick most side q p = 0
  · rw [if_pos h0, if_neg (by simp [h0]), band_is mid wid tick (by have := h.btick; unfold in64; omega) 8 (by omega), Option.bind_some, if_pos h.band]
    generalize bandS mid wid tick = b
    have jt : gate_Check.j0 8 side q p b.2.1 true s lot tick mid wid most worth = some (0, 0, 22) := by simp only [gate_Check.j0]; simp
    by_cases h1 : p < b.1
    · rw [if_pos h1, jt, if_pos (.inl h1)]
    · rw [if_neg h1]
      by_cases h2 : b.2.1 < p
      · rw [decide_eq_true (show p > b.2.1 from h2), jt, if_pos (.inr h2)]
      · rw [decide_eq_false (show ¬ p > b.2.1 from h2), if_neg (by omega)]
        have hw : grain_Worst.f side p b.2.1 = some (wst side p b.2.1) := by unfold grain_Worst.f wst; split <;> rfl
        simp only [gate_Check.j0, hw, Option.bind_some, worth_is, Bool.false_eq_true, if_false]
        generalize wst side p b.2.1 = t
        by_cases h3 : (worthS q t).2 = 0
        · rw [if_pos h3]
          by_cases h4 : (worthS q t).1 > worth
          · rw [if_pos h4, if_pos (.inr h4)]
          · rw [if_neg h4, if_neg (by omega)]
        · rw [if_neg h3, if_pos (.inl h3)]
  · rw [if_neg h0, if_pos h0]
end Go.Proofs.Ytmeengcbfhhncaa.Hand
