/- The document's Check, in plain numbers. -/
import Derived.Test.YtmeengcbfhhncaaGat
import Derived.Test.YtmeengcbfhhncaaKx10
set_option linter.unusedVariables false
set_option linter.unusedSimpArgs false
namespace Go.Proofs.Ytmeengcbfhhncaa.Hand
open Go Go.RowKit Go.Proofs.YtmeengcbfhhncaaW.PrintWords Go.Proofs.YtmeengcbfhhncaaW.PrintMore Go.Proofs.YtmeengcbfhhncaaW.PrintLast Go.Proofs.Ytmeengcbfhhncaa.RL Go.Proofs.Ytmeengcbfhhncaa.PL Go.Proofs.Ytmeengcbfhhncaa.K
theorem rchk_is {s : ByteArray} {lot tick mid wid most worth : Int} (h : SymOk lot tick mid wid most worth) (side q p : Int) : spigotref16_Check.f 8 s lot tick mid wid most worth side q p = some (chk lot tick mid wid most worth side q p) := by
  have hl := h.blot.1
  have ht := h.btick.1
  have hb := rband_is mid wid tick (by have := h.btick; unfold in64; omega) 5 (by omega)
  unfold chk
  generalize bandS mid wid tick = b at *
  have j3 : ∀ c, spigotref16_Check.j3 5 side q p b.2.1 c s lot tick mid wid most worth = some (if c = true then (0, 0, 22) else if (worthS q (wst side p b.2.1)).2 ≠ 0 ∨ worth < (worthS q (wst side p b.2.1)).1 then (0, 0, 161) else (wst side p b.2.1, (worthS q (wst side p b.2.1)).1, 0)) := by
    intro c
    simp only [spigotref16_Check.j3]
    by_cases hc : c = true
    · rw [if_pos hc, if_pos hc]
    · rw [if_neg hc, if_neg hc]
      have key : ∀ t, ((spigotref02_Worth.f 4 q t).bind fun bt => if bt.2 = 0 then if bt.1 > worth then some (0, 0, 161) else some (t, bt.1, 0) else some (0, 0, 161)) = some (if (worthS q t).2 ≠ 0 ∨ worth < (worthS q t).1 then ((0 : Int), (0 : Int), (161 : Int)) else (t, (worthS q t).1, 0)) := by
        intro t
        rw [rworth_is q t 4 (by omega), Option.bind_some]
        by_cases h3 : (worthS q t).2 = 0
        · rw [if_pos h3]
          by_cases h4 : (worthS q t).1 > worth
          · rw [if_pos h4, if_pos (.inr h4)]
          · rw [if_neg h4, if_neg (by omega)]
        · rw [if_neg h3, if_pos (.inl h3)]
      unfold wst
      by_cases h2 : side = 2
      · rw [if_pos h2, if_pos h2]; exact key _
      · rw [if_neg h2, if_neg h2]; exact key _
  have j2 : ∀ c, spigotref16_Check.j2 6 side q p c s lot tick mid wid most worth = some (if c = true then (0, 0, 21) else if p < b.1 ∨ b.2.1 < p then (0, 0, 22) else if (worthS q (wst side p b.2.1)).2 ≠ 0 ∨ worth < (worthS q (wst side p b.2.1)).1 then (0, 0, 161) else (wst side p b.2.1, (worthS q (wst side p b.2.1)).1, 0)) := by
    intro c
    simp only [spigotref16_Check.j2, hb, Option.bind_some, j3]
    by_cases hc : c = true
    · rw [if_pos hc, if_pos hc]
    · rw [if_neg hc, if_neg hc]
      by_cases h1 : p < b.1
      · rw [if_pos h1, if_pos (c := p < b.1 ∨ b.2.1 < p) (.inl h1)]; simp
      · rw [if_neg h1]
        by_cases h2 : b.2.1 < p
        · rw [if_pos (decide_eq_true (show p > b.2.1 from h2)), if_pos (c := p < b.1 ∨ b.2.1 < p) (.inr h2)]
        · rw [if_neg (c := decide (p > b.2.1) = true) (by simp; omega), if_neg (c := p < b.1 ∨ b.2.1 < p) (by omega)]
  have j1 : ∀ c, spigotref16_Check.j1 7 side q p c s lot tick mid wid most worth = some (if c = true then (0, 0, 20) else if most < q then (0, 0, 160) else if p < 1 ∨ p % tick ≠ 0 then (0, 0, 21) else if p < b.1 ∨ b.2.1 < p then (0, 0, 22) else if (worthS q (wst side p b.2.1)).2 ≠ 0 ∨ worth < (worthS q (wst side p b.2.1)).1 then (0, 0, 161) else (wst side p b.2.1, (worthS q (wst side p b.2.1)).1, 0)) := by
    intro c
    simp only [spigotref16_Check.j1, j2]
    by_cases hc : c = true
    · rw [if_pos hc, if_pos hc]
    · rw [if_neg hc, if_neg hc]
      by_cases h1 : q > most
      · rw [if_pos h1, if_pos (show most < q from h1)]
      · rw [if_neg h1, if_neg (show ¬ most < q from h1)]
        by_cases h2 : p < 1
        · rw [if_pos h2, if_pos (c := p < 1 ∨ p % tick ≠ 0) (.inl h2)]; simp
        · rw [if_neg h2, if_neg (c := tick = 0) (by omega), Int.tmod_eq_emod_of_nonneg (by omega)]
          by_cases h3 : p % tick = 0
          · rw [if_neg (c := (p % tick != 0) = true) (by simp [h3]), if_neg (c := p < 1 ∨ p % tick ≠ 0) (fun h => h.elim h2 (fun h => h h3))]
          · rw [if_pos (c := (p % tick != 0) = true) (by simp [h3]), if_pos (c := p < 1 ∨ p % tick ≠ 0) (.inr h3)]
  have j0 : ∀ c, spigotref16_Check.j0 8 side q p c s lot tick mid wid most worth = some (if c = true then (0, 0, 2) else if q < 1 ∨ q % lot ≠ 0 then (0, 0, 20) else if most < q then (0, 0, 160) else if p < 1 ∨ p % tick ≠ 0 then (0, 0, 21) else if p < b.1 ∨ b.2.1 < p then (0, 0, 22) else if (worthS q (wst side p b.2.1)).2 ≠ 0 ∨ worth < (worthS q (wst side p b.2.1)).1 then (0, 0, 161) else (wst side p b.2.1, (worthS q (wst side p b.2.1)).1, 0)) := by
    intro c
    simp only [spigotref16_Check.j0, j1]
    by_cases hc : c = true
    · rw [if_pos hc, if_pos hc]
    · rw [if_neg hc, if_neg hc]
      by_cases h2 : q < 1
      · rw [if_pos h2, if_pos (c := q < 1 ∨ q % lot ≠ 0) (.inl h2)]; simp
      · rw [if_neg h2, if_neg (c := lot = 0) (by omega), Int.tmod_eq_emod_of_nonneg (by omega)]
        by_cases h3 : q % lot = 0
        · rw [if_neg (c := (q % lot != 0) = true) (by simp [h3]), if_neg (c := q < 1 ∨ q % lot ≠ 0) (fun h => h.elim h2 (fun h => h h3))]
        · rw [if_pos (c := (q % lot != 0) = true) (by simp [h3]), if_pos (c := q < 1 ∨ q % lot ≠ 0) (.inr h3)]
  unfold spigotref16_Check.f shp
  have fin : ∀ c : Bool, (c = true ↔ (side < 1 ∨ 2 < side)) → spigotref16_Check.j0 8 side q p c s lot tick mid wid most worth = some (if (if side < 1 ∨ 2 < side then (2 : Int) else if q < 1 ∨ q % lot ≠ 0 then 20 else if most < q then 160 else if p < 1 ∨ p % tick ≠ 0 then 21 else 0) ≠ 0 then (0, 0, (if side < 1 ∨ 2 < side then 2 else if q < 1 ∨ q % lot ≠ 0 then 20 else if most < q then 160 else if p < 1 ∨ p % tick ≠ 0 then 21 else 0)) else if p < b.1 ∨ b.2.1 < p then (0, 0, 22) else if (worthS q (wst side p b.2.1)).2 ≠ 0 ∨ worth < (worthS q (wst side p b.2.1)).1 then (0, 0, 161) else (wst side p b.2.1, (worthS q (wst side p b.2.1)).1, 0)) := by
    intro c hc
    rw [j0]
    by_cases h1 : side < 1 ∨ 2 < side
    · rw [if_pos (hc.2 h1)]; simp only [if_pos h1]; rfl
    · rw [if_neg (fun h => h1 (hc.1 h))]; simp only [if_neg h1]
      by_cases h2 : q < 1 ∨ q % lot ≠ 0
      · simp only [if_pos h2]; rfl
      · simp only [if_neg h2]
        by_cases h3 : most < q
        · simp only [if_pos h3]; rfl
        · simp only [if_neg h3]
          by_cases h4 : p < 1 ∨ p % tick ≠ 0
          · simp only [if_pos h4]; rfl
          · simp only [if_neg h4]; rfl
  by_cases h1 : side < 1
  · rw [if_pos h1]; exact fin true (by simp; omega)
  · rw [if_neg h1]; exact fin (decide (side > 2)) (by rw [decide_eq_true_eq]; omega)
theorem rcheck_calls (s : ByteArray) (lot tick mid wid most worth side q p : Int) (h : SymOk lot tick mid wid most worth) (w : World) : Calls Try.prog 9 #[.agg #[.string s, .int .i64 lot, .int .i64 tick, .int .i64 mid, .int .i64 wid, .int .i64 most, .int .i64 worth], .int .i64 side, .int .i64 q, .int .i64 p] w fun e w' => e = .returned (.tuple #[.int .i64 (chk lot tick mid wid most worth side q p).1, .int .i64 (chk lot tick mid wid most worth side q p).2.1, .int .i64 (chk lot tick mid wid most worth side q p).2.2]) ∧ Below w.heap.size w w' :=
  spigotref16_Check.calls 8 _ _ _ _ _ _ _ _ _ _ _ _ _ w (rchk_is h side q p)
end Go.Proofs.Ytmeengcbfhhncaa.Hand
