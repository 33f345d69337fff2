/- CostAdds: of two lots of executions together the cost is the sum of theirs (any twelve numbers of 64 bits; what is too large is let go by the statement itself); no condition. -/
import Derived.Test.YtbkoahipcjknfaaPl35
import Derived.Test.YtbkoahipcjknfaaCx8
set_option linter.unusedVariables false
set_option linter.unusedSimpArgs false
namespace Go.Proofs.Ytbkoahipcjknfaa.Walk
open Go Go.RowKit Go.Proofs.Ytbkoahipcjknfaa.C Go.Proofs.Ytbkoahipcjknfaa.PL Go.Proofs.Ytbkoahipcjknfaa.Hand
theorem slip_small {s q w p : Int} (hs : s = 1 ∨ s = 2) (hp : 1 ≤ p) (hp2 : p ≤ 1073741824) (hq : 0 ≤ q) (hq2 : q ≤ 2097152) (hw : 0 ≤ w) (hw2 : w ≤ 2251799813685248) : slipS s q w p = (sg s (w - q * p), 0) ∧ 0 ≤ q * p ∧ q * p ≤ 2251799813685248 := by
  have hm := mul_b hq hq2 (show 0 ≤ p by omega) hp2
  have hm2 : q * p ≤ 2251799813685248 := hm.2
  refine ⟨?_, hm.1, hm2⟩
  unfold slipS
  rw [if_pos ⟨hs, by omega, hw, by omega⟩, if_pos (by unfold in64; omega)]
  exact tell_in (by unfold sg in64; split <;> omega)
theorem adds_pure (s q f w p t s2 q2 f2 w2 p2 t2 : Int) (hw : in64 w) (hw2 : in64 w2) : spigotlaw35_CostAdds.f 2 s q f w p t s2 q2 f2 w2 p2 t2 = some true := by
  have skip : spigotlaw35_CostAdds.j0 2 true s q f w p t s2 q2 f2 w2 p2 t2 = some true := by simp [spigotlaw35_CostAdds.j0]
  unfold spigotlaw35_CostAdds.f
  rw [awake35 2 (by omega), Option.bind_some, if_pos rfl]
  by_cases h1 : f < 0
  · rw [if_pos h1]; exact skip
  rw [if_neg h1]
  by_cases h2 : f2 < 0
  · rw [if_pos h2]; exact skip
  rw [if_neg h2]
  by_cases h3 : f > 1048576
  · rw [if_pos h3]; exact skip
  rw [if_neg h3]
  by_cases h4 : f2 > 1048576
  · rw [if_pos h4]; exact skip
  rw [if_neg h4]
  by_cases h5 : w < 0
  · rw [if_pos h5]; exact skip
  rw [if_neg h5]
  by_cases h6 : w2 < 0
  · rw [if_pos h6]; exact skip
  rw [if_neg h6]
  by_cases h7 : w > 1125899906842624
  · rw [if_pos h7]; exact skip
  rw [if_neg h7]
  by_cases h8 : w2 > 1125899906842624
  · rw [if_pos h8]; exact skip
  rw [if_neg h8]
  by_cases h9 : p > 1073741824
  · rw [decide_eq_true h9]; exact skip
  rw [decide_eq_false h9]
  simp only [spigotlaw35_CostAdds.j0, Bool.false_eq_true, if_false]
  rw [w64c (n := f + f2) (by omega) (by omega), w64c (n := w + w2) (by omega) (by omega), slip_is s f w p hw 1 (by omega), Option.bind_some, slip_is s f2 w2 p hw2 1 (by omega), Option.bind_some, slip_is s (f + f2) (w + w2) p (by unfold in64; omega) 1 (by omega), Option.bind_some]
  by_cases hs : s = 1 ∨ s = 2
  · by_cases hp : 1 ≤ p
    · obtain ⟨e1, b1, c1⟩ := slip_small hs hp (by omega) (show 0 ≤ f by omega) (by omega) (show 0 ≤ w by omega) (by omega)
      obtain ⟨e2, b2, c2⟩ := slip_small hs hp (by omega) (show 0 ≤ f2 by omega) (by omega) (show 0 ≤ w2 by omega) (by omega)
      obtain ⟨e3, b3, c3⟩ := slip_small hs hp (by omega) (show 0 ≤ f + f2 by omega) (by omega) (show 0 ≤ w + w2 by omega) (by omega)
      have ed : (f + f2) * p = f * p + f2 * p := Int.add_mul _ _ _
      rw [e1, e2, e3, ed, if_pos rfl, if_pos rfl]
      generalize f * p = x at *
      generalize f2 * p = y at *
      have hsum : sg s (w - x) + sg s (w2 - y) = sg s (w + w2 - (x + y)) := by unfold sg; split <;> omega
      have hb : -9223372036854775808 ≤ sg s (w - x) + sg s (w2 - y) ∧ sg s (w - x) + sg s (w2 - y) ≤ 9223372036854775807 := by unfold sg; split <;> omega
      show some (sg s (w + w2 - (x + y)) == wrap64 (sg s (w - x) + sg s (w2 - y))) = some true
      rw [w64c hb.1 hb.2, hsum]; simp
    · have e : ∀ q w, slipS s q w p = (0, 2) := fun q w => by unfold slipS; rw [if_neg (by omega)]
      rw [e, e, e, if_pos rfl, if_pos rfl]; show some ((0 : Int) == wrap64 (0 + 0)) = some true; rw [w64c (by decide) (by decide)]; rfl
  · have e : ∀ q w, slipS s q w p = (0, 2) := fun q w => by unfold slipS; rw [if_neg (fun h => hs h.1)]
    rw [e, e, e, if_pos rfl, if_pos rfl]; show some ((0 : Int) == wrap64 (0 + 0)) = some true; rw [w64c (by decide) (by decide)]; rfl
theorem CostAdds (a0_0 : Int) (a0_1 : Int) (a0_2 : Int) (a0_3 : Int) (a0_4 : Int) (a0_5 : Int) (a1_0 : Int) (a1_1 : Int) (a1_2 : Int) (a1_3 : Int) (a1_4 : Int) (a1_5 : Int) (W : World) (w0_0 : (Lit.int .i64 a0_0).wf = true) (w0_1 : (Lit.int .i64 a0_1).wf = true) (w0_2 : (Lit.int .i64 a0_2).wf = true) (w0_3 : (Lit.int .i64 a0_3).wf = true) (w0_4 : (Lit.int .i64 a0_4).wf = true) (w0_5 : (Lit.int .i64 a0_5).wf = true) (w1_0 : (Lit.int .i64 a1_0).wf = true) (w1_1 : (Lit.int .i64 a1_1).wf = true) (w1_2 : (Lit.int .i64 a1_2).wf = true) (w1_3 : (Lit.int .i64 a1_3).wf = true) (w1_4 : (Lit.int .i64 a1_4).wf = true) (w1_5 : (Lit.int .i64 a1_5).wf = true) :
    Calls Try.prog 10 #[.agg #[.int .i64 a0_0, .int .i64 a0_1, .int .i64 a0_2, .int .i64 a0_3, .int .i64 a0_4, .int .i64 a0_5], .agg #[.int .i64 a1_0, .int .i64 a1_1, .int .i64 a1_2, .int .i64 a1_3, .int .i64 a1_4, .int .i64 a1_5]] W fun e W' => e = .returned (.bool true) ∧ Below W.heap.size W W' :=
  spigotlaw35_CostAdds.calls 2 _ _ _ _ _ _ _ _ _ _ _ _ true W (adds_pure _ _ _ _ _ _ _ _ _ _ _ _ (in64_wf w0_3) (in64_wf w1_3))
end Go.Proofs.Ytbkoahipcjknfaa.Walk
