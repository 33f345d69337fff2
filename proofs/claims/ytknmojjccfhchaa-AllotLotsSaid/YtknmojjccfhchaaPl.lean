/- Plain facts for the laws over package checked: sums, fractions, what a number is told as. -/
import Derived.Test.YtknmojjccfhchaaHandI
set_option linter.unusedVariables false
set_option linter.unusedSimpArgs false
namespace Go.Proofs.Ytknmojjccfhchaa.PL
open Go Go.RowKit Go.Proofs.Ytknmojjccfhchaa.Hand Go.Proofs.Ytknmojjccfhchaa.RL Go.Proofs.YtknmojjccfhchaaW.PrintWords Go.Proofs.YtknmojjccfhchaaW.PrintMore

theorem in64_wf {a : Int} (h : (Lit.int .i64 a).wf = true) : in64 a := by
  unfold in64
  have : -9223372036854775808 ≤ a ∧ a ≤ 9223372036854775807 := by
    simp [Lit.wf] at h
    have e1 : IntKind.i64.min = -9223372036854775808 := by decide
    have e2 : IntKind.i64.max = 9223372036854775807 := by decide
    omega
  exact this
theorem down_is (a b c : Int) (ha : in64 a) (hb : in64 b) (hc : in64 c) : checked_Down.f a b c = some (fr a b c false) := by unfold checked_Down.f; rw [if_pos ⟨ha, hb, hc⟩]
theorem of_is (a : Int) (ha : in64 a) : spigotref01_Of.f a = some (enc a) := by unfold spigotref01_Of.f; rw [if_pos ha]
theorem tell_in {z : Int} (h : in64 z) : tell z = (z, 0) := by unfold tell; exact if_pos h
end Go.Proofs.Ytknmojjccfhchaa.PL
