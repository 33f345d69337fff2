/- Sums and differences, and what is below, as plain functions of numbers. -/
import Derived.Test.YtenlifjfehnldaaHandC
set_option linter.unusedVariables false
set_option linter.unusedSimpArgs false
namespace Go.Proofs.Ytenlifjfehnldaa.Hand
open Go Go.RowKit Go.Proofs.YtenlifjfehnldaaW.PrintWords Go.Proofs.YtenlifjfehnldaaW.PrintMore Go.Proofs.Ytenlifjfehnldaa.RL
theorem radd_is (a b : Int) (ha : in64 a) (hb : in64 b) : R.checked_Add.f a b = some (tell (a + b)) := by
  obtain ⟨a0, a1⟩ := ha
  obtain ⟨b0, b1⟩ := hb
  unfold R.checked_Add.f tell
  have e : wrap64 (IntKind.u64.wrap ((IntKind.u64.wrap a) + (IntKind.u64.wrap b))) = wrap64 (a + b) := by
    rw [IntKind.wrap_u64, IntKind.wrap_u64, IntKind.wrap_u64]; unfold wrap64; omega
  rw [e]
  by_cases h : -9223372036854775808 ≤ a + b ∧ a + b ≤ 9223372036854775807
  · have e2 : wrap64 (a + b) = a + b := by unfold wrap64; omega
    rw [e2, if_pos h, if_neg]
    rw [Bool.not_eq_true, bne_eq_false_iff_eq, decide_eq_decide]
    omega
  · rw [if_neg h, if_pos]
    rw [bne_iff_ne, Ne, decide_eq_decide]
    unfold wrap64
    omega

def checked_Add.f (a0 a1 : Int) : Option (Int × Int) := if in64 a0 ∧ in64 a1 then some (tell (a0 + a1)) else none
theorem checked_Add.calls (a0 : Int) (a1 : Int) (r1 : Int) (r2 : Int) (w : World) (h : checked_Add.f a0 a1 = some (r1, r2)) :
    Calls Try.prog 53 #[.int .i64 a0, .int .i64 a1] w fun e w' => e = .returned (.tuple #[.int .i64 r1, .int .i64 r2]) ∧ Drawn0 w w' := by
  unfold checked_Add.f at h
  by_cases c : in64 a0 ∧ in64 a1
  · rw [if_pos c] at h; exact R.checked_Add.calls a0 a1 r1 r2 w (by rw [radd_is a0 a1 c.1 c.2]; exact h)
  · rw [if_neg c] at h; exact absurd h (by simp)
end Go.Proofs.Ytenlifjfehnldaa.Hand
