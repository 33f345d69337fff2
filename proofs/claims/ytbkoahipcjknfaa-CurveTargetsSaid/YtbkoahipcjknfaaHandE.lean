/- Sums and differences, and what is below, as plain functions of numbers. -/
import Derived.Test.YtbkoahipcjknfaaHandC
set_option linter.unusedVariables false
set_option linter.unusedSimpArgs false
namespace Go.Proofs.Ytbkoahipcjknfaa.Hand
open Go Go.RowKit Go.Proofs.YtbkoahipcjknfaaW.PrintWords Go.Proofs.YtbkoahipcjknfaaW.PrintMore Go.Proofs.Ytbkoahipcjknfaa.RL
theorem rsub_is (a b : Int) (ha : in64 a) (hb : in64 b) : R.checked_Sub.f a b = some (tell (a - b)) := by
  obtain ⟨a0, a1⟩ := ha
  obtain ⟨b0, b1⟩ := hb
  unfold R.checked_Sub.f tell
  have e : wrap64 (IntKind.u64.wrap ((IntKind.u64.wrap a) - (IntKind.u64.wrap b))) = wrap64 (a - b) := by
    rw [IntKind.wrap_u64, IntKind.wrap_u64, IntKind.wrap_u64]; unfold wrap64; omega
  rw [e]
  by_cases h : -9223372036854775808 ≤ a - b ∧ a - b ≤ 9223372036854775807
  · have e2 : wrap64 (a - b) = a - b := by unfold wrap64; omega
    rw [e2, if_pos h, if_neg]
    rw [Bool.not_eq_true, bne_eq_false_iff_eq, decide_eq_decide]
    omega
  · rw [if_neg h, if_pos]
    rw [bne_iff_ne, Ne, decide_eq_decide]
    unfold wrap64
    omega


def checked_Sub.f (a0 a1 : Int) : Option (Int × Int) := if in64 a0 ∧ in64 a1 then some (tell (a0 - a1)) else none
theorem checked_Sub.calls (a0 : Int) (a1 : Int) (r1 : Int) (r2 : Int) (w : World) (h : checked_Sub.f a0 a1 = some (r1, r2)) :
    Calls Try.prog 66 #[.int .i64 a0, .int .i64 a1] w fun e w' => e = .returned (.tuple #[.int .i64 r1, .int .i64 r2]) ∧ Drawn0 w w' := by
  unfold checked_Sub.f at h
  by_cases c : in64 a0 ∧ in64 a1
  · rw [if_pos c] at h; exact R.checked_Sub.calls a0 a1 r1 r2 w (by rw [rsub_is a0 a1 c.1 c.2]; exact h)
  · rw [if_neg c] at h; exact absurd h (by simp)
def checked_Neg.f (a0 : Int) : Option (Int × Int) := if in64 a0 then some (tell (-a0)) else none
theorem checked_Neg.calls (a0 : Int) (r1 : Int) (r2 : Int) (w : World) (h : checked_Neg.f a0 = some (r1, r2)) :
    Calls Try.prog 97 #[.int .i64 a0] w fun e w' => e = .returned (.tuple #[.int .i64 r1, .int .i64 r2]) ∧ Drawn0 w w' := by
  unfold checked_Neg.f at h
  by_cases c : in64 a0
  · rw [if_pos c] at h
    refine R.checked_Neg.calls a0 r1 r2 w ?_
    unfold R.checked_Neg.f
    rw [rsub_is 0 a0 (by unfold in64; omega) c, Option.bind_some, Int.zero_sub]
    exact h
  · rw [if_neg c] at h; exact absurd h (by simp)

end Go.Proofs.Ytbkoahipcjknfaa.Hand
