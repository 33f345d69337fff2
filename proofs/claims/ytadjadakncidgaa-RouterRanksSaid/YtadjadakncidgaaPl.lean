/- Plain facts for the laws over package checked: sums, fractions, what a number is told as. -/
import Derived.Test.YtadjadakncidgaaHandE
set_option linter.unusedVariables false
set_option linter.unusedSimpArgs false
namespace Go.Proofs.Ytadjadakncidgaa.PL
open Go Go.RowKit Go.Proofs.Ytadjadakncidgaa.Hand Go.Proofs.Ytadjadakncidgaa.RL Go.Proofs.YtadjadakncidgaaW.PrintWords Go.Proofs.YtadjadakncidgaaW.PrintMore

theorem in64_wf {a : Int} (h : (Lit.int .i64 a).wf = true) : in64 a := by
  unfold in64
  have : -9223372036854775808 ≤ a ∧ a ≤ 9223372036854775807 := by
    simp [Lit.wf] at h
    have e1 : IntKind.i64.min = -9223372036854775808 := by decide
    have e2 : IntKind.i64.max = 9223372036854775807 := by decide
    omega
  exact this
theorem mul_is (a b : Int) (ha : in64 a) (hb : in64 b) : checked_Mul.f a b = some (tell (a * b)) := by unfold checked_Mul.f; rw [if_pos ⟨ha, hb⟩]
theorem down_is (a b c : Int) (ha : in64 a) (hb : in64 b) (hc : in64 c) : checked_Down.f a b c = some (fr a b c false) := by unfold checked_Down.f; rw [if_pos ⟨ha, hb, hc⟩]
theorem of_is (a : Int) (ha : in64 a) : spigotref01_Of.f a = some (enc a) := by unfold spigotref01_Of.f; rw [if_pos ha]
theorem rmul_is (a b : Int) (ha : small a) (hb : small b) : spigotref01_Mul.f (enc a).1 (enc a).2 (enc b).1 (enc b).2 = some (enc (a * b)) := by
  unfold spigotref01_Mul.f; rw [if_pos ⟨okB_enc ha, okB_enc hb⟩, dec_enc, dec_enc]
theorem told_is (a : Int) (ha : small a) : spigotref01_Told.f (enc a).1 (enc a).2 = some (tell a) := by
  unfold spigotref01_Told.f; rw [if_pos (okB_enc ha), dec_enc]
theorem small64 {a : Int} (h : in64 a) : small a := small_le (Nat.le_trans (in64_lt h) (by decide))
theorem tell_in {z : Int} (h : in64 z) : tell z = (z, 0) := by unfold tell; exact if_pos h
theorem tell_out {z : Int} (h : ¬ in64 z) : tell z = (0, 10) := by unfold tell; exact if_neg h
theorem tell_64 (z : Int) : in64 (tell z).1 := by
  unfold tell
  split
  · assumption
  · unfold in64; simp
end Go.Proofs.Ytadjadakncidgaa.PL
