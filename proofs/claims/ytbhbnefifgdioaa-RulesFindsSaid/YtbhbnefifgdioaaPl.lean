/- Plain facts for the laws over package checked: sums, fractions, what a number is told as. -/
import Derived.Test.YtbhbnefifgdioaaHandE
set_option linter.unusedVariables false
set_option linter.unusedSimpArgs false
namespace Go.Proofs.Ytbhbnefifgdioaa.PL
open Go Go.RowKit Go.Proofs.Ytbhbnefifgdioaa.Hand Go.Proofs.Ytbhbnefifgdioaa.RL Go.Proofs.YtbhbnefifgdioaaW.PrintWords Go.Proofs.YtbhbnefifgdioaaW.PrintMore

theorem down_is (a b c : Int) (ha : in64 a) (hb : in64 b) (hc : in64 c) : checked_Down.f a b c = some (fr a b c false) := by unfold checked_Down.f; rw [if_pos ⟨ha, hb, hc⟩]
theorem up_is (a b c : Int) (ha : in64 a) (hb : in64 b) (hc : in64 c) : checked_Up.f a b c = some (fr a b c true) := by unfold checked_Up.f; rw [if_pos ⟨ha, hb, hc⟩]
theorem of_is (a : Int) (ha : in64 a) : spigotref01_Of.f a = some (enc a) := by unfold spigotref01_Of.f; rw [if_pos ha]
theorem told_is (a : Int) (ha : small a) : spigotref01_Told.f (enc a).1 (enc a).2 = some (tell a) := by
  unfold spigotref01_Told.f; rw [if_pos (okB_enc ha), dec_enc]
theorem small64 {a : Int} (h : in64 a) : small a := small_le (Nat.le_trans (in64_lt h) (by decide))
theorem tell_in {z : Int} (h : in64 z) : tell z = (z, 0) := by unfold tell; exact if_pos h
end Go.Proofs.Ytbhbnefifgdioaa.PL
