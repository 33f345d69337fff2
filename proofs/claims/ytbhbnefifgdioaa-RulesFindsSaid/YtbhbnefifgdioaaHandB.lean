/- math/bits.LeadingZeros64 by the library's contract, in the form that the printed texts use. -/
import Derived.Test.YtbhbnefifgdioaaShelf
import Derived.Test.YtbhbnefifgdioaaBits
import Derived.Test.YtbhbnefifgdioaaWWords
import Derived.Test.YtbhbnefifgdioaaWMore
set_option linter.unusedVariables false
set_option linter.unusedSimpArgs false
namespace Go.Proofs.Ytbhbnefifgdioaa.Hand
open Go Go.RowKit Go.Proofs.YtbhbnefifgdioaaW.PrintWords Go.Proofs.YtbhbnefifgdioaaW.PrintMore
theorem bitLenAux_bits (f : Nat) : ∀ n : Nat, n < 2 ^ f → Lib.bitLenAux f n = (Bl.nbits n).length := by
  induction f with
  | zero => intro n h; have : n = 0 := by simpa using h
            subst this; rw [Bl.bits_zero]; rfl
  | succ f ih =>
    intro n h
    unfold Lib.bitLenAux
    by_cases hn : n = 0
    · subst hn; rw [Bl.bits_zero]; rfl
    · rw [if_neg hn, Bl.bits_pos hn, List.length_cons, ih (n / 2) (by rw [Nat.pow_succ] at h; omega)]; omega
def bl (n : Nat) : Nat := (Bl.nbits n).length
def bits_LeadingZeros64.f (a0 : Int) : Option Int := if 0 ≤ a0 ∧ a0 ≤ 18446744073709551615 then some (64 - (bl a0.toNat : Int)) else none
theorem bits_LeadingZeros64.calls (a0 : Int) (r : Int) (w : World) (h : bits_LeadingZeros64.f a0 = some r) :
    Calls Try.prog 80 #[.int .u64 a0] w fun e w' => e = .returned (.int .i64 r) ∧ Drawn0 w w' := by
  unfold bits_LeadingZeros64.f at h
  by_cases hb : 0 ≤ a0 ∧ a0 ≤ 18446744073709551615
  · rw [if_pos hb] at h
    obtain ⟨h0, h1⟩ := hb
    have e : Lib.bitLen a0.toNat = bl a0.toNat := bitLenAux_bits 64 a0.toNat (by omega)
    refine (Try.bits_LeadingZeros64 a0 w h0 h1).mono fun e' w' ⟨he, hw⟩ => ?_
    subst hw
    rw [e] at he
    simp only [Option.some.injEq] at h
    rw [h] at he
    exact ⟨he, Drawn0.refl _⟩
  · rw [if_neg hb] at h; exact absurd h (by simp)
end Go.Proofs.Ytbhbnefifgdioaa.Hand
