/- The reference's Int, clean: a number of 64 bits, or that it is none. -/
import Derived.Test.YtapfidpfjbacgaaHandC
set_option linter.unusedVariables false
set_option linter.unusedSimpArgs false
namespace Go.Proofs.Ytapfidpfjbacgaa.Hand
open Go Go.RowKit Go.Proofs.YtapfidpfjbacgaaW.PrintWords Go.Proofs.YtapfidpfjbacgaaW.PrintMore Go.Proofs.Ytapfidpfjbacgaa.RL Bl
/-- What the reference's Int tells of a number. -/
def intV (z : Int) : Int × Bool := if (enc z).2.length > 64 then (0, false) else int64 (enc z).1 (val (enc z).2)
theorem intV_fits (z : Int) : (intV z).2 = fits z ∧ (fits z = true → (intV z).1 = z) := by
  unfold intV
  by_cases h : (enc z).2.length > 64
  · rw [if_pos h]
    have hbig : 2 ^ 64 ≤ z.natAbs := by
      have := @bits_len_le z.natAbs 64
      have h' : (nbits z.natAbs).length > 64 := h
      by_cases h2 : z.natAbs < 2 ^ 64
      · have := this h2; omega
      · omega
    have hf : fits z = false := by unfold fits; rw [decide_eq_false_iff_not]; omega
    rw [hf]; simp
  · rw [if_neg h]
    have hlt : z.natAbs < 18446744073709551616 := by
      have h1 := val_lt (nbits z.natAbs)
      rw [val_bits] at h1
      have h2 : 2 ^ (nbits z.natAbs).length ≤ 2 ^ 64 := Nat.pow_le_pow_right (by omega) (by have h' : ¬ (nbits z.natAbs).length > 64 := h; omega)
      omega
    have e : val (enc z).2 = z.natAbs := val_bits _
    rw [e]
    exact int64_enc z hlt
theorem intV_in {z : Int} (h : in64 z) : intV z = (z, true) := by
  have := intV_fits z
  have hf : fits z = true := by unfold fits; rw [decide_eq_true_eq]; exact h
  exact Prod.ext (this.2 hf) (this.1.trans hf)
theorem intV_out {z : Int} (h : ¬ in64 z) : (intV z).2 = false := by
  have := intV_fits z
  have hf : fits z = false := by unfold fits; rw [decide_eq_false_iff_not]; exact h
  exact this.1.trans hf
theorem intV_ok (z : Int) : (intV z).2 = decide (in64 z) := by
  by_cases h : in64 z
  · rw [intV_in h, decide_eq_true h]
  · rw [intV_out h, decide_eq_false h]
def spigotref01_Int.f (a0_0 : Bool) (l0_1 : List Bool) : Option (Int × Bool) := if okB a0_0 l0_1 = true then some (intV (dec a0_0 l0_1)) else none
theorem spigotref01_Int.calls (a0_0 : Bool) (A0_1 : Option Addr) (c0_1 : Nat) (l0_1 : List Bool) (r1 : Int) (r2 : Bool) (w : World) (hr0_1 : Kd.C Kd.bool w A0_1 l0_1.length l0_1) (hc0_1 : l0_1.length ≤ c0_1) (h : spigotref01_Int.f a0_0 l0_1 = some (r1, r2)) :
    Calls Try.prog 75 #[.agg #[.bool a0_0, .slice A0_1 l0_1.length c0_1]] w fun e w' => e = .returned (.tuple #[.int .i64 r1, .bool r2]) ∧ Below w.heap.size w w' := by
  unfold spigotref01_Int.f at h
  by_cases c : okB a0_0 l0_1 = true
  · rw [if_pos c] at h
    obtain ⟨z, rfl, rfl, hs, hd⟩ := okB_open c
    rw [hd] at h
    have hs' : (enc z).2.length ≤ 1000000 := hs
    obtain ⟨k, hk⟩ := (int_ev (enc z).1 (enc z).2 (by omega)).rounds
    have e : (if (enc z).2.length > 64 then ((0 : Int), false) else int64 (enc z).1 (val (enc z).2)) = (r1, r2) := Option.some.inj h
    rw [e] at hk
    exact R.spigotref01_Int.calls k _ _ _ _ r1 r2 w hr0_1 hc0_1 hk
  · rw [if_neg c] at h; exact absurd h (by simp)
theorem int_is (z : Int) (h : small z) : spigotref01_Int.f (enc z).1 (enc z).2 = some (intV z) := by unfold spigotref01_Int.f; rw [if_pos (okB_enc h), dec_enc]
end Go.Proofs.Ytapfidpfjbacgaa.Hand
