/- Texts laid together by join.py: HandC HandE HandI. -/
import Derived.Test.YtknmojjccfhchaaChk
import Derived.Test.YtknmojjccfhchaaPart
/- The functions that the printed texts call, as plain functions of numbers, each with its contract: package checked, and the reference's numbers. -/
set_option linter.unusedVariables false
set_option linter.unusedSimpArgs false
namespace Go.Proofs.Ytknmojjccfhchaa.Hand
open Go Go.RowKit Go.Proofs.YtknmojjccfhchaaW.PrintWords Go.Proofs.YtknmojjccfhchaaW.PrintMore Go.Proofs.Ytknmojjccfhchaa.RL

def checked_Mul.f (a0 a1 : Int) : Option (Int × Int) := if in64 a0 ∧ in64 a1 then some (tell (a0 * a1)) else none
theorem checked_Mul.calls (a0 : Int) (a1 : Int) (r1 : Int) (r2 : Int) (w : World) (h : checked_Mul.f a0 a1 = some (r1, r2)) :
    Calls Try.prog 61 #[.int .i64 a0, .int .i64 a1] w fun e w' => e = .returned (.tuple #[.int .i64 r1, .int .i64 r2]) ∧ Below w.heap.size w w' := by
  unfold checked_Mul.f at h
  by_cases c : in64 a0 ∧ in64 a1
  · rw [if_pos c] at h
    have := Mul_calls a0 a1 c.1.1 c.1.2 c.2.1 c.2.2 w
    rw [mulT_tell a0 a1 c.1 c.2, Option.some.inj h] at this
    exact this
  · rw [if_neg c] at h; exact absurd h (by simp)
def fr (a b c : Int) (up : Bool) : Int × Int := if c = 0 then (0, 11) else tell (frac (a * b) c up)
set_option maxHeartbeats 800000 in
theorem fr_calls (a b c : Int) (up : Bool) (ha : in64 a) (hb : in64 b) (hc : in64 c) (w : World) :
    Calls Try.prog 35 #[.int .i64 a, .int .i64 b, .int .i64 c, .bool up] w fun e w' => e = .returned (.tuple #[.int .i64 (fr a b c up).1, .int .i64 (fr a b c up).2]) ∧ Below w.heap.size w w' := by
  by_cases hz : c = 0
  · subst hz
    unfold fr
    rw [if_pos rfl]
    go_enter Try.func35, Try.ntmps35
    go_wp2
    go_ret2
    exact ⟨rfl, Below.refl _ _⟩
  · have := fraction_calls a b c up ha.1 ha.2 hb.1 hb.2 hc.1 hc.2 hz w
    rw [frT_tell a b c up ha hb hc hz] at this
    unfold fr
    rw [if_neg hz]
    exact this
def checked_Down.f (a0 a1 a2 : Int) : Option (Int × Int) := if in64 a0 ∧ in64 a1 ∧ in64 a2 then some (fr a0 a1 a2 false) else none
set_option maxHeartbeats 800000 in
theorem checked_Down.calls (a0 : Int) (a1 : Int) (a2 : Int) (r1 : Int) (r2 : Int) (w : World) (h : checked_Down.f a0 a1 a2 = some (r1, r2)) :
    Calls Try.prog 19 #[.int .i64 a0, .int .i64 a1, .int .i64 a2] w fun e w' => e = .returned (.tuple #[.int .i64 r1, .int .i64 r2]) ∧ Below w.heap.size w w' := by
  unfold checked_Down.f at h
  by_cases c : in64 a0 ∧ in64 a1 ∧ in64 a2
  · rw [if_pos c] at h
    have hf := fun w => fr_calls a0 a1 a2 false c.1 c.2.1 c.2.2 w
    rw [Option.some.inj h] at hf
    have Hf := Lib.hid hf
    clear hf h c
    go_enter Try.func19, Try.ntmps19
    go_wp2_with fail
    refine (Hf.out _).mono ?_; rintro e w1 ⟨rfl, hb1⟩
    go_wp2_with fail
    go_ret2
    exact ⟨rfl, hb1⟩
  · rw [if_neg c] at h; exact absurd h (by simp)
def checked_Up.f (a0 a1 a2 : Int) : Option (Int × Int) := if in64 a0 ∧ in64 a1 ∧ in64 a2 then some (fr a0 a1 a2 true) else none
/-! The reference's numbers. -/
def dec (s : Bool) (l : List Bool) : Int := if s = true then -(Bl.val l : Int) else (Bl.val l : Int)
/-- A sign and bits as the reference keeps them, not too long. -/
def okB (s : Bool) (l : List Bool) : Bool := (enc (dec s l) == (s, l)) && decide (l.length ≤ 1000000)
def small (z : Int) : Prop := (Bl.nbits z.natAbs).length ≤ 1000000
theorem small_of {z : Int} (h : z.natAbs < 2 ^ 250) : small z := Nat.le_trans (Bl.bits_len_le h) (by omega)
theorem dec_enc (z : Int) : dec (enc z).1 (enc z).2 = z := by
  unfold dec enc
  rw [Bl.val_bits]
  by_cases h : z < 0 <;> simp [h] <;> omega
theorem okB_enc {z : Int} (h : small z) : okB (enc z).1 (enc z).2 = true := by
  unfold okB
  rw [dec_enc]
  have : (enc z).2.length ≤ 1000000 := h
  simp [this]
theorem okB_open {s : Bool} {l : List Bool} (h : okB s l = true) : ∃ z, s = (enc z).1 ∧ l = (enc z).2 ∧ small z ∧ dec s l = z := by
  unfold okB at h
  simp only [Bool.and_eq_true, beq_iff_eq, decide_eq_true_eq] at h
  refine ⟨dec s l, by rw [h.1], by rw [h.1], ?_, rfl⟩
  have : (enc (dec s l)).2.length ≤ 1000000 := by rw [h.1]; exact h.2
  exact this

def spigotref01_Of.f (a0 : Int) : Option (Bool × List Bool) := if in64 a0 then some (enc a0) else none
theorem spigotref01_Of.calls (a0 : Int) (r1 : Bool) (r2 : List Bool) (w : World) (h : spigotref01_Of.f a0 = some (r1, r2)) :
    Calls Try.prog 44 #[.int .i64 a0] w fun e w' => ∃ v1_ : Value, e = .returned (.agg #[.bool r1, v1_]) ∧ Kd.R Kd.bool 4 w' w.heap.size (fun _ => True) v1_ r2 ∧ Below w.heap.size w w' := by
  unfold spigotref01_Of.f at h
  by_cases c : in64 a0
  · rw [if_pos c] at h
    obtain ⟨k, hk⟩ := (of_ev a0 c.1 c.2).rounds
    have e : ((decide (a0 < 0), Bl.nbits a0.natAbs) : Bool × List Bool) = (r1, r2) := Option.some.inj h
    rw [e] at hk
    exact R.spigotref01_Of.calls k a0 r1 r2 w hk
  · rw [if_neg c] at h; exact absurd h (by simp)
def spigotref01_Mul.f (a0_0 : Bool) (l0_1 : List Bool) (a1_0 : Bool) (l1_1 : List Bool) : Option (Bool × List Bool) := if okB a0_0 l0_1 = true ∧ okB a1_0 l1_1 = true then some (enc (dec a0_0 l0_1 * dec a1_0 l1_1)) else none
theorem spigotref01_Mul.calls (a0_0 : Bool) (A0_1 : Option Addr) (c0_1 : Nat) (l0_1 : List Bool) (a1_0 : Bool) (A1_1 : Option Addr) (c1_1 : Nat) (l1_1 : List Bool) (r1 : Bool) (r2 : List Bool) (w : World) (hr0_1 : Kd.C Kd.bool w A0_1 l0_1.length l0_1) (hc0_1 : l0_1.length ≤ c0_1) (hr1_1 : Kd.C Kd.bool w A1_1 l1_1.length l1_1) (hc1_1 : l1_1.length ≤ c1_1) (h : spigotref01_Mul.f a0_0 l0_1 a1_0 l1_1 = some (r1, r2)) :
    Calls Try.prog 58 #[.agg #[.bool a0_0, .slice A0_1 l0_1.length c0_1], .agg #[.bool a1_0, .slice A1_1 l1_1.length c1_1]] w fun e w' => ∃ v1_ : Value, e = .returned (.agg #[.bool r1, v1_]) ∧ Kd.R Kd.bool 4 w' w.heap.size (fun _ => True) v1_ r2 ∧ Below w.heap.size w w' := by
  unfold spigotref01_Mul.f at h
  by_cases c : okB a0_0 l0_1 = true ∧ okB a1_0 l1_1 = true
  · rw [if_pos c] at h
    obtain ⟨z, rfl, rfl, hs, hd⟩ := okB_open c.1
    obtain ⟨y, rfl, rfl, hs2, hd2⟩ := okB_open c.2
    rw [hd, hd2] at h
    obtain ⟨k, hk⟩ := (mul_ev z y (by unfold small at hs; omega) (by unfold small at hs2; omega)).rounds
    rw [Option.some.inj h] at hk
    exact R.spigotref01_Mul.calls k _ _ _ _ _ _ _ _ r1 r2 w hr0_1 hc0_1 hr1_1 hc1_1 hk
  · rw [if_neg c] at h; exact absurd h (by simp)
def spigotref01_Part.f (a0_0 : Bool) (l0_1 : List Bool) (a1_0 : Bool) (l1_1 : List Bool) (a2 : Bool) : Option (Bool × List Bool) := if okB a0_0 l0_1 = true ∧ okB a1_0 l1_1 = true ∧ dec a1_0 l1_1 ≠ 0 then some (enc (frac (dec a0_0 l0_1) (dec a1_0 l1_1) a2)) else none
theorem pos_bits (n : Nat) : pos (Bl.nbits n) = decide (0 < n) := by
  unfold pos
  rw [decide_eq_decide]
  have := len_pos n
  omega
theorem part_is (z y : Int) (up : Bool) (hy : y ≠ 0) : partR (enc z).1 (enc y).1 up (Bl.nbits (z.natAbs / y.natAbs)) (Bl.nbits (z.natAbs % y.natAbs)) (Bl.nbits (z.natAbs / y.natAbs + Bl.val [true])) = enc (frac z y up) := by
  rw [frac_enc z y up hy]
  unfold partR enc
  simp only [pos_bits]
  generalize (decide (z < 0) != decide (y < 0)) = s
  by_cases h : z.natAbs % y.natAbs = 0
  · rw [if_neg (by simp [h]), if_pos h]
    cases s <;> simp
  · rw [if_neg h]
    have h1 : decide (0 < z.natAbs % y.natAbs) = true := by simp; omega
    cases s <;> cases up <;> simp [h1, Bl.val]
theorem spigotref01_Part.calls (a0_0 : Bool) (A0_1 : Option Addr) (c0_1 : Nat) (l0_1 : List Bool) (a1_0 : Bool) (A1_1 : Option Addr) (c1_1 : Nat) (l1_1 : List Bool) (a2 : Bool) (r1 : Bool) (r2 : List Bool) (w : World) (hr0_1 : Kd.C Kd.bool w A0_1 l0_1.length l0_1) (hc0_1 : l0_1.length ≤ c0_1) (hr1_1 : Kd.C Kd.bool w A1_1 l1_1.length l1_1) (hc1_1 : l1_1.length ≤ c1_1) (h : spigotref01_Part.f a0_0 l0_1 a1_0 l1_1 a2 = some (r1, r2)) :
    Calls Try.prog 42 #[.agg #[.bool a0_0, .slice A0_1 l0_1.length c0_1], .agg #[.bool a1_0, .slice A1_1 l1_1.length c1_1], .bool a2] w fun e w' => ∃ v1_ : Value, e = .returned (.agg #[.bool r1, v1_]) ∧ Kd.R Kd.bool 4 w' w.heap.size (fun _ => True) v1_ r2 ∧ Below w.heap.size w w' := by
  unfold spigotref01_Part.f at h
  by_cases c : okB a0_0 l0_1 = true ∧ okB a1_0 l1_1 = true ∧ dec a1_0 l1_1 ≠ 0
  · rw [if_pos c] at h
    obtain ⟨z, rfl, rfl, hs, hd⟩ := okB_open c.1
    obtain ⟨y, rfl, rfl, hs2, hd2⟩ := okB_open c.2.1
    have hy : y ≠ 0 := by rw [← hd2]; exact c.2.2
    rw [hd, hd2] at h
    have e := part_is z y a2 hy
    have hl0 : (Bl.nbits z.natAbs).length ≤ 1000000 := hs
    have hl1 : (Bl.nbits y.natAbs).length ≤ 1000000 := hs2
    have hdiv := div_at (Bl.nbits z.natAbs) (Bl.nbits y.natAbs) (by omega) (by omega) (by rw [Bl.val_bits]; omega) 100000000 (by omega)
    rw [Bl.val_bits, Bl.val_bits] at hdiv
    have hq : (Bl.nbits (z.natAbs / y.natAbs)).length ≤ (Bl.nbits z.natAbs).length := by
      have h := Bl.val_lt (Bl.nbits z.natAbs)
      rw [Bl.val_bits] at h
      exact Bl.bits_len_le (Nat.lt_of_le_of_lt (Nat.div_le_self _ _) h)
    have hplus := plus_at (Bl.nbits (z.natAbs / y.natAbs)) [true] (by omega) (by simp) 100000000 (by simp; omega)
    rw [Bl.val_bits] at hplus
    have := part_walk 100000000 (enc z).1 (enc y).1 a2 A0_1 c0_1 (enc z).2 A1_1 c1_1 (enc y).2 _ _ _ w hr0_1 hc0_1 hr1_1 hc1_1 hdiv hplus
    rw [e, Option.some.inj h] at this
    exact this
  · rw [if_neg c] at h; exact absurd h (by simp)
theorem small_le {z : Int} (h : z.natAbs ≤ 85070591730234615865843651857942052864) : small z := small_of (Nat.lt_of_le_of_lt h (by decide))
end Go.Proofs.Ytknmojjccfhchaa.Hand

/- Sums and differences, and what is below, as plain functions of numbers. -/
set_option linter.unusedVariables false
set_option linter.unusedSimpArgs false
namespace Go.Proofs.Ytknmojjccfhchaa.Hand
open Go Go.RowKit Go.Proofs.YtknmojjccfhchaaW.PrintWords Go.Proofs.YtknmojjccfhchaaW.PrintMore Go.Proofs.Ytknmojjccfhchaa.RL

end Go.Proofs.Ytknmojjccfhchaa.Hand

/- The reference's Int, clean: a number of 64 bits, or that it is none. -/
set_option linter.unusedVariables false
set_option linter.unusedSimpArgs false
namespace Go.Proofs.Ytknmojjccfhchaa.Hand
open Go Go.RowKit Go.Proofs.YtknmojjccfhchaaW.PrintWords Go.Proofs.YtknmojjccfhchaaW.PrintMore Go.Proofs.Ytknmojjccfhchaa.RL Bl
/-- What the reference's Int tells of a number. -/
def intV (z : Int) : Int × Bool := if (enc z).2.length > 64 then (0, false) else int64 (enc z).1 (val (enc z).2)
theorem intV_fits (z : Int) : (intV z).2 = fits z ∧ (fits z = true → (intV z).1 = z) := by
  unfold intV
  by_cases h : (enc z).2.length > 64
  · rw [if_pos h]
    have hbig : 2 ^ 64 ≤ z.natAbs := by
      have := @bits_len_le z.natAbs 64
      have h' : (nbits z.natAbs).length > 64 := h
      by_cases h2 : z.natAbs < 2 ^ 64
      · have := this h2; omega
      · omega
    have hf : fits z = false := by unfold fits; rw [decide_eq_false_iff_not]; omega
    rw [hf]; simp
  · rw [if_neg h]
    have hlt : z.natAbs < 18446744073709551616 := by
      have h1 := val_lt (nbits z.natAbs)
      rw [val_bits] at h1
      have h2 : 2 ^ (nbits z.natAbs).length ≤ 2 ^ 64 := Nat.pow_le_pow_right (by omega) (by have h' : ¬ (nbits z.natAbs).length > 64 := h; omega)
      omega
    have e : val (enc z).2 = z.natAbs := val_bits _
    rw [e]
    exact int64_enc z hlt
theorem intV_in {z : Int} (h : in64 z) : intV z = (z, true) := by
  have := intV_fits z
  have hf : fits z = true := by unfold fits; rw [decide_eq_true_eq]; exact h
  exact Prod.ext (this.2 hf) (this.1.trans hf)
def spigotref01_Int.f (a0_0 : Bool) (l0_1 : List Bool) : Option (Int × Bool) := if okB a0_0 l0_1 = true then some (intV (dec a0_0 l0_1)) else none
theorem spigotref01_Int.calls (a0_0 : Bool) (A0_1 : Option Addr) (c0_1 : Nat) (l0_1 : List Bool) (r1 : Int) (r2 : Bool) (w : World) (hr0_1 : Kd.C Kd.bool w A0_1 l0_1.length l0_1) (hc0_1 : l0_1.length ≤ c0_1) (h : spigotref01_Int.f a0_0 l0_1 = some (r1, r2)) :
    Calls Try.prog 41 #[.agg #[.bool a0_0, .slice A0_1 l0_1.length c0_1]] w fun e w' => e = .returned (.tuple #[.int .i64 r1, .bool r2]) ∧ Below w.heap.size w w' := by
  unfold spigotref01_Int.f at h
  by_cases c : okB a0_0 l0_1 = true
  · rw [if_pos c] at h
    obtain ⟨z, rfl, rfl, hs, hd⟩ := okB_open c
    rw [hd] at h
    have hs' : (enc z).2.length ≤ 1000000 := hs
    obtain ⟨k, hk⟩ := (int_ev (enc z).1 (enc z).2 (by omega)).rounds
    have e : (if (enc z).2.length > 64 then ((0 : Int), false) else int64 (enc z).1 (val (enc z).2)) = (r1, r2) := Option.some.inj h
    rw [e] at hk
    exact R.spigotref01_Int.calls k _ _ _ _ r1 r2 w hr0_1 hc0_1 hk
  · rw [if_neg c] at h; exact absurd h (by simp)
theorem int_is (z : Int) (h : small z) : spigotref01_Int.f (enc z).1 (enc z).2 = some (intV z) := by unfold spigotref01_Int.f; rw [if_pos (okB_enc h), dec_enc]
end Go.Proofs.Ytknmojjccfhchaa.Hand

