/- The functions that the printed texts call, as plain functions of numbers, each with its contract: package checked, and the reference's numbers. -/
import Derived.Test.YtbhbnefifgdioaaChk
set_option linter.unusedVariables false
set_option linter.unusedSimpArgs false
namespace Go.Proofs.Ytbhbnefifgdioaa.Hand
open Go Go.RowKit Go.Proofs.YtbhbnefifgdioaaW.PrintWords Go.Proofs.YtbhbnefifgdioaaW.PrintMore Go.Proofs.Ytbhbnefifgdioaa.RL

def checked_Mul.f (a0 a1 : Int) : Option (Int × Int) := if in64 a0 ∧ in64 a1 then some (tell (a0 * a1)) else none
theorem checked_Mul.calls (a0 : Int) (a1 : Int) (r1 : Int) (r2 : Int) (w : World) (h : checked_Mul.f a0 a1 = some (r1, r2)) :
    Calls Try.prog 75 #[.int .i64 a0, .int .i64 a1] w fun e w' => e = .returned (.tuple #[.int .i64 r1, .int .i64 r2]) ∧ Below w.heap.size w w' := by
  unfold checked_Mul.f at h
  by_cases c : in64 a0 ∧ in64 a1
  · rw [if_pos c] at h
    have := Mul_calls a0 a1 c.1.1 c.1.2 c.2.1 c.2.2 w
    rw [mulT_tell a0 a1 c.1 c.2, Option.some.inj h] at this
    exact this
  · rw [if_neg c] at h; exact absurd h (by simp)
def fr (a b c : Int) (up : Bool) : Int × Int := if c = 0 then (0, 11) else tell (frac (a * b) c up)
set_option maxHeartbeats 800000 in
theorem fr_calls (a b c : Int) (up : Bool) (ha : in64 a) (hb : in64 b) (hc : in64 c) (w : World) :
    Calls Try.prog 65 #[.int .i64 a, .int .i64 b, .int .i64 c, .bool up] w fun e w' => e = .returned (.tuple #[.int .i64 (fr a b c up).1, .int .i64 (fr a b c up).2]) ∧ Below w.heap.size w w' := by
  by_cases hz : c = 0
  · subst hz
    unfold fr
    rw [if_pos rfl]
    go_enter Try.func65, Try.ntmps65
    go_wp2
    go_ret2
    exact ⟨rfl, Below.refl _ _⟩
  · have := fraction_calls a b c up ha.1 ha.2 hb.1 hb.2 hc.1 hc.2 hz w
    rw [frT_tell a b c up ha hb hc hz] at this
    unfold fr
    rw [if_neg hz]
    exact this
def checked_Down.f (a0 a1 a2 : Int) : Option (Int × Int) := if in64 a0 ∧ in64 a1 ∧ in64 a2 then some (fr a0 a1 a2 false) else none
set_option maxHeartbeats 800000 in
theorem checked_Down.calls (a0 : Int) (a1 : Int) (a2 : Int) (r1 : Int) (r2 : Int) (w : World) (h : checked_Down.f a0 a1 a2 = some (r1, r2)) :
    Calls Try.prog 57 #[.int .i64 a0, .int .i64 a1, .int .i64 a2] w fun e w' => e = .returned (.tuple #[.int .i64 r1, .int .i64 r2]) ∧ Below w.heap.size w w' := by
  unfold checked_Down.f at h
  by_cases c : in64 a0 ∧ in64 a1 ∧ in64 a2
  · rw [if_pos c] at h
    have hf := fun w => fr_calls a0 a1 a2 false c.1 c.2.1 c.2.2 w
    rw [Option.some.inj h] at hf
    have Hf := Lib.hid hf
    clear hf h c
    go_enter Try.func57, Try.ntmps57
    go_wp2_with fail
    refine (Hf.out _).mono ?_; rintro e w1 ⟨rfl, hb1⟩
    go_wp2_with fail
    go_ret2
    exact ⟨rfl, hb1⟩
  · rw [if_neg c] at h; exact absurd h (by simp)
def checked_Up.f (a0 a1 a2 : Int) : Option (Int × Int) := if in64 a0 ∧ in64 a1 ∧ in64 a2 then some (fr a0 a1 a2 true) else none
set_option maxHeartbeats 800000 in
theorem checked_Up.calls (a0 : Int) (a1 : Int) (a2 : Int) (r1 : Int) (r2 : Int) (w : World) (h : checked_Up.f a0 a1 a2 = some (r1, r2)) :
    Calls Try.prog 56 #[.int .i64 a0, .int .i64 a1, .int .i64 a2] w fun e w' => e = .returned (.tuple #[.int .i64 r1, .int .i64 r2]) ∧ Below w.heap.size w w' := by
  unfold checked_Up.f at h
  by_cases c : in64 a0 ∧ in64 a1 ∧ in64 a2
  · rw [if_pos c] at h
    have hf := fun w => fr_calls a0 a1 a2 true c.1 c.2.1 c.2.2 w
    rw [Option.some.inj h] at hf
    have Hf := Lib.hid hf
    clear hf h c
    go_enter Try.func56, Try.ntmps56
    go_wp2_with fail
    refine (Hf.out _).mono ?_; rintro e w1 ⟨rfl, hb1⟩
    go_wp2_with fail
    go_ret2
    exact ⟨rfl, hb1⟩
  · rw [if_neg c] at h; exact absurd h (by simp)

/-! The reference's numbers. -/
def dec (s : Bool) (l : List Bool) : Int := if s = true then -(Bl.val l : Int) else (Bl.val l : Int)
/-- A sign and bits as the reference keeps them, not too long. -/
def okB (s : Bool) (l : List Bool) : Bool := (enc (dec s l) == (s, l)) && decide (l.length ≤ 1000000)
def small (z : Int) : Prop := (Bl.nbits z.natAbs).length ≤ 1000000
theorem small_of {z : Int} (h : z.natAbs < 2 ^ 250) : small z := Nat.le_trans (Bl.bits_len_le h) (by omega)
theorem dec_enc (z : Int) : dec (enc z).1 (enc z).2 = z := by
  unfold dec enc
  rw [Bl.val_bits]
  by_cases h : z < 0 <;> simp [h] <;> omega
theorem okB_enc {z : Int} (h : small z) : okB (enc z).1 (enc z).2 = true := by
  unfold okB
  rw [dec_enc]
  have : (enc z).2.length ≤ 1000000 := h
  simp [this]
theorem okB_open {s : Bool} {l : List Bool} (h : okB s l = true) : ∃ z, s = (enc z).1 ∧ l = (enc z).2 ∧ small z ∧ dec s l = z := by
  unfold okB at h
  simp only [Bool.and_eq_true, beq_iff_eq, decide_eq_true_eq] at h
  refine ⟨dec s l, by rw [h.1], by rw [h.1], ?_, rfl⟩
  have : (enc (dec s l)).2.length ≤ 1000000 := by rw [h.1]; exact h.2
  exact this

def spigotref01_Of.f (a0 : Int) : Option (Bool × List Bool) := if in64 a0 then some (enc a0) else none
theorem spigotref01_Of.calls (a0 : Int) (r1 : Bool) (r2 : List Bool) (w : World) (h : spigotref01_Of.f a0 = some (r1, r2)) :
    Calls Try.prog 54 #[.int .i64 a0] w fun e w' => ∃ v1_ : Value, e = .returned (.agg #[.bool r1, v1_]) ∧ Kd.R Kd.bool 4 w' w.heap.size (fun _ => True) v1_ r2 ∧ Below w.heap.size w w' := by
  unfold spigotref01_Of.f at h
  by_cases c : in64 a0
  · rw [if_pos c] at h
    obtain ⟨k, hk⟩ := (of_ev a0 c.1 c.2).rounds
    have e : ((decide (a0 < 0), Bl.nbits a0.natAbs) : Bool × List Bool) = (r1, r2) := Option.some.inj h
    rw [e] at hk
    exact R.spigotref01_Of.calls k a0 r1 r2 w hk
  · rw [if_neg c] at h; exact absurd h (by simp)
def spigotref01_Told.f (a0_0 : Bool) (l0_1 : List Bool) : Option (Int × Int) := if okB a0_0 l0_1 = true then some (tell (dec a0_0 l0_1)) else none
theorem spigotref01_Told.calls (a0_0 : Bool) (A0_1 : Option Addr) (c0_1 : Nat) (l0_1 : List Bool) (r1 : Int) (r2 : Int) (w : World) (hr0_1 : Kd.C Kd.bool w A0_1 l0_1.length l0_1) (hc0_1 : l0_1.length ≤ c0_1) (h : spigotref01_Told.f a0_0 l0_1 = some (r1, r2)) :
    Calls Try.prog 52 #[.agg #[.bool a0_0, .slice A0_1 l0_1.length c0_1]] w fun e w' => e = .returned (.tuple #[.int .i64 r1, .int .i64 r2]) ∧ Below w.heap.size w w' := by
  unfold spigotref01_Told.f at h
  by_cases c : okB a0_0 l0_1 = true
  · rw [if_pos c] at h
    obtain ⟨z, rfl, rfl, hs, hd⟩ := okB_open c
    rw [hd] at h
    obtain ⟨k, hk⟩ := (told_ev z (by unfold small at hs; omega)).rounds
    rw [Option.some.inj h] at hk
    exact R.spigotref01_Told.calls k _ _ _ _ r1 r2 w hr0_1 hc0_1 hk
  · rw [if_neg c] at h; exact absurd h (by simp)
theorem in64_lt {a : Int} (ha : in64 a) : a.natAbs ≤ 9223372036854775808 := by have := ha.1; have := ha.2; omega
theorem small_le {z : Int} (h : z.natAbs ≤ 85070591730234615865843651857942052864) : small z := small_of (Nat.lt_of_le_of_lt h (by decide))
end Go.Proofs.Ytbhbnefifgdioaa.Hand
