/- grain's Floor and Ceil, walked: by a function handed on. -/
import Derived.Test.YtbhbnefifgdioaaHandE
set_option linter.unusedVariables false
set_option linter.unusedSimpArgs false
namespace Go.Proofs.Ytbhbnefifgdioaa.Hand
open Go Go.RowKit Go.Proofs.YtbhbnefifgdioaaW.PrintWords Go.Proofs.YtbhbnefifgdioaaW.PrintMore Go.Proofs.Ytbhbnefifgdioaa.RL
set_option maxHeartbeats 1000000 in
theorem floor_no1 (n s : Int) (h : s < 1) (w : World) :
    Calls Try.prog 59 #[.int .i64 n, .int .i64 s] w fun e w' => e = .returned (.tuple #[.int .i64 0, .int .i64 2]) ∧ Below w.heap.size w w' := by
  go_enter Try.func59, Try.ntmps59
  go_wp2
  go_ret2
  exact ⟨rfl, Below.refl _ _⟩
set_option maxHeartbeats 1000000 in
theorem floor_no2 (n s : Int) (h : 1 ≤ s) (h2 : n < 0) (w : World) :
    Calls Try.prog 59 #[.int .i64 n, .int .i64 s] w fun e w' => e = .returned (.tuple #[.int .i64 0, .int .i64 2]) ∧ Below w.heap.size w w' := by
  go_enter Try.func59, Try.ntmps59
  go_wp2
  go_ret2
  exact ⟨rfl, Below.refl _ _⟩
set_option maxHeartbeats 1000000 in
theorem floor_ok (n s q m e2 : Int) (h : 1 ≤ s) (h2 : 0 ≤ n) (w : World)
    (hd : ∀ w, Calls Try.prog 57 #[.int .i64 n, .int .i64 1, .int .i64 s] w fun e w' => e = .returned (.tuple #[.int .i64 q, .int .i64 0]) ∧ Below w.heap.size w w')
    (hm : ∀ w, Calls Try.prog 75 #[.int .i64 q, .int .i64 s] w fun e w' => e = .returned (.tuple #[.int .i64 m, .int .i64 e2]) ∧ Below w.heap.size w w') :
    Calls Try.prog 59 #[.int .i64 n, .int .i64 s] w fun e w' => e = .returned (.tuple #[.int .i64 m, .int .i64 e2]) ∧ Below w.heap.size w w' := by
  have Hd := Lib.hid hd
  have Hm := Lib.hid hm
  clear hd hm
  go_enter Try.func59, Try.ntmps59
  go_wp2_with (first | (go_at_call 57; refine (Hd.out _).mono ?_; rintro e w1 ⟨rfl, hb1⟩) | (go_at_call 75; refine (Hm.out _).mono ?_; rintro e w2 ⟨rfl, hb2⟩) | go_in)
  go_ret2
  exact ⟨rfl, bt hb1 hb2⟩
set_option maxHeartbeats 1000000 in
theorem ceil_no1 (n s : Int) (h : s < 1) (w : World) :
    Calls Try.prog 58 #[.int .i64 n, .int .i64 s] w fun e w' => e = .returned (.tuple #[.int .i64 0, .int .i64 2]) ∧ Below w.heap.size w w' := by
  go_enter Try.func58, Try.ntmps58
  go_wp2
  go_ret2
  exact ⟨rfl, Below.refl _ _⟩
set_option maxHeartbeats 1000000 in
theorem ceil_no2 (n s : Int) (h : 1 ≤ s) (h2 : n < 0) (w : World) :
    Calls Try.prog 58 #[.int .i64 n, .int .i64 s] w fun e w' => e = .returned (.tuple #[.int .i64 0, .int .i64 2]) ∧ Below w.heap.size w w' := by
  go_enter Try.func58, Try.ntmps58
  go_wp2
  go_ret2
  exact ⟨rfl, Below.refl _ _⟩
set_option maxHeartbeats 1000000 in
theorem ceil_ok (n s q m e2 : Int) (h : 1 ≤ s) (h2 : 0 ≤ n) (w : World)
    (hd : ∀ w, Calls Try.prog 56 #[.int .i64 n, .int .i64 1, .int .i64 s] w fun e w' => e = .returned (.tuple #[.int .i64 q, .int .i64 0]) ∧ Below w.heap.size w w')
    (hm : ∀ w, Calls Try.prog 75 #[.int .i64 q, .int .i64 s] w fun e w' => e = .returned (.tuple #[.int .i64 m, .int .i64 e2]) ∧ Below w.heap.size w w') :
    Calls Try.prog 58 #[.int .i64 n, .int .i64 s] w fun e w' => e = .returned (.tuple #[.int .i64 m, .int .i64 e2]) ∧ Below w.heap.size w w' := by
  have Hd := Lib.hid hd
  have Hm := Lib.hid hm
  clear hd hm
  go_enter Try.func58, Try.ntmps58
  go_wp2_with (first | (go_at_call 56; refine (Hd.out _).mono ?_; rintro e w1 ⟨rfl, hb1⟩) | (go_at_call 75; refine (Hm.out _).mono ?_; rintro e w2 ⟨rfl, hb2⟩) | go_in)
  go_ret2
  exact ⟨rfl, bt hb1 hb2⟩

theorem flo_pos {n s : Int} (h : 1 ≤ s) : flo (n * 1) s = n / s := by unfold flo; rw [if_neg (by omega), Int.mul_one]
theorem div_b {n s : Int} (h : 1 ≤ s) (h2 : 0 ≤ n) : 0 ≤ n / s ∧ n / s ≤ n ∧ n / s * s ≤ n ∧ 0 ≤ n / s * s := by
  have h0 : 0 ≤ n / s := Int.ediv_nonneg h2 (by omega)
  have h1 : n / s ≤ n := Int.ediv_le_self _ h2
  have hdm := Int.emod_add_mul_ediv n s
  have hm := Int.emod_nonneg n (show s ≠ 0 by omega)
  have e : n / s * s = s * (n / s) := Int.mul_comm _ _
  exact ⟨h0, h1, by omega, Int.mul_nonneg h0 (by omega)⟩
theorem cei_pos {n s : Int} (h : 1 ≤ s) (h2 : 0 ≤ n) : cei (n * 1) s = if n % s = 0 then n / s else n / s + 1 := by
  rw [Int.mul_one, cei_eq n s (by omega)]
  obtain ⟨n, rfl⟩ := Int.eq_ofNat_of_zero_le h2
  obtain ⟨s, rfl⟩ := Int.eq_ofNat_of_zero_le (show 0 ≤ s by omega)
  rw [if_neg (by simp; omega)]
  simp only [Int.natAbs_natCast]
  have e : ((n : Int) % (s : Int) = 0) ↔ n % s = 0 := by omega
  by_cases hm : n % s = 0
  · rw [if_pos hm, if_pos (e.2 hm)]; simp
  · rw [if_neg hm, if_neg (fun x => hm (e.1 x))]; simp
theorem cei_b {n s : Int} (h : 1 ≤ s) (h2 : 0 ≤ n) : 0 ≤ cei (n * 1) s ∧ cei (n * 1) s ≤ n := by
  rw [cei_pos h h2]
  obtain ⟨h0, h1, h3, h4⟩ := div_b h h2
  have hdm := Int.emod_add_mul_ediv n s
  have hm := Int.emod_nonneg n (show s ≠ 0 by omega)
  by_cases hz : n % s = 0
  · rw [if_pos hz]; exact ⟨h0, h1⟩
  · rw [if_neg hz]
    have : n / s ≤ s * (n / s) := by have := Int.mul_le_mul_of_nonneg_right h h0; omega
    omega
theorem tell_in' {z : Int} (h : in64 z) : tell z = (z, 0) := by unfold tell; exact if_pos h
def grain_Floor.f (a0 a1 : Int) : Option (Int × Int) := if in64 a0 ∧ in64 a1 then some (if a1 < 1 ∨ a0 < 0 then (0, 2) else (a0 / a1 * a1, 0)) else none
theorem grain_Floor.calls (a0 : Int) (a1 : Int) (r1 : Int) (r2 : Int) (w : World) (h : grain_Floor.f a0 a1 = some (r1, r2)) :
    Calls Try.prog 59 #[.int .i64 a0, .int .i64 a1] w fun e w' => e = .returned (.tuple #[.int .i64 r1, .int .i64 r2]) ∧ Below w.heap.size w w' := by
  unfold grain_Floor.f at h
  by_cases c : in64 a0 ∧ in64 a1
  · rw [if_pos c] at h
    by_cases h1 : a1 < 1
    · rw [if_pos (.inl h1)] at h
      simp only [Option.some.injEq, Prod.mk.injEq] at h
      obtain ⟨rfl, rfl⟩ := h
      exact floor_no1 a0 a1 h1 w
    · by_cases h2 : a0 < 0
      · rw [if_pos (.inr h2)] at h
        simp only [Option.some.injEq, Prod.mk.injEq] at h
        obtain ⟨rfl, rfl⟩ := h
        exact floor_no2 a0 a1 (by omega) h2 w
      · rw [if_neg (by omega)] at h
        simp only [Option.some.injEq, Prod.mk.injEq] at h
        obtain ⟨rfl, rfl⟩ := h
        obtain ⟨b0, b1, b3, b4⟩ := div_b (n := a0) (s := a1) (by omega) (by omega)
        have := c.1.2
        have i1 : in64 (a0 / a1) := ⟨by omega, by omega⟩
        have i2 : in64 (a0 / a1 * a1) := ⟨by omega, by omega⟩
        refine floor_ok a0 a1 (a0 / a1) (a0 / a1 * a1) 0 (by omega) (by omega) w (fun w => checked_Down.calls a0 1 a1 _ _ w ?_) (fun w => checked_Mul.calls (a0 / a1) a1 _ _ w ?_)
        · unfold checked_Down.f fr frac
          rw [if_pos ⟨c.1, by decide, c.2⟩, if_neg (by omega)]
          simp only [Bool.false_eq_true, if_false]
          rw [flo_pos (by omega), tell_in' i1]
        · unfold checked_Mul.f
          rw [if_pos ⟨i1, c.2⟩, tell_in' i2]
  · rw [if_neg c] at h; exact absurd h (by simp)
def grain_Ceil.f (a0 a1 : Int) : Option (Int × Int) := if in64 a0 ∧ in64 a1 then some (if a1 < 1 ∨ a0 < 0 then (0, 2) else tell (cei (a0 * 1) a1 * a1)) else none
theorem grain_Ceil.calls (a0 : Int) (a1 : Int) (r1 : Int) (r2 : Int) (w : World) (h : grain_Ceil.f a0 a1 = some (r1, r2)) :
    Calls Try.prog 58 #[.int .i64 a0, .int .i64 a1] w fun e w' => e = .returned (.tuple #[.int .i64 r1, .int .i64 r2]) ∧ Below w.heap.size w w' := by
  unfold grain_Ceil.f at h
  by_cases c : in64 a0 ∧ in64 a1
  · rw [if_pos c] at h
    by_cases h1 : a1 < 1
    · rw [if_pos (.inl h1)] at h
      simp only [Option.some.injEq, Prod.mk.injEq] at h
      obtain ⟨rfl, rfl⟩ := h
      exact ceil_no1 a0 a1 h1 w
    · by_cases h2 : a0 < 0
      · rw [if_pos (.inr h2)] at h
        simp only [Option.some.injEq, Prod.mk.injEq] at h
        obtain ⟨rfl, rfl⟩ := h
        exact ceil_no2 a0 a1 (by omega) h2 w
      · rw [if_neg (by omega)] at h
        obtain ⟨b0, b1⟩ := cei_b (n := a0) (s := a1) (by omega) (by omega)
        have := c.1.2
        have i1 : in64 (cei (a0 * 1) a1) := ⟨by omega, by omega⟩
        refine ceil_ok a0 a1 (cei (a0 * 1) a1) r1 r2 (by omega) (by omega) w (fun w => checked_Up.calls a0 1 a1 _ _ w ?_) (fun w => checked_Mul.calls (cei (a0 * 1) a1) a1 _ _ w ?_)
        · unfold checked_Up.f fr frac
          rw [if_pos ⟨c.1, by decide, c.2⟩, if_neg (by omega)]
          simp only [if_true]
          rw [tell_in' i1]
        · unfold checked_Mul.f
          rw [if_pos ⟨i1, c.2⟩]; exact h
  · rw [if_neg c] at h; exact absurd h (by simp)
end Go.Proofs.Ytbhbnefifgdioaa.Hand
