/- The functions of package checked, walked, and what they tell in plain numbers. -/
import Derived.Test.YtbhbnefifgdioaaAid
import Derived.Shelf.Spec.BitsCarry
import Derived.WalkLawsBesides
import Derived.Lib.Hide
import Derived.Deep.QuietTactic
import Derived.BigQuiet
import Derived.Test.YtbhbnefifgdioaaRefs
/- The functions of package checked, walked: what each comes to, as numbers. -/
set_option linter.unusedVariables false
set_option linter.unusedSimpArgs false
namespace Go.Proofs.Ytbhbnefifgdioaa.Hand
open Go Go.RowKit Go.Proofs.YtbhbnefifgdioaaW.PrintWords Go.Proofs.YtbhbnefifgdioaaW.PrintMore

/-- A number without its sign; the upper and the lower half of a product. -/
def ab (a : Int) : Int := if a < 0 then -a else a
def pHi (a b : Int) : Int := a * b / 18446744073709551616
def pLo (a b : Int) : Int := a * b % 18446744073709551616
theorem ab_ge (a : Int) : 0 ≤ ab a := by unfold ab; split <;> omega
theorem ab_le {a : Int} (h0 : -9223372036854775808 ≤ a) (h1 : a ≤ 9223372036854775807) : ab a ≤ 9223372036854775808 := by unfold ab; split <;> omega
theorem size_calls (a : Int) (h0 : -9223372036854775808 ≤ a) (h1 : a ≤ 9223372036854775807) (w : World) :
    Calls Try.prog 72 #[.int .i64 a] w fun e w' => e = .returned (.int .u64 (ab a)) ∧ Drawn0 w w' := by
  refine R.checked_size.calls a (ab a) w ?_
  unfold R.checked_size.f ab
  by_cases h : a < 0
  · rw [if_pos h, if_pos h, IntKind.wrap_u64, IntKind.wrap_u64]; congr 1; omega
  · rw [if_neg h, if_neg h, IntKind.wrap_u64]; congr 1; omega

set_option maxHeartbeats 400000 in
theorem times_calls (a b : Int) (ha0 : 0 ≤ a) (ha : a ≤ 18446744073709551615) (hb0 : 0 ≤ b) (hb : b ≤ 18446744073709551615) (w : World) :
    Calls Try.prog 76 #[.int .u64 a, .int .u64 b] w fun e w' => e = .returned (.agg #[.int .u64 (pHi a b), .int .u64 (pLo a b)]) ∧ Below w.heap.size w w' := by
  have hm : ∀ w, Calls Try.prog 79 #[.int .u64 a, .int .u64 b] w fun e w' => e = .returned (.tuple #[.int .u64 (pHi a b), .int .u64 (pLo a b)]) ∧ w' = w := by
    intro w
    obtain ⟨a, rfl⟩ := Int.eq_ofNat_of_zero_le ha0
    obtain ⟨b, rfl⟩ := Int.eq_ofNat_of_zero_le hb0
    have := Try.bits_Mul64 a b (by omega) (by omega) w
    have e1 : ((a * b / 18446744073709551616 : Nat) : Int) = pHi a b := by unfold pHi; omega
    have e2 : ((a * b % 18446744073709551616 : Nat) : Int) = pLo a b := by unfold pLo; omega
    rw [e1, e2] at this
    exact this
  have Hm := Lib.hid hm
  clear hm
  go_enter Try.func76, Try.ntmps76
  go_wp2_with (go_at_call 79; refine (Hm.out _).mono ?_; rintro e w' ⟨rfl, rfl⟩)
  exact bodyPost_ret (v := .agg #[.int .u64 (pHi a b), .int .u64 (pLo a b)]) (by simp [results, Try.results76, go_sem]) rfl ⟨rfl, (Below.refl _ _).alloc (Nat.le_refl _) _⟩

/-- A sign and two halves as a number of 64 bits. -/
def sgn (below : Bool) (h l : Int) : Int × Int := if h = 0 ∧ l ≤ (if below = true then 9223372036854775808 else 9223372036854775807) then ((if below = true then -l else l), 0) else (0, 10)
set_option maxHeartbeats 800000 in
theorem signed_calls (h l : Int) (below : Bool) (h0 : 0 ≤ h) (h1 : h ≤ 18446744073709551615) (l0 : 0 ≤ l) (l1 : l ≤ 18446744073709551615) (w : World) :
    Calls Try.prog 74 #[.agg #[.int .u64 h, .int .u64 l], .bool below] w fun e w' => e = .returned (.tuple #[.int .i64 (sgn below h l).1, .int .i64 (sgn below h l).2]) ∧ Below w.heap.size w w' := by
  cases below
  · by_cases c1 : 0 < h
    · go_enter Try.func74, Try.ntmps74
      go_wp2
      go_ret2
      exact ⟨ret_two (by unfold sgn; rw [if_neg (by omega)]) (by unfold sgn; rw [if_neg (by omega)]), (Below.refl _ _).alloc (Nat.le_refl _) _⟩
    · by_cases c2 : 9223372036854775807 < l
      · go_enter Try.func74, Try.ntmps74
        go_wp2
        go_ret2
        exact ⟨ret_two (by unfold sgn; rw [if_neg (by simp; omega)]) (by unfold sgn; rw [if_neg (by simp; omega)]), (Below.refl _ _).alloc (Nat.le_refl _) _⟩
      · go_enter Try.func74, Try.ntmps74
        go_wp2
        go_ret2
        exact ⟨ret_two (by unfold sgn; rw [if_pos (by simp; omega)]; simp) (by unfold sgn; rw [if_pos (by simp; omega)]), (Below.refl _ _).alloc (Nat.le_refl _) _⟩
  · by_cases c1 : 0 < h
    · go_enter Try.func74, Try.ntmps74
      go_wp2
      go_ret2
      exact ⟨ret_two (by unfold sgn; rw [if_neg (by omega)]) (by unfold sgn; rw [if_neg (by omega)]), (Below.refl _ _).alloc (Nat.le_refl _) _⟩
    · by_cases c2 : 9223372036854775808 < l
      · go_enter Try.func74, Try.ntmps74
        go_wp2
        go_ret2
        exact ⟨ret_two (by unfold sgn; rw [if_neg (by simp; omega)]) (by unfold sgn; rw [if_neg (by simp; omega)]), (Below.refl _ _).alloc (Nat.le_refl _) _⟩
      · go_enter Try.func74, Try.ntmps74
        go_wp2
        go_ret2
        exact ⟨ret_two (by unfold sgn; rw [if_pos (by simp; omega)]; simp only [if_true]; rw [IntKind.wrap_u64]; unfold wrap64; omega) (by unfold sgn; rw [if_pos (by simp; omega)]), (Below.refl _ _).alloc (Nat.le_refl _) _⟩

/-- What a product is told as. -/
def mulT (a b : Int) : Int × Int := sgn (decide (a < 0) != decide (b < 0)) (pHi (ab a) (ab b)) (pLo (ab a) (ab b))
theorem pHi_b {a b : Int} (ha0 : 0 ≤ a) (ha : a ≤ 18446744073709551615) (hb0 : 0 ≤ b) (hb : b ≤ 18446744073709551615) : 0 ≤ pHi a b ∧ pHi a b ≤ 18446744073709551615 := by
  have h1 : 0 ≤ a * b := Int.mul_nonneg ha0 hb0
  have h2 : a * b ≤ 18446744073709551615 * 18446744073709551615 := Int.mul_le_mul ha hb hb0 (by omega)
  unfold pHi; omega
theorem pLo_b (a b : Int) : 0 ≤ pLo a b ∧ pLo a b ≤ 18446744073709551615 := by unfold pLo; omega
set_option maxHeartbeats 800000 in
theorem Mul_calls (a b : Int) (ha0 : -9223372036854775808 ≤ a) (ha : a ≤ 9223372036854775807) (hb0 : -9223372036854775808 ≤ b) (hb : b ≤ 9223372036854775807) (w : World) :
    Calls Try.prog 75 #[.int .i64 a, .int .i64 b] w fun e w' => e = .returned (.tuple #[.int .i64 (mulT a b).1, .int .i64 (mulT a b).2]) ∧ Below w.heap.size w w' := by
  have a1 := ab_ge a; have a2 := ab_le ha0 ha; have b1 := ab_ge b; have b2 := ab_le hb0 hb
  have p1 := pHi_b a1 (by omega) b1 (by omega)
  have p2 := pLo_b (ab a) (ab b)
  obtain ⟨p11, p12⟩ := p1
  obtain ⟨p21, p22⟩ := p2
  unfold mulT
  go_enter Try.func75, Try.ntmps75
  go_wp2_with fail
  refine (size_calls a ha0 ha _).mono ?_; rintro e w1 ⟨rfl, hd1⟩
  go_wp2_with fail
  refine (size_calls b hb0 hb _).mono ?_; rintro e w2 ⟨rfl, hd2⟩
  go_wp2_with fail
  refine (times_calls _ _ a1 (by omega) b1 (by omega) _).mono ?_; rintro e w3 ⟨rfl, hb3⟩
  go_wp2_with fail
  refine (signed_calls _ _ _ p11 p12 p21 p22 _).mono ?_; rintro e w4 ⟨rfl, hb4⟩
  go_wp2_with fail
  go_ret2
  have e : (!decide (a < 0) == decide (b < 0)) = (decide (a < 0) != decide (b < 0)) := by cases decide (a < 0) <;> cases decide (b < 0) <;> rfl
  exact ⟨by rw [e]; rfl, bt (bt (bt hd1.below hd2.below) hb3) hb4⟩

def dq (hi lo y : Int) : Int := (hi * 18446744073709551616 + lo) / y
def dr (hi lo y : Int) : Int := (hi * 18446744073709551616 + lo) % y
theorem div64_calls (hi lo y : Int) (h0 : 0 ≤ hi) (h1 : hi < y) (h2 : y ≤ 18446744073709551615) (l0 : 0 ≤ lo) (l1 : lo ≤ 18446744073709551615) (w : World) :
    Calls Try.prog 77 #[.int .u64 hi, .int .u64 lo, .int .u64 y] w fun e w' => e = .returned (.tuple #[.int .u64 (dq hi lo y), .int .u64 (dr hi lo y)]) ∧ ∃ m, w' = w.drewN m :=
  (R.bits_Div64.calls 40 hi lo y _ _ w (RL.div64_ev hi lo y h0 h1 (by omega) l0 (by omega) 40 (Nat.le_refl _))).mono fun e w' ⟨he, hw⟩ => ⟨he, hw.out⟩
theorem dq_b {hi lo y : Int} (h0 : 0 ≤ hi) (h1 : hi < y) (l0 : 0 ≤ lo) (l1 : lo ≤ 18446744073709551615) : 0 ≤ dq hi lo y ∧ dq hi lo y ≤ 18446744073709551615 := by
  unfold dq
  refine ⟨Int.ediv_nonneg (by omega) (by omega), ?_⟩
  have : hi * 18446744073709551616 + lo < 18446744073709551616 * y := by omega
  have := (Int.ediv_lt_iff_lt_mul (show 0 < y by omega)).2 this
  omega
theorem dr_b {hi lo y : Int} (h : 0 < y) : 0 ≤ dr hi lo y ∧ dr hi lo y < y := ⟨Int.emod_nonneg _ (by omega), Int.emod_lt_of_pos _ h⟩
set_option maxHeartbeats 800000 in
theorem part_calls (a b c : Int) (ha0 : 0 ≤ a) (ha : a ≤ 18446744073709551615) (hb0 : 0 ≤ b) (hb : b ≤ 18446744073709551615) (hc0 : 1 ≤ c) (hc : c ≤ 18446744073709551615) (w : World) :
    Calls Try.prog 71 #[.int .u64 a, .int .u64 b, .int .u64 c] w fun e w' => e = .returned (.tuple #[.agg #[.int .u64 (pHi a b / c), .int .u64 (dq (pHi a b % c) (pLo a b) c)], .bool (decide (0 < dr (pHi a b % c) (pLo a b) c))]) ∧ Below w.heap.size w w' := by
  obtain ⟨p11, p12⟩ := pHi_b ha0 ha hb0 hb
  obtain ⟨p21, p22⟩ := pLo_b a b
  have m0 := Int.emod_nonneg (pHi a b) (show c ≠ 0 by omega)
  have m1 := Int.emod_lt_of_pos (pHi a b) (show 0 < c by omega)
  go_enter Try.func71, Try.ntmps71
  go_wp2_with fail
  refine (times_calls a b ha0 ha hb0 hb _).mono ?_; rintro e w1 ⟨rfl, hb1⟩
  obtain ⟨hcell, hfroz⟩ := bcell hb1
  have hz : w.heap.size < w1.heap.size := by have := hb1.size; simp at this; omega
  go_wp2_with fail
  go_quiet ((go_at_call 77; exact Calls.quiet_of (div64_calls _ _ _ m0 m1 hc p21 p22 _)))
  go_wp2_with fail
  have B1 : Below w.heap.size w w1 := ((Below.refl w.heap.size w).alloc (Nat.le_refl _) _).trans (hb1.mono (by simp))
  exact bodyPost_ret (v := .tuple #[.agg #[.int .u64 (pHi a b / c), .int .u64 (dq (pHi a b % c) (pLo a b) c)], .bool (decide (0 < dr (pHi a b % c) (pLo a b) c))]) (by simp [results, Try.results71, go_sem, hcell, hz]) rfl
    ⟨rfl, ((pw_below_drewN (B1.alloc (by omega) _) nq).setCell (by simp) _).setCell (by simp) _⟩

theorem run_add (x y c : Int) (hx : 0 ≤ x) (hy : 0 ≤ y) (hc0 : 0 ≤ c) (hc : c ≤ 1) (w : World) :
    (callFunc 78 #[.int .u64 x, .int .u64 y, .int .u64 c]).run Try.prog w = .ok (.value (.tuple #[.int .u64 ((x + y + c) % 18446744073709551616), .int .u64 ((x + y + c) / 18446744073709551616)])) w := by
  obtain ⟨x, rfl⟩ := Int.eq_ofNat_of_zero_le hx
  obtain ⟨y, rfl⟩ := Int.eq_ofNat_of_zero_le hy
  obtain ⟨c, rfl⟩ := Int.eq_ofNat_of_zero_le hc0
  rw [run_callFunc_extern Try.func78 (by kernel_rfl) (by kernel_rfl) (by kernel_rfl) (e := add64Entry) (by kernel_rfl), run_add64 x y c (by omega) (by omega) (by omega) (by omega)]
  rfl
set_option maxHeartbeats 800000 in
theorem more_calls (h l : Int) (h0 : 0 ≤ h) (h1 : h ≤ 18446744073709551615) (l0 : 0 ≤ l) (l1 : l ≤ 18446744073709551615) (w : World) :
    Calls Try.prog 73 #[.agg #[.int .u64 h, .int .u64 l]] w fun e w' => e = .returned (.agg #[.int .u64 (IntKind.u64.wrap (h + (l + 1) / 18446744073709551616)), .int .u64 ((l + 1) % 18446744073709551616)]) ∧ Below w.heap.size w w' := by
  have hadd := fun w => run_add l 1 0 l0 (by omega) (by omega) (by omega) w
  go_enter Try.func73, Try.ntmps73
  go_wp2_with (simp only [hadd])
  exact bodyPost_ret (v := .agg #[.int .u64 (IntKind.u64.wrap (h + (l + 1) / 18446744073709551616)), .int .u64 ((l + 1) % 18446744073709551616)]) (by simp [results, Try.results73, go_sem]) rfl ⟨rfl, ((Below.refl w.heap.size w).alloc (Nat.le_refl _) _).alloc (by simp) _⟩
/-- Below nought: an odd number of signs. -/
def odd3 (a b c : Int) : Bool := (decide (a < 0) != decide (b < 0)) != decide (c < 0)
/-- What is told of a product by a number. -/
def frT (a b c : Int) (up : Bool) : Int × Int :=
  if 0 < dr (pHi (ab a) (ab b) % ab c) (pLo (ab a) (ab b)) (ab c) ∧ up ≠ odd3 a b c then
    sgn (odd3 a b c) (IntKind.u64.wrap (pHi (ab a) (ab b) / ab c + (dq (pHi (ab a) (ab b) % ab c) (pLo (ab a) (ab b)) (ab c) + 1) / 18446744073709551616)) ((dq (pHi (ab a) (ab b) % ab c) (pLo (ab a) (ab b)) (ab c) + 1) % 18446744073709551616)
  else sgn (odd3 a b c) (pHi (ab a) (ab b) / ab c) (dq (pHi (ab a) (ab b) % ab c) (pLo (ab a) (ab b)) (ab c))
set_option maxHeartbeats 4000000 in
theorem fraction_calls (a b c : Int) (up : Bool) (ha0 : -9223372036854775808 ≤ a) (ha : a ≤ 9223372036854775807) (hb0 : -9223372036854775808 ≤ b) (hb : b ≤ 9223372036854775807) (hc0 : -9223372036854775808 ≤ c) (hc : c ≤ 9223372036854775807) (hz : c ≠ 0) (w : World) :
    Calls Try.prog 65 #[.int .i64 a, .int .i64 b, .int .i64 c, .bool up] w fun e w' => e = .returned (.tuple #[.int .i64 (frT a b c up).1, .int .i64 (frT a b c up).2]) ∧ Below w.heap.size w w' := by
  have a1 := ab_ge a; have a2 := ab_le ha0 ha; have b1 := ab_ge b; have b2 := ab_le hb0 hb; have c2 := ab_le hc0 hc
  have c1 : 1 ≤ ab c := by unfold ab; split <;> omega
  obtain ⟨p11, p12⟩ := pHi_b a1 (by omega) b1 (by omega)
  obtain ⟨p21, p22⟩ := pLo_b (ab a) (ab b)
  have m0 := Int.emod_nonneg (pHi (ab a) (ab b)) (show ab c ≠ 0 by omega)
  have m1 := Int.emod_lt_of_pos (pHi (ab a) (ab b)) (show 0 < ab c by omega)
  obtain ⟨q0, q1⟩ := dq_b m0 m1 p21 p22
  have hz' : (c == 0) = false := by simpa using hz
  have s0 : 0 ≤ pHi (ab a) (ab b) / ab c := Int.ediv_nonneg p11 (by omega)
  have s1 : pHi (ab a) (ab b) / ab c ≤ 18446744073709551615 := Int.le_trans (Int.ediv_le_self _ p11) p12
  have hfr : frT a b c up = if 0 < dr (pHi (ab a) (ab b) % ab c) (pLo (ab a) (ab b)) (ab c) ∧ up ≠ odd3 a b c then
    sgn (odd3 a b c) (IntKind.u64.wrap (pHi (ab a) (ab b) / ab c + (dq (pHi (ab a) (ab b) % ab c) (pLo (ab a) (ab b)) (ab c) + 1) / 18446744073709551616)) ((dq (pHi (ab a) (ab b) % ab c) (pLo (ab a) (ab b)) (ab c) + 1) % 18446744073709551616)
    else sgn (odd3 a b c) (pHi (ab a) (ab b) / ab c) (dq (pHi (ab a) (ab b) % ab c) (pLo (ab a) (ab b)) (ab c)) := rfl
  have hsz : ∀ x : Int, -9223372036854775808 ≤ x → x ≤ 9223372036854775807 → ∀ w, Calls Try.prog 72 #[.int .i64 x] w fun e w' => e = .returned (.int .u64 (ab x)) ∧ Drawn0 w w' := fun x h0 h1 w => size_calls x h0 h1 w
  have hpt := fun w => part_calls (ab a) (ab b) (ab c) a1 (by omega) b1 (by omega) c1 (by omega) w
  clear hz
  unfold odd3 at hfr
  generalize hrr : dr (pHi (ab a) (ab b) % ab c) (pLo (ab a) (ab b)) (ab c) = rr at *
  generalize pHi (ab a) (ab b) / ab c = qh at *
  generalize dq (pHi (ab a) (ab b) % ab c) (pLo (ab a) (ab b)) (ab c) = ql at *
  clear hrr m0 m1 p11 p12 p21 p22
  have Hpt := Lib.hid hpt
  have Hsz := Lib.hid hsz
  have Hfr := Lib.hid hfr
  clear hpt hsz hfr
  have hmore := fun w => more_calls qh ql s0 s1 q0 q1 w
  have mh0 : 0 ≤ IntKind.u64.wrap (qh + (ql + 1) / 18446744073709551616) := by rw [IntKind.wrap_u64]; omega
  have mh1 : IntKind.u64.wrap (qh + (ql + 1) / 18446744073709551616) ≤ 18446744073709551615 := by rw [IntKind.wrap_u64]; omega
  have ml0 : 0 ≤ (ql + 1) % 18446744073709551616 := by omega
  have ml1 : (ql + 1) % 18446744073709551616 ≤ 18446744073709551615 := by omega
  generalize IntKind.u64.wrap (qh + (ql + 1) / 18446744073709551616) = mh at *
  generalize (ql + 1) % 18446744073709551616 = ml at *
  have Hmore := Lib.hid hmore
  clear hmore
  by_cases hr : 0 < rr
  · have hr' : decide (0 < rr) = true := decide_eq_true hr
    rw [hr'] at Hpt
    clear hr'
    by_cases sa : a < 0 <;> by_cases sb : b < 0 <;> by_cases sc : c < 0 <;> cases up
    all_goals
      have e := Hfr.out
      simp only [hr, sa, sb, sc, decide_true, decide_false, bne_self_eq_false, Bool.true_bne, Bool.false_bne, Bool.not_true, Bool.not_false, ne_eq, not_true_eq_false, and_false, if_false, not_false_eq_true, and_true, if_true, Bool.false_eq_true, Bool.true_eq_false, reduceCtorEq] at e
      rw [e]
      clear e Hfr
      go_enter Try.func65, Try.ntmps65
      go_wp2_with fail
      refine (Hsz.out a ha0 ha _).mono ?_; rintro e w1 ⟨rfl, hd1⟩
      go_wp2_with fail
      refine (Hsz.out b hb0 hb _).mono ?_; rintro e w2 ⟨rfl, hd2⟩
      go_wp2_with fail
      refine (Hsz.out c hc0 hc _).mono ?_; rintro e w3 ⟨rfl, hd3⟩
      go_wp2_with fail
      refine (Hpt.out _).mono ?_; rintro e w4 ⟨rfl, hb4⟩
      go_wp2_with fail
      first
        | ((with_reducible refine (signed_calls _ _ _ s0 s1 q0 q1 _).mono ?_); rintro e w6 ⟨rfl, hb6⟩; go_wp2_with fail; go_ret2; exact ⟨rfl, bt (bt (bt (bt hd1.below hd2.below) hd3.below) hb4) (((Below.refl w4.heap.size w4).alloc (Nat.le_refl _) _).trans (hb6.mono (by simp)))⟩)
        | ((with_reducible refine (Hmore.out _).mono ?_); rintro e w5 ⟨rfl, hb5⟩; obtain ⟨hcell, hfroz⟩ := bcell hb5; have hz5 : w4.heap.size < w5.heap.size := Nat.lt_of_lt_of_le (by simp) hb5.size; go_wp2_with fail; (with_reducible refine (signed_calls _ _ _ mh0 mh1 ml0 ml1 _).mono ?_); rintro e w6 ⟨rfl, hb6⟩; go_wp2_with fail; go_ret2; exact ⟨rfl, bt (bt (bt (bt hd1.below hd2.below) hd3.below) hb4) ((((((Below.refl w4.heap.size w4).alloc (Nat.le_refl _) _).trans (hb5.mono (by simp))).setCell (by simp) _).setCell (by simp) _).trans (hb6.mono (by simp; omega)))⟩)
  · have hr' : decide (0 < rr) = false := decide_eq_false hr
    rw [hr'] at Hpt
    clear hr'
    by_cases sa : a < 0 <;> by_cases sb : b < 0 <;> by_cases sc : c < 0
    all_goals
      have e := Hfr.out
      simp only [hr, sa, sb, sc, decide_true, decide_false, bne_self_eq_false, Bool.true_bne, Bool.false_bne, Bool.not_true, Bool.not_false, false_and, if_false] at e
      rw [e]
      clear e Hfr
      go_enter Try.func65, Try.ntmps65
      go_wp2_with fail
      refine (Hsz.out a ha0 ha _).mono ?_; rintro e w1 ⟨rfl, hd1⟩
      go_wp2_with fail
      refine (Hsz.out b hb0 hb _).mono ?_; rintro e w2 ⟨rfl, hd2⟩
      go_wp2_with fail
      refine (Hsz.out c hc0 hc _).mono ?_; rintro e w3 ⟨rfl, hd3⟩
      go_wp2_with fail
      refine (Hpt.out _).mono ?_; rintro e w4 ⟨rfl, hb4⟩
      go_wp2_with fail
      refine (signed_calls _ _ _ s0 s1 q0 q1 _).mono ?_; rintro e w6 ⟨rfl, hb6⟩
      go_wp2_with fail
      go_ret2
      exact ⟨rfl, bt (bt (bt (bt hd1.below hd2.below) hd3.below) hb4) (((Below.refl w4.heap.size w4).alloc (Nat.le_refl _) _).trans (hb6.mono (by simp)))⟩
end Go.Proofs.Ytbhbnefifgdioaa.Hand

/- What package checked tells, in plain numbers: the functions that the printed texts call. -/
set_option linter.unusedVariables false
set_option linter.unusedSimpArgs false
namespace Go.Proofs.Ytbhbnefifgdioaa.Hand
open Go Go.RowKit Go.Proofs.YtbhbnefifgdioaaW.PrintWords Go.Proofs.YtbhbnefifgdioaaW.PrintMore Go.Proofs.Ytbhbnefifgdioaa.RL

/-- It is a number of 64 bits. -/
def in64 (a : Int) : Prop := -9223372036854775808 ≤ a ∧ a ≤ 9223372036854775807
instance (a : Int) : Decidable (in64 a) := by unfold in64; infer_instance

theorem sgn_tell (s : Bool) (h l : Int) (h0 : 0 ≤ h) (l0 : 0 ≤ l) (l1 : l ≤ 18446744073709551615) : sgn s h l = tell (if s = true then -(h * 18446744073709551616 + l) else h * 18446744073709551616 + l) := by
  unfold sgn tell
  cases s
  · simp only [Bool.false_eq_true, if_false]
    by_cases c : h = 0 ∧ l ≤ 9223372036854775807
    · rw [if_pos c, if_pos (by omega)]; obtain ⟨rfl, _⟩ := c; simp
    · rw [if_neg c, if_neg (by omega)]
  · simp only [if_true]
    by_cases c : h = 0 ∧ l ≤ 9223372036854775808
    · rw [if_pos c, if_pos (by omega)]; obtain ⟨rfl, _⟩ := c; simp
    · rw [if_neg c, if_neg (by omega)]
theorem halves (a b : Int) : pHi a b * 18446744073709551616 + pLo a b = a * b := by unfold pHi pLo; omega
theorem ab_nat (a : Int) : ab a = (a.natAbs : Int) := by unfold ab; split <;> omega
theorem ab_mul (a b : Int) : ab a * ab b = ((a * b).natAbs : Int) := by rw [ab_nat, ab_nat, Int.natAbs_mul]; simp
theorem sign_mul (a b : Int) : a * b = if (decide (a < 0) != decide (b < 0)) = true then -(ab a * ab b) else ab a * ab b := by
  unfold ab
  by_cases h1 : a < 0 <;> by_cases h2 : b < 0 <;> simp [h1, h2, Int.neg_mul, Int.mul_neg]
theorem mulT_tell (a b : Int) (ha : in64 a) (hb : in64 b) : mulT a b = tell (a * b) := by
  unfold mulT
  have a1 := ab_ge a; have b1 := ab_ge b
  obtain ⟨p11, p12⟩ := pHi_b a1 (by have := ab_le ha.1 ha.2; omega) b1 (by have := ab_le hb.1 hb.2; omega)
  obtain ⟨p21, p22⟩ := pLo_b (ab a) (ab b)
  rw [sgn_tell _ _ _ p11 p21 p22, halves, ← sign_mul]
theorem frT_tell (a b c : Int) (up : Bool) (ha : in64 a) (hb : in64 b) (hc : in64 c) (hz : c ≠ 0) : frT a b c up = tell (frac (a * b) c up) := by
  have a1 := ab_ge a; have b1 := ab_ge b
  have a2 := ab_le ha.1 ha.2; have b2 := ab_le hb.1 hb.2; have c2 := ab_le hc.1 hc.2
  have c1 : 1 ≤ ab c := by unfold ab; split <;> omega
  obtain ⟨p11, p12⟩ := pHi_b a1 (by omega) b1 (by omega)
  obtain ⟨p21, p22⟩ := pLo_b (ab a) (ab b)
  have m0 := Int.emod_nonneg (pHi (ab a) (ab b)) (show ab c ≠ 0 by omega)
  have m1 := Int.emod_lt_of_pos (pHi (ab a) (ab b)) (show 0 < ab c by omega)
  obtain ⟨q0, q1⟩ := dq_b m0 m1 p21 p22
  obtain ⟨r0, r1⟩ := dr_b (hi := pHi (ab a) (ab b) % ab c) (lo := pLo (ab a) (ab b)) (show 0 < ab c by omega)
  have s0 : 0 ≤ pHi (ab a) (ab b) / ab c := Int.ediv_nonneg p11 (by omega)
  have s1 : pHi (ab a) (ab b) / ab c ≤ pHi (ab a) (ab b) := Int.ediv_le_self _ p11
  have hV := halves (ab a) (ab b)
  have hV2 : ab a * ab b ≤ 9223372036854775808 * 9223372036854775808 := Int.mul_le_mul a2 b2 b1 (by omega)
  -- the quotient and the rest
  have d1 := Int.emod_add_mul_ediv (pHi (ab a) (ab b)) (ab c)
  have d2 : dr (pHi (ab a) (ab b) % ab c) (pLo (ab a) (ab b)) (ab c) + ab c * dq (pHi (ab a) (ab b) % ab c) (pLo (ab a) (ab b)) (ab c) = pHi (ab a) (ab b) % ab c * 18446744073709551616 + pLo (ab a) (ab b) := Int.emod_add_mul_ediv _ _
  unfold frT
  generalize dr (pHi (ab a) (ab b) % ab c) (pLo (ab a) (ab b)) (ab c) = rr at *
  generalize dq (pHi (ab a) (ab b) % ab c) (pLo (ab a) (ab b)) (ab c) = ql at *
  generalize pHi (ab a) (ab b) / ab c = qh at *
  have hVq : rr + ab c * (qh * 18446744073709551616 + ql) = ab a * ab b := by
    rw [← hV, ← d1]
    have : ab c * (qh * 18446744073709551616 + ql) = ab c * qh * 18446744073709551616 + ab c * ql := by grind
    generalize ab c * qh = z1 at *
    generalize ab c * ql = z2 at *
    omega
  obtain ⟨e1, e2⟩ := (Int.ediv_emod_unique (a := ab a * ab b) (b := ab c) (r := rr) (q := qh * 18446744073709551616 + ql) (by omega)).2 ⟨hVq, r0, r1⟩
  have hqh : qh ≤ 4611686018427387904 := by omega
  have hw : IntKind.u64.wrap (qh + (ql + 1) / 18446744073709551616) = qh + (ql + 1) / 18446744073709551616 := by rw [IntKind.wrap_u64]; omega
  rw [hw, sgn_tell _ _ _ (by omega) (by omega) (by omega), sgn_tell _ _ _ s0 q0 q1]
  have hplus : (qh + (ql + 1) / 18446744073709551616) * 18446744073709551616 + (ql + 1) % 18446744073709551616 = qh * 18446744073709551616 + ql + 1 := by omega
  rw [hplus]
  -- as the document has it
  have hnat : ab a * ab b / ab c = (((a * b).natAbs / c.natAbs : Nat) : Int) := by rw [ab_mul, ab_nat]; simp
  have hmod : ab a * ab b % ab c = (((a * b).natAbs % c.natAbs : Nat) : Int) := by rw [ab_mul, ab_nat]; simp
  rw [e1] at hnat
  rw [e2] at hmod
  have hsign : (a * b).natAbs = 0 ∨ odd3 a b c = (decide (a * b < 0) != decide (c < 0)) := by
    by_cases h0 : a * b = 0
    · left; omega
    · right
      unfold odd3
      congr 1
      have ha0 : a ≠ 0 := fun h => h0 (by rw [h]; simp)
      have hb0 : b ≠ 0 := fun h => h0 (by rw [h]; simp)
      by_cases h1 : a < 0 <;> by_cases h2 : b < 0
      · have := Int.mul_pos_of_neg_of_neg h1 h2
        simp [h1, h2]; omega
      · have := Int.mul_neg_of_neg_of_pos h1 (show 0 < b by omega)
        simp [h1, h2, this]
      · have := Int.mul_neg_of_pos_of_neg (show 0 < a by omega) h2
        simp [h1, h2, this]
      · have := Int.mul_pos (show 0 < a by omega) (show 0 < b by omega)
        simp [h1, h2]; omega
  unfold frac
  rw [flo_eq (a * b) c hz, cei_eq (a * b) c hz]
  rw [← apply_ite tell]
  congr 1
  generalize qh * 18446744073709551616 + ql = q at *
  rcases hsign with hs | hs
  · rw [hs] at hnat hmod ⊢
    simp at hnat hmod
    subst hnat; subst hmod
    cases up <;> simp
  · rw [hs]
    generalize (decide (a * b < 0) != decide (c < 0)) = s at *
    generalize (a * b).natAbs % c.natAbs = m at *
    generalize (a * b).natAbs / c.natAbs = n at *
    subst hmod; subst hnat
    cases up <;> cases s <;> by_cases hm : m = 0 <;> simp [hm] <;> omega
end Go.Proofs.Ytbhbnefifgdioaa.Hand
