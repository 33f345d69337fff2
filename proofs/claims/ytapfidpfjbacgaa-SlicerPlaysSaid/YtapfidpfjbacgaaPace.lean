/- pace.Twap and pace.Vwap, walked: between a beginning and an end by a function value. -/
import Derived.Test.YtapfidpfjbacgaaCurve
import Derived.Test.YtapfidpfjbacgaaPl03
import Derived.Test.YtapfidpfjbacgaaDx0
set_option linter.unusedVariables false
set_option linter.unusedSimpArgs false
namespace Go.Proofs.Ytapfidpfjbacgaa.Hand
open Go Go.RowKit Go.Shelf Go.Proofs.YtapfidpfjbacgaaW.PrintWords Go.Proofs.YtapfidpfjbacgaaW.PrintMore Go.Proofs.Ytapfidpfjbacgaa.RL Go.Proofs.Ytapfidpfjbacgaa.PL
attribute [local go_sem] Oper.semAt_some
/-- What isn't right of a quantity and three ticks. -/
def rightP (q s e n : Int) : Int :=
  if 0 ≤ q ∧ q ≤ 1099511627776 then (if (0 ≤ s ∧ s ≤ 1099511627776) ∧ (0 ≤ e ∧ e ≤ 1099511627776) ∧ 0 ≤ n ∧ n ≤ 1099511627776 then (if 1 ≤ e - s ∧ e - s ≤ 1073741824 then 0 else 282) else 2) else 2
theorem pwithin_is (a b c : Int) : D.pace_within.f a b c = some (decide (b ≤ a ∧ a ≤ c)) := by
  unfold D.pace_within.f
  by_cases h : a ≥ b
  · rw [if_pos h]; exact congrArg some (decide_eq_decide.2 (by omega))
  · rw [if_neg h, decide_eq_false (by omega)]
set_option maxHeartbeats 1000000 in
theorem twap_no (q s e n er : Int) (h : er ≠ 0) (w : World)
    (hr : ∀ w', Calls Try.prog 43 #[.int .i64 q, .int .i64 s, .int .i64 e, .int .i64 n] w' fun en w'' => en = .returned (.int .i64 er) ∧ Below w'.heap.size w' w'') :
    Calls Try.prog 28 #[.int .i64 q, .int .i64 s, .int .i64 e, .int .i64 n] w fun en w' => en = .returned (.tuple #[.int .i64 0, .int .i64 er]) ∧ Below w.heap.size w w' := by
  have bQ0 := Boxed.new w 3 (.int .i64 q)
  have hB0 : Below w.heap.size w (w.alloc (.cells #[.int .i64 q] 3)) := (Below.refl _ w).alloc (Nat.le_refl _) _
  have l0 : w.heap.size < (w.alloc (.cells #[.int .i64 q] 3)).heap.size := by simp
  have he : (er == 0) = false := by simpa using h
  have Hr := Lib.hid hr
  have HQ0 := Lib.hid bQ0
  have HB0 := Lib.hid hB0
  clear hr bQ0 hB0
  go_enter Try.func28, Try.ntmps28
  go_wp2_with (go_at_call 43; refine (Hr.out _).mono ?_; rintro en w1 ⟨rfl, hb1⟩; have cQ := (boxed_below HQ0.out hb1 l0).cell)
  go_ret2
  exact ⟨rfl, bt HB0.out hb1⟩
set_option maxHeartbeats 2000000 in
theorem twap_ok (q s e n x y : Int) (w : World)
    (hr : ∀ w', Calls Try.prog 43 #[.int .i64 q, .int .i64 s, .int .i64 e, .int .i64 n] w' fun en w'' => en = .returned (.int .i64 0) ∧ Below w'.heap.size w' w'')
    (hd : ∀ w', Calls Try.prog 49 #[.int .i64 q, .int .i64 (n - s), .int .i64 (e - s)] w' fun en w'' => en = .returned (.tuple #[.int .i64 x, .int .i64 y]) ∧ Below w'.heap.size w' w'')
    (hs0 : 0 ≤ s) (hs1 : s ≤ 1099511627776) (he0 : 0 ≤ e) (he1 : e ≤ 1099511627776) (hn0 : 0 ≤ n) (hn1 : n ≤ 1099511627776) :
    Calls Try.prog 28 #[.int .i64 q, .int .i64 s, .int .i64 e, .int .i64 n] w fun en w' => en = .returned (if n ≤ s then .tuple #[.int .i64 0, .int .i64 0] else if e ≤ n then .tuple #[.int .i64 q, .int .i64 0] else .tuple #[.int .i64 x, .int .i64 y]) ∧ Below w.heap.size w w' := by
  have bQ0 := Boxed.new w 3 (.int .i64 q)
  have hB0 : Below w.heap.size w (w.alloc (.cells #[.int .i64 q] 3)) := (Below.refl _ w).alloc (Nat.le_refl _) _
  have l0 : w.heap.size < (w.alloc (.cells #[.int .i64 q] 3)).heap.size := by simp
  have Hr := Lib.hid hr
  have Hd := Lib.hid hd
  have HQ0 := Lib.hid bQ0
  have HB0 := Lib.hid hB0
  clear hr hd bQ0 hB0
  by_cases h1 : n ≤ s
  · rw [if_pos h1]
    go_enter Try.func28, Try.ntmps28
    go_wp2_with (first | (go_at_call 43; refine (Hr.out _).mono ?_; rintro en w1 ⟨rfl, hb1⟩; have cQ := (boxed_below HQ0.out hb1 l0).cell) | go_in)
    go_ret2
    exact ⟨rfl, bt HB0.out hb1⟩
  · rw [if_neg h1]
    by_cases h2 : e ≤ n
    · rw [if_pos h2]
      go_enter Try.func28, Try.ntmps28
      go_wp2_with (first | (go_at_call 43; refine (Hr.out _).mono ?_; rintro en w1 ⟨rfl, hb1⟩; have cQ := (boxed_below HQ0.out hb1 l0).cell) | go_in)
      go_ret2
      exact ⟨rfl, bt HB0.out hb1⟩
    · rw [if_neg h2]
      go_enter Try.func28, Try.ntmps28
      go_wp2_with (first | (go_at_call 43; refine (Hr.out _).mono ?_; rintro en w1 ⟨rfl, hb1⟩; have cQ := (boxed_below HQ0.out hb1 l0).cell) | (go_at_call 49; refine (Hd.out _).mono ?_; rintro en w2 ⟨rfl, hb2⟩) | go_in)
      go_ret2
      exact ⟨rfl, bt HB0.out (bt hb1 hb2)⟩
set_option maxHeartbeats 2000000 in
theorem vwap_no (q s e n er ck : Int) (A : Option Addr) (len cap : Nat) (w : World) (h : er ≠ 0 ∨ er = 0 ∧ ck ≠ 0)
    (hr : ∀ w', Calls Try.prog 43 #[.int .i64 q, .int .i64 s, .int .i64 e, .int .i64 n] w' fun en w'' => en = .returned (.int .i64 er) ∧ Below w'.heap.size w' w'')
    (hc : ∀ w', Below w.heap.size w w' → Calls Try.prog 44 #[.slice A len cap] w' fun en w'' => en = .returned (.int .i64 ck) ∧ Drawn0 w' w'') :
    Calls Try.prog 24 #[.int .i64 q, .slice A len cap, .int .i64 s, .int .i64 e, .int .i64 n] w fun en w' => en = .returned (.tuple #[.int .i64 0, .int .i64 (if er = 0 then ck else er)]) ∧ Below w.heap.size w w' := by
  have bQ0 := (Boxed.new w 3 (.int .i64 q)).alloc (.cells #[.slice A len cap] 22)
  have bW0 := Boxed.new (w.alloc (.cells #[.int .i64 q] 3)) 22 (.slice A len cap)
  simp only [World.size_alloc] at bW0
  have hB0 : Below w.heap.size w ((w.alloc (.cells #[.int .i64 q] 3)).alloc (.cells #[.slice A len cap] 22)) := ((Below.refl _ w).alloc (Nat.le_refl _) _).alloc (by simp) _
  have l0 : w.heap.size < ((w.alloc (.cells #[.int .i64 q] 3)).alloc (.cells #[.slice A len cap] 22)).heap.size := by simp; omega
  have l1 : w.heap.size + 1 < ((w.alloc (.cells #[.int .i64 q] 3)).alloc (.cells #[.slice A len cap] 22)).heap.size := by simp
  have Hr := Lib.hid hr
  have Hc := Lib.hid hc
  have HQ0 := Lib.hid bQ0
  have HW0 := Lib.hid bW0
  have HB0 := Lib.hid hB0
  clear hr hc bQ0 bW0 hB0
  rcases h with h | ⟨rfl, h⟩
  · have he : (er == 0) = false := by simpa using h
    rw [if_neg h]
    go_enter Try.func24, Try.ntmps24
    go_wp2_with (first | (go_at_call 43; refine (Hr.out _).mono ?_; rintro en w1 ⟨rfl, hb1⟩; have cQ := (boxed_below HQ0.out hb1 l0).cell; have cW := (boxed_below HW0.out hb1 l1).cell))
    go_ret2
    exact ⟨rfl, bt HB0.out hb1⟩
  · have he : (ck == 0) = false := by simpa using h
    rw [if_pos rfl]
    go_enter Try.func24, Try.ntmps24
    go_wp2_with (first | (go_at_call 43; refine (Hr.out _).mono ?_; rintro en w1 ⟨rfl, hb1⟩; have cQ := (boxed_below HQ0.out hb1 l0).cell; have cW := (boxed_below HW0.out hb1 l1).cell) | (go_at_call 44; refine (Hc.out _ (bt HB0.out hb1)).mono ?_; rintro en w2 ⟨rfl, hd2⟩; have hb2 := hd2.below))
    go_ret2
    exact ⟨rfl, bt HB0.out (bt hb1 hb2)⟩
set_option maxHeartbeats 4000000 in
theorem vwap_ok (q s e n x y : Int) (A : Option Addr) (len cap : Nat) (w : World)
    (hr : ∀ w', Calls Try.prog 43 #[.int .i64 q, .int .i64 s, .int .i64 e, .int .i64 n] w' fun en w'' => en = .returned (.int .i64 0) ∧ Below w'.heap.size w' w'')
    (hc : ∀ w', Below w.heap.size w w' → Calls Try.prog 44 #[.slice A len cap] w' fun en w'' => en = .returned (.int .i64 0) ∧ Drawn0 w' w'')
    (ht : ∀ w', Below w.heap.size w w' → Calls Try.prog 47 #[.int .i64 q, .slice A len cap, .int .i64 (n - s), .int .i64 (e - s)] w' fun en w'' => en = .returned (.tuple #[.int .i64 x, .int .i64 y]) ∧ Below w'.heap.size w' w'')
    (hs0 : 0 ≤ s) (hs1 : s ≤ 1099511627776) (he0 : 0 ≤ e) (he1 : e ≤ 1099511627776) (hn0 : 0 ≤ n) (hn1 : n ≤ 1099511627776) :
    Calls Try.prog 24 #[.int .i64 q, .slice A len cap, .int .i64 s, .int .i64 e, .int .i64 n] w fun en w' => en = .returned (if n ≤ s then .tuple #[.int .i64 0, .int .i64 0] else if e ≤ n then .tuple #[.int .i64 q, .int .i64 0] else .tuple #[.int .i64 x, .int .i64 y]) ∧ Below w.heap.size w w' := by
  have bQ0 := (Boxed.new w 3 (.int .i64 q)).alloc (.cells #[.slice A len cap] 22)
  have bW0 := Boxed.new (w.alloc (.cells #[.int .i64 q] 3)) 22 (.slice A len cap)
  simp only [World.size_alloc] at bW0
  have hB0 : Below w.heap.size w ((w.alloc (.cells #[.int .i64 q] 3)).alloc (.cells #[.slice A len cap] 22)) := ((Below.refl _ w).alloc (Nat.le_refl _) _).alloc (by simp) _
  have l0 : w.heap.size < ((w.alloc (.cells #[.int .i64 q] 3)).alloc (.cells #[.slice A len cap] 22)).heap.size := by simp; omega
  have l1 : w.heap.size + 1 < ((w.alloc (.cells #[.int .i64 q] 3)).alloc (.cells #[.slice A len cap] 22)).heap.size := by simp
  have Hr := Lib.hid hr
  have Hc := Lib.hid hc
  have Ht := Lib.hid ht
  have HQ0 := Lib.hid bQ0
  have HW0 := Lib.hid bW0
  have HB0 := Lib.hid hB0
  clear hr hc ht bQ0 bW0 hB0
  have hcase : n ≤ s ∨ (¬ n ≤ s ∧ e ≤ n) ∨ (¬ n ≤ s ∧ ¬ e ≤ n) := by omega
  rcases hcase with h1 | ⟨h1, h2⟩ | ⟨h1, h2⟩
  · rw [if_pos h1]
    go_enter Try.func24, Try.ntmps24
    go_wp2_with (first | (go_at_call 43; refine (Hr.out _).mono ?_; rintro en w1 ⟨rfl, hb1⟩; have bQ1 := boxed_below HQ0.out hb1 l0; have bW1 := boxed_below HW0.out hb1 l1; have cQ := bQ1.cell; have cW := bW1.cell) | (go_at_call 44; refine (Hc.out _ (bt HB0.out hb1)).mono ?_; rintro en w2 ⟨rfl, hd2⟩; have hb2 := hd2.below; have cQ2 := (boxed_below bQ1 hb2 bQ1.lt).cell; have cW2 := (boxed_below bW1 hb2 bW1.lt).cell) | go_in)
    go_ret2
    exact ⟨rfl, bt HB0.out (bt hb1 hb2)⟩
  · rw [if_neg h1, if_pos h2]
    go_enter Try.func24, Try.ntmps24
    go_wp2_with (first | (go_at_call 43; refine (Hr.out _).mono ?_; rintro en w1 ⟨rfl, hb1⟩; have bQ1 := boxed_below HQ0.out hb1 l0; have bW1 := boxed_below HW0.out hb1 l1; have cQ := bQ1.cell; have cW := bW1.cell) | (go_at_call 44; refine (Hc.out _ (bt HB0.out hb1)).mono ?_; rintro en w2 ⟨rfl, hd2⟩; have hb2 := hd2.below; have cQ2 := (boxed_below bQ1 hb2 bQ1.lt).cell; have cW2 := (boxed_below bW1 hb2 bW1.lt).cell) | go_in)
    go_ret2
    exact ⟨rfl, bt HB0.out (bt hb1 hb2)⟩
  · rw [if_neg h1, if_neg h2]
    go_enter Try.func24, Try.ntmps24
    go_wp2_with (first | (go_at_call 43; refine (Hr.out _).mono ?_; rintro en w1 ⟨rfl, hb1⟩; have bQ1 := boxed_below HQ0.out hb1 l0; have bW1 := boxed_below HW0.out hb1 l1; have cQ := bQ1.cell; have cW := bW1.cell) | (go_at_call 44; refine (Hc.out _ (bt HB0.out hb1)).mono ?_; rintro en w2 ⟨rfl, hd2⟩; have hb2 := hd2.below; have cQ2 := (boxed_below bQ1 hb2 bQ1.lt).cell; have cW2 := (boxed_below bW1 hb2 bW1.lt).cell) | (go_at_call 47; refine (Ht.out _ (bt (bt HB0.out hb1) hb2)).mono ?_; rintro en w3 ⟨rfl, hb3⟩) | go_in)
    go_ret2
    exact ⟨rfl, bt HB0.out (bt hb1 (bt hb2 hb3))⟩
theorem rightP_is (q s e n : Int) (k : Nat) (hk : 1 ≤ k) : D.pace_right.f k q s e n = some (rightP q s e n) := by
  obtain ⟨k, rfl⟩ : ∃ m, k = m + 1 := ⟨k - 1, by omega⟩
  unfold D.pace_right.f rightP
  rw [pwithin_is, Option.bind_some]
  by_cases h1 : 0 ≤ q ∧ q ≤ 1099511627776
  · rw [decide_eq_true h1, if_pos rfl, if_pos h1, pwithin_is, Option.bind_some]
    by_cases h2 : 0 ≤ s ∧ s ≤ 1099511627776
    · rw [decide_eq_true h2, if_pos rfl, pwithin_is, Option.bind_some]
      by_cases h3 : 0 ≤ e ∧ e ≤ 1099511627776
      · rw [decide_eq_true h3, if_pos rfl, pwithin_is, Option.bind_some]
        by_cases h4 : 0 ≤ n ∧ n ≤ 1099511627776
        · rw [decide_eq_true h4, if_pos ⟨h2, h3, h4⟩]
          simp only [D.pace_right.j0, Bool.not_true, Bool.false_eq_true, if_false]
          rw [w64q (n := e - s) (by omega) (by omega), pwithin_is, Option.bind_some]
          by_cases h5 : 1 ≤ e - s ∧ e - s ≤ 1073741824
          · rw [decide_eq_true h5, if_pos rfl, if_pos h5]
          · rw [decide_eq_false h5, if_neg (by decide), if_neg h5]
        · rw [decide_eq_false h4, if_neg (fun h => h4 h.2.2)]; simp [D.pace_right.j0]
      · rw [decide_eq_false h3, if_neg (by decide), if_neg (fun h => h3 h.2.1)]; simp [D.pace_right.j0]
    · rw [decide_eq_false h2, if_neg (by decide), if_neg (fun h => h2 h.1)]; simp [D.pace_right.j0]
  · rw [decide_eq_false h1, if_neg (by decide), if_neg h1]
theorem rightP_open {q s e n : Int} (h : rightP q s e n = 0) : (0 ≤ q ∧ q ≤ 1099511627776) ∧ (0 ≤ s ∧ s ≤ 1099511627776) ∧ (0 ≤ e ∧ e ≤ 1099511627776) ∧ (0 ≤ n ∧ n ≤ 1099511627776) ∧ 1 ≤ e - s ∧ e - s ≤ 1073741824 := by
  unfold rightP at h
  by_cases h1 : 0 ≤ q ∧ q ≤ 1099511627776
  · rw [if_pos h1] at h
    by_cases h2 : (0 ≤ s ∧ s ≤ 1099511627776) ∧ (0 ≤ e ∧ e ≤ 1099511627776) ∧ 0 ≤ n ∧ n ≤ 1099511627776
    · rw [if_pos h2] at h
      by_cases h3 : 1 ≤ e - s ∧ e - s ≤ 1073741824
      · exact ⟨h1, h2.1, h2.2.1, h2.2.2, h3⟩
      · rw [if_neg h3] at h; exact absurd h (by decide)
    · rw [if_neg h2] at h; exact absurd h (by decide)
  · rw [if_neg h1] at h; exact absurd h (by decide)
/-- How much should be out, evenly. -/
def twapW (q s e n : Int) : Int × Int := if rightP q s e n = 0 then (if n ≤ s then (0, 0) else if e ≤ n then (q, 0) else fr q (n - s) (e - s) false) else (0, rightP q s e n)
def pace_Twap.f (a0 a1 a2 a3 : Int) : Option (Int × Int) := some (twapW a0 a1 a2 a3)
theorem pace_Twap.calls (a0 a1 a2 a3 : Int) (r1 r2 : Int) (w : World) (h : pace_Twap.f a0 a1 a2 a3 = some (r1, r2)) :
    Calls Try.prog 28 #[.int .i64 a0, .int .i64 a1, .int .i64 a2, .int .i64 a3] w fun e w' => e = .returned (.tuple #[.int .i64 r1, .int .i64 r2]) ∧ Below w.heap.size w w' := by
  have h := Option.some.inj h
  unfold twapW at h
  have hr : ∀ w', Calls Try.prog 43 #[.int .i64 a0, .int .i64 a1, .int .i64 a2, .int .i64 a3] w' fun en w'' => en = .returned (.int .i64 (rightP a0 a1 a2 a3)) ∧ Below w'.heap.size w' w'' := fun w' =>
    (D.pace_right.calls 1 a0 a1 a2 a3 _ w' (rightP_is a0 a1 a2 a3 1 (by omega))).mono fun en w'' ⟨e1, hd⟩ => ⟨e1, hd.below⟩
  by_cases c : rightP a0 a1 a2 a3 = 0
  · rw [if_pos c] at h
    rw [c] at hr
    obtain ⟨b0, b1, b2, b3, b4⟩ := rightP_open c
    refine (twap_ok a0 a1 a2 a3 (fr a0 (a3 - a1) (a2 - a1) false).1 (fr a0 (a3 - a1) (a2 - a1) false).2 w hr (fun w' => checked_Down.calls _ _ _ _ _ w' (by unfold checked_Down.f; rw [if_pos ⟨by unfold in64; omega, by unfold in64; omega, by unfold in64; omega⟩])) b1.1 b1.2 b2.1 b2.2 b3.1 b3.2).mono ?_
    rintro en w' ⟨rfl, hb⟩
    refine ⟨?_, hb⟩
    by_cases h1 : a3 ≤ a1
    · rw [if_pos h1] at h ⊢; cases h; rfl
    · rw [if_neg h1] at h ⊢
      by_cases h2 : a2 ≤ a3
      · rw [if_pos h2] at h ⊢; cases h; rfl
      · rw [if_neg h2] at h ⊢; rw [h]
  · rw [if_neg c] at h
    cases h
    exact twap_no a0 a1 a2 a3 _ c w hr
/-- How much should be out, along a curve. -/
def vwapW (q : Int) (l : List Int) (s e n : Int) : Int × Int := if rightP q s e n = 0 then (if rightW l = true then (if n ≤ s then (0, 0) else if e ≤ n then (q, 0) else targetW q l (n - s) (e - s)) else (0, 30)) else (0, rightP q s e n)
def pace_Vwap.f (a0 : Int) (l1 : List Int) (a2 a3 a4 : Int) : Option (Int × Int) := some (vwapW a0 l1 a2 a3 a4)
theorem pace_Vwap.calls (a0 : Int) (A1 : Option Addr) (c1 : Nat) (l1 : List Int) (a2 a3 a4 : Int) (r1 r2 : Int) (w : World) (hr1 : Kd.C (Kd.int .i64) w A1 l1.length l1) (hc1 : l1.length ≤ c1) (h : pace_Vwap.f a0 l1 a2 a3 a4 = some (r1, r2)) :
    Calls Try.prog 24 #[.int .i64 a0, .slice A1 l1.length c1, .int .i64 a2, .int .i64 a3, .int .i64 a4] w fun e w' => e = .returned (.tuple #[.int .i64 r1, .int .i64 r2]) ∧ Below w.heap.size w w' := by
  have h := Option.some.inj h
  unfold vwapW at h
  have hr : ∀ w', Calls Try.prog 43 #[.int .i64 a0, .int .i64 a2, .int .i64 a3, .int .i64 a4] w' fun en w'' => en = .returned (.int .i64 (rightP a0 a2 a3 a4)) ∧ Below w'.heap.size w' w'' := fun w' =>
    (D.pace_right.calls 1 a0 a2 a3 a4 _ w' (rightP_is a0 a2 a3 a4 1 (by omega))).mono fun en w'' ⟨e1, hd⟩ => ⟨e1, hd.below⟩
  have hck : ∀ w', Below w.heap.size w w' → Calls Try.prog 44 #[.slice A1 l1.length c1] w' fun en w'' => en = .returned (.int .i64 (if rightW l1 = true then 0 else 30)) ∧ Drawn0 w' w'' := fun w' hw => curve_Check.calls _ c1 l1 _ w' (Kd.C_below hr1 hw) hc1 rfl
  by_cases c : rightP a0 a2 a3 a4 = 0
  · rw [if_pos c] at h
    rw [c] at hr
    by_cases d : rightW l1 = true
    · rw [if_pos d] at h
      rw [if_pos d] at hck
      obtain ⟨b0, b1, b2, b3, b4⟩ := rightP_open c
      refine (vwap_ok a0 a2 a3 a4 (targetW a0 l1 (a4 - a2) (a3 - a2)).1 (targetW a0 l1 (a4 - a2) (a3 - a2)).2 A1 _ c1 w hr hck (fun w' hw => D.curve_Target.calls 1 _ _ c1 l1 _ _ _ _ w' (Kd.C_below hr1 hw) hc1 (ctarget_is _ _ _ _ (by unfold in64; omega) (by unfold in64; omega) 1 (by omega))) b1.1 b1.2 b2.1 b2.2 b3.1 b3.2).mono ?_
      rintro en w' ⟨rfl, hb⟩
      refine ⟨?_, hb⟩
      by_cases h1 : a4 ≤ a2
      · rw [if_pos h1] at h ⊢; cases h; rfl
      · rw [if_neg h1] at h ⊢
        by_cases h2 : a3 ≤ a4
        · rw [if_pos h2] at h ⊢; cases h; rfl
        · rw [if_neg h2] at h ⊢; rw [h]
    · rw [if_neg d] at h
      rw [if_neg d] at hck
      cases h
      have := vwap_no a0 a2 a3 a4 0 30 A1 _ c1 w (.inr ⟨rfl, by decide⟩) hr hck
      rwa [if_pos rfl] at this
  · rw [if_neg c] at h
    cases h
    have := vwap_no a0 a2 a3 a4 _ _ A1 _ c1 w (.inl c) hr hck
    rwa [if_neg c] at this
end Go.Proofs.Ytapfidpfjbacgaa.Hand
