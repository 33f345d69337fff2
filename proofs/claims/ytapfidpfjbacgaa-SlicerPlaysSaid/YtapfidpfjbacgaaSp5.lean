/- The document's slicer: Right, Amend, Target, Goal, walked. -/
import Derived.Test.YtapfidpfjbacgaaSp3
import Derived.Test.YtapfidpfjbacgaaSp4
import Derived.Test.YtapfidpfjbacgaaUx0
set_option linter.unusedVariables false
set_option linter.unusedSimpArgs false
namespace Go.Proofs.Ytapfidpfjbacgaa.Hand
open Go Go.RowKit Go.Proofs.YtapfidpfjbacgaaW.PrintWords Go.Proofs.YtapfidpfjbacgaaW.PrintMore Go.Proofs.Ytapfidpfjbacgaa.RL Go.Proofs.Ytapfidpfjbacgaa.PL Go.Proofs.Ytapfidpfjbacgaa.U
/- plain -/
theorem one_right : rightW [1] = true := by decide
theorem twap_one (q s e n : Int) : twapW q s e n = vwapW q [1] s e n := by
  unfold twapW vwapW
  by_cases c : rightP q s e n = 0
  · rw [if_pos c, if_pos c, if_pos one_right]
    obtain ⟨b0, b1, b2, b3, b4⟩ := rightP_open c
    by_cases h1 : n ≤ s
    · rw [if_pos h1, if_pos h1]
    · rw [if_neg h1, if_neg h1]
      by_cases h2 : e ≤ n
      · rw [if_pos h2, if_pos h2]
      · rw [if_neg h2, if_neg h2, (fr_cum b0.1 b0.2 (show 0 ≤ n - s by omega) (show n - s ≤ e - s by omega) (by omega)).1]
        unfold targetW
        rw [if_pos one_right, if_pos (by omega), if_pos b0]
        have hd : doneN [1] (n - s) (e - s) = n - s := by
          show 0 + 1 * clampG ((n - s) * ((1 : Nat) : Int) - ((0 : Nat) : Int) * (e - s)) (e - s) = n - s
          unfold clampG
          have e1 : (n - s) * ((1 : Nat) : Int) - ((0 : Nat) : Int) * (e - s) = n - s := by simp
          rw [e1, if_neg (by omega), if_pos (by omega)]; omega
        rw [hd]
        have e2 : ([1] : List Int).sum * (e - s) = e - s := by simp
        rw [e2]
  · rw [if_neg c, if_neg c]
theorem rin24g (a b c : Int) : spigotref24_in.f a b c = some (decide (b ≤ a ∧ a ≤ c)) := by
  unfold spigotref24_in.f
  by_cases h : a ≥ b
  · rw [if_pos h]; exact congrArg some (decide_eq_decide.2 (by omega))
  · rw [if_neg h, decide_eq_false (by omega)]
theorem rgoal_is (t l q : Int) (hl : in64 l) (k : Nat) (hk : 1 ≤ k) : spigotref24_Goal.f k t l q = some (goalS t l q) := by
  obtain ⟨k, rfl⟩ : ∃ m, k = m + 1 := ⟨k - 1, by omega⟩
  unfold spigotref24_Goal.f goalS
  by_cases h1 : l < 1
  · rw [if_pos h1, if_neg (by omega)]; simp [spigotref24_Goal.j0]
  rw [if_neg h1, rin24g, Option.bind_some]
  by_cases h2 : 0 ≤ q ∧ q ≤ 1099511627776
  · rw [decide_eq_true h2, if_pos rfl, rin24g, Option.bind_some]
    by_cases h3 : 0 ≤ t ∧ t ≤ q
    · rw [decide_eq_true h3, if_pos ⟨by omega, h2, h3⟩]
      simp only [spigotref24_Goal.j0, Bool.not_true, Bool.false_eq_true, if_false]
      rw [if_neg (by omega), Int.tmod_eq_emod_of_nonneg h3.1]
      have m0 : 0 ≤ t % l := Int.emod_nonneg _ (by omega)
      have m1 : t % l < l := Int.emod_lt_of_pos _ (by omega)
      have m2 : t % l ≤ t := by
        have := gdiv_mul t l
        have h5 : 0 ≤ t / l * l := Int.mul_nonneg (Int.ediv_nonneg h3.1 (by omega)) (by omega)
        omega
      generalize t % l = m at *
      unfold in64 at hl
      by_cases hz : m = 0
      · rw [if_pos hz, if_pos hz, if_neg (by omega)]
      · rw [if_neg hz, if_neg hz, w64q (n := l - m) (by omega) (by omega), w64q (n := q - t) (by omega) (by omega), w64q (n := t - m) (by omega) (by omega)]
        by_cases h4 : l - m > q - t
        · rw [if_pos h4, if_pos (by omega)]
        · rw [if_neg h4, if_neg (by omega), w64q (n := t - m + l) (by omega) (by omega)]
    · rw [decide_eq_false h3, if_neg (fun h => h3 h.2.2)]; simp [spigotref24_Goal.j0]
  · rw [decide_eq_false h2, if_neg (by decide), if_neg (fun h => h2 h.2.1)]; simp [spigotref24_Goal.j0]
theorem rin25 (a b c : Int) : U.spigotref25_in.f a b c = some (decide (b ≤ a ∧ a ≤ c)) := by
  unfold U.spigotref25_in.f
  by_cases h : a ≥ b
  · rw [if_pos h]; exact congrArg some (decide_eq_decide.2 (by omega))
  · rw [if_neg h, decide_eq_false (by omega)]
theorem rin26 (a b c : Int) : spigotref26_in.f a b c = some (decide (b ≤ a ∧ a ≤ c)) := by
  unfold spigotref26_in.f
  by_cases h : a ≥ b
  · rw [if_pos h]; exact congrArg some (decide_eq_decide.2 (by omega))
  · rw [if_neg h, decide_eq_false (by omega)]
theorem dflow_in (q rt vol : Int) (h1 : 0 ≤ q ∧ q ≤ 1099511627776) (h2 : 0 ≤ rt ∧ rt ≤ 10000) (h3 : 0 ≤ vol ∧ vol ≤ 4611686018427387904) : U.spigotref25_Target.f 8 q rt vol = some (mn (vol * rt / 10000) q, 0) := by
  have m0 : 0 ≤ vol * rt := Int.mul_nonneg h3.1 h2.1
  have m1 : vol * rt ≤ vol * 10000 := Int.mul_le_mul_of_nonneg_left h2.2 h3.1
  have f1 : fr vol rt 10000 false = (vol * rt / 10000, 0) := by
    unfold fr frac flo; rw [if_neg (by omega)]; simp only [Bool.false_eq_true, if_false]; rw [if_neg (by omega), tell_in (by unfold in64; omega)]
  unfold U.spigotref25_Target.f
  rw [rin25, Option.bind_some, decide_eq_true h1, if_pos rfl, rin25, Option.bind_some, decide_eq_true h2, if_pos rfl, rin25, Option.bind_some, decide_eq_true h3]
  simp only [U.spigotref25_Target.j0, Bool.not_true, Bool.false_eq_true, if_false]
  rw [fraction_is vol rt 10000 _ (by unfold in64; omega) (by unfold in64; omega) (by decide), Option.bind_some, f1]
  unfold mn
  simp only
  split <;> rfl
theorem dberg_in (q sh dn : Int) (h1 : 0 ≤ q ∧ q ≤ 1099511627776) (h2 : 1 ≤ sh ∧ sh ≤ 1099511627776) (h3 : 0 ≤ dn ∧ dn ≤ q) : spigotref26_Target.f 8 q sh dn = some (mn (dn + sh) q, 0) := by
  unfold spigotref26_Target.f spigotref26_Shown.f
  rw [rin26, Option.bind_some, decide_eq_true h1, if_pos rfl, rin26, Option.bind_some, decide_eq_true h2, if_pos rfl, rin26, Option.bind_some, decide_eq_true h3]
  simp only [spigotref26_Shown.j0, Bool.not_true, Bool.false_eq_true, if_false]
  rw [w64q (n := q - dn) (by omega) (by omega)]
  by_cases h : q - dn > sh
  · rw [if_pos h, Option.bind_some, if_pos rfl]
    simp only
    rw [w64q (n := dn + sh) (by omega) (by omega)]
    unfold mn
    split <;> first | rfl | (exfalso; omega) | (congr 2; omega)
  · rw [if_neg h, Option.bind_some, if_pos rfl]
    simp only
    rw [w64q (n := dn + (q - dn)) (by omega) (by omega)]
    unfold mn
    split <;> first | (congr 2; omega) | (exfalso; omega)
theorem tie24 (q : Int) (l : List Int) (s e n : Int) : spigotref24_Vwap.f 80 q l s e n = some (vwapW q l s e n) := rvwap_is q l s e n 80 (by omega)
theorem twap24 (q s e n : Int) : spigotref24_Twap.f 80 q s e n = some (twapW q s e n) := by
  unfold spigotref24_Twap.f
  rw [tie24, Option.bind_some, twap_one]
/- walks -/
theorem rin27_walk (n lo hi : Int) (w : World) : Calls Try.prog 30 #[.int .i64 n, .int .i64 lo, .int .i64 hi] w fun e w' => e = .returned (.bool (decide (lo ≤ n ∧ n ≤ hi))) ∧ w' = w := by
  by_cases h : lo ≤ n
  · go_enter Try.func30, Try.ntmps30
    go_wp2_with fail
    go_ret
    exact ⟨by simp [h], rfl⟩
  · go_enter Try.func30, Try.ntmps30
    go_wp2_with fail
    go_ret
    exact ⟨by simp; omega, rfl⟩
set_option maxHeartbeats 4000000 in
set_option maxRecDepth 100000 in
theorem right27d_no (k sd q p al st en rt sh v : Int) (id tg ac sy : ByteArray) (A : Option Addr) (n c : Nat) (hk : k ≠ 1) (w : World) :
    Calls Try.prog 10 #[.agg (askC k sd q p al st en rt sh id tg ac sy (.slice A n c)), .int .i64 v] w fun e w' => e = .returned (.bool false) ∧ Below w.heap.size w w' := by
  have kb : (k == 1) = false := beq_eq_false_iff_ne.2 hk
  go_enter Try.func10, Try.ntmps10
  go_wp2_with fail
  go_ret
  exact ⟨rfl, (Below.refl _ _).alloc (Nat.le_refl _) _⟩
set_option maxHeartbeats 4000000 in
set_option maxRecDepth 100000 in
theorem right27d_walk (sd q p al st en rt sh v : Int) (id tg ac sy : ByteArray) (A : Option Addr) (c : Nat) (l : List Int) (hc : l.length ≤ c) (hm : l.length ≤ 1000) (s1 : id.size ≤ 1000) (s2 : ac.size ≤ 1000) (s3 : sy.size ≤ 1000) (w : World) (hl : Kd.C (Kd.int .i64) w A l.length l) :
    Calls Try.prog 10 #[.agg (askC 1 sd q p al st en rt sh id tg ac sy (.slice A l.length c)), .int .i64 v] w fun e w' => e = .returned (.bool (nameV id && freshS tg ac sy sd q p al st en rt sh l && decide (0 ≤ v ∧ v ≤ 4611686018427387904))) ∧ Below w.heap.size w w' := by
  have hB := (Below.refl w.heap.size w).alloc (Nat.le_refl _) (.cells (askC 1 sd q p al st en rt sh id tg ac sy (.slice A l.length c)) 40)
  have r := right12_walk sd q p al st en rt sh id tg ac sy A c l hc hm s1 s2 s3 _ (Kd.C_below hl hB)
  have i := fun w => rin27_walk v 0 4611686018427387904 w
  generalize (nameV id && freshS tg ac sy sd q p al st en rt sh l) = d1 at *
  generalize decide (0 ≤ v ∧ v ≤ 4611686018427387904) = d2 at *
  have R := Lib.hid r; have I := Lib.hid i
  clear r i hl
  cases d1 with
  | false =>
    go_enter Try.func10, Try.ntmps10
    go_wp2_with (go_at_call 29; (with_reducible refine R.out.mono ?_); rintro e w1 ⟨rfl, hb⟩)
    go_ret
    exact ⟨rfl, bt hB hb⟩
  | true =>
    go_enter Try.func10, Try.ntmps10
    go_wp2_with (first | (go_at_call 29; (with_reducible refine R.out.mono ?_); rintro e w1 ⟨rfl, hb⟩) | (go_at_call 30; (with_reducible refine (I.out _).mono ?_); rintro e w2 ⟨rfl, rfl⟩))
    go_ret
    exact ⟨by simp, bt hB hb⟩
end Go.Proofs.Ytapfidpfjbacgaa.Hand
