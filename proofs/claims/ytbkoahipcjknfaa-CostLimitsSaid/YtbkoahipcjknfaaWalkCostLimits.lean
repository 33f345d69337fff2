/- CostLimits: what is executed at the limit or better has no cost against its limit, however it is cut into executions (any list; more than 100 executions, and what is too large, is let go by the statement itself); no condition. -/
import Derived.Test.YtbkoahipcjknfaaPl35c
import Derived.Test.YtbkoahipcjknfaaCx6
import Derived.Test.YtbkoahipcjknfaaCx5
set_option linter.unusedVariables false
set_option linter.unusedSimpArgs false
namespace Go.Proofs.Ytbkoahipcjknfaa.Walk
open Go Go.RowKit Go.Proofs.Ytbkoahipcjknfaa.C Go.Proofs.Ytbkoahipcjknfaa.PL Go.Proofs.Ytbkoahipcjknfaa.Hand Go.Proofs.Ytbkoahipcjknfaa.RL Go.Proofs.YtbkoahipcjknfaaW.PrintWords Go.Proofs.YtbkoahipcjknfaaW.PrintMore
theorem goods35 (s l p : Int) : grain_Good.f s l p = some (decide (s = 1 ∧ p ≤ l ∨ s = 2 ∧ l ≤ p)) := by
  unfold grain_Good.f
  by_cases h1 : s = 1
  · rw [if_pos h1]; congr 1; rw [decide_eq_decide]; omega
  · by_cases h2 : s = 2
    · rw [if_neg h1, if_pos h2]; congr 1; rw [decide_eq_decide]; omega
    · rw [if_neg h1, if_neg h2]; congr 1; rw [eq_comm, decide_eq_false_iff_not]; omega
/-- What is behind the loop: the cost is none, and the averages are the limit or better. -/
theorem limits_end (s l q w : Int) (hs : s = 1 ∨ s = 2) (hl : 1 ≤ l ∧ l ≤ 1073741824) (hq : 0 ≤ q ∧ q ≤ 104857600) (hw : 0 ≤ w ∧ w ≤ 1073741824 * q) (hb : s = 1 → w ≤ l * q) (ha : s = 2 → l * q ≤ w) (k : Nat) (hk : 2 ≤ k) :
    ((cost_Slip.f k s q w l).bind fun bt332 => (if bt332.2 = 0 then (spigotlaw35_CostLimits.j2 k s l q w bt332.1 (decide (bt332.1 > 0))) else (spigotlaw35_CostLimits.j2 k s l q w bt332.1 true))) = some true := by
  obtain ⟨k, rfl⟩ : ∃ m, k = m + 1 := ⟨k - 1, by omega⟩
  have hm := mul_b (show 0 ≤ l by omega) hl.2 hq.1 hq.2
  have hm2 : l * q ≤ 112589990684262400 := hm.2
  have hc : q * l = l * q := Int.mul_comm _ _
  have e : slipS s q w l = (sg s (w - l * q), 0) := by
    unfold slipS
    rw [if_pos ⟨hs, by omega, hw.1, by omega⟩, hc, if_pos (by unfold in64; omega)]
    exact tell_in (by unfold sg in64; split <;> omega)
  have hn : sg s (w - l * q) ≤ 0 := by
    rcases hs with h | h
    · have := hb h; unfold sg; split <;> omega
    · have := ha h; unfold sg; split <;> omega
  rw [slip_is s q w l (by unfold in64; omega) _ (by omega), Option.bind_some, e, if_pos rfl, decide_eq_false (by show ¬ sg s (w - l * q) > 0; omega)]
  simp only [spigotlaw35_CostLimits.j2, Bool.false_eq_true, if_false]
  by_cases h0 : q = 0
  · rw [if_pos h0]
    subst h0
    have : w = 0 := by omega
    subst this
    have : sg s (0 - l * 0) = 0 := by simp [sg]
    rw [this]; rfl
  · rw [if_neg h0, avg_is q w (by unfold in64; omega) k (by omega), Option.bind_some]
    have hav : avgS q w = (w / q, (if w % q = 0 then w / q else w / q + 1), 0) := by unfold avgS; rw [if_pos ⟨by omega, hw.1⟩]
    rw [hav, if_pos rfl]
    rcases hs with h | h
    · have hb := hb h
      have d1 : w / q ≤ l := by
        have := Int.ediv_le_ediv (show 0 < q by omega) hb
        rwa [Int.mul_ediv_cancel _ (by omega)] at this
      have d2 : (if w % q = 0 then w / q else w / q + 1) ≤ l := by
        by_cases hz : w % q = 0
        · rw [if_pos hz]; exact d1
        · rw [if_neg hz]
          have hdm := Int.emod_add_mul_ediv w q
          have hp := Int.emod_nonneg w (show q ≠ 0 by omega)
          by_cases he : w / q = l
          · rw [he] at hdm
            have : q * l = l * q := Int.mul_comm _ _
            omega
          · omega
      rw [if_neg (by omega), if_pos d1, if_pos d2, if_pos h]
    · have ha := ha h
      have d1 : l ≤ w / q := by
        have := Int.ediv_le_ediv (show 0 < q by omega) ha
        rwa [Int.mul_ediv_cancel _ (by omega)] at this
      rw [if_pos h, if_neg (by omega), decide_eq_true (by omega)]
theorem loop35 (s l : Int) (hs : s = 1 ∨ s = 2) (hl : 1 ≤ l ∧ l ≤ 1073741824) (L : List S75) (hL : L.length ≤ 100) : ∀ (d k : Nat) (i : Nat) (q w : Int), i + d = L.length → d + 2 < k →
    0 ≤ q → q ≤ 1048576 * i → 0 ≤ w → w ≤ 1073741824 * q → (s = 1 → w ≤ l * q) → (s = 2 → l * q ≤ w) →
    spigotlaw35_CostLimits.l0 k s l q w L (L.length : Int) (i : Int) = some true := by
  intro d
  induction d with
  | zero =>
    intro k i q w hi hk q0 q1 w0 w1 hb ha
    obtain ⟨k, rfl⟩ : ∃ m, k = m + 1 := ⟨k - 1, by omega⟩
    simp only [spigotlaw35_CostLimits.l0]
    rw [if_neg (by omega)]
    exact limits_end s l q w hs hl ⟨q0, by omega⟩ ⟨w0, w1⟩ hb ha k (by omega)
  | succ d ih =>
    intro k i q w hi hk q0 q1 w0 w1 hb ha
    obtain ⟨k, rfl⟩ : ∃ m, k = m + 1 := ⟨k - 1, by omega⟩
    simp only [spigotlaw35_CostLimits.l0]
    rw [if_pos (by omega), if_pos (by omega), if_pos (by omega)]
    generalize (rd_T75 L (i : Int)).f0 = x
    generalize (rd_T75 L (i : Int)).f1 = p
    by_cases h1 : x < 1
    · rw [if_pos h1]
    rw [if_neg h1]
    by_cases h2 : x > 1048576
    · rw [if_pos h2]
    rw [if_neg h2]
    by_cases h3 : p < 1
    · rw [if_pos h3]
    rw [if_neg h3]
    by_cases h4 : p > 1073741824
    · rw [if_pos h4]
    rw [if_neg h4, goods35, Option.bind_some]
    by_cases hg : s = 1 ∧ p ≤ l ∨ s = 2 ∧ l ≤ p
    · rw [decide_eq_true hg, if_pos rfl]
      have m1 := mul_b (show 0 ≤ x by omega) (show x ≤ 1048576 by omega) (show 0 ≤ p by omega) (show p ≤ 1073741824 by omega)
      have m2 : x * p ≤ 1125899906842624 := m1.2
      have m3 : x * p ≤ x * 1073741824 := Int.mul_le_mul_of_nonneg_left (by omega) (by omega)
      have e : l * (q + x) = l * q + x * l := by rw [Int.mul_add, Int.mul_comm l x]
      rw [w64c (n := x * p) (by omega) (by omega), w64c (n := q + x) (by omega) (by omega), w64c (n := w + x * p) (by omega) (by omega), show wrap64 ((i : Int) + 1) = ((i + 1 : Nat) : Int) from wsucc i (by omega)]
      refine ih k (i + 1) (q + x) (w + x * p) (by omega) (by omega) (by omega) (by omega) (by omega) (by omega) ?_ ?_
      · intro h
        have := hb h
        have m4 : x * p ≤ x * l := Int.mul_le_mul_of_nonneg_left (by omega) (by omega)
        rw [e]; omega
      · intro h
        have := ha h
        have m4 : x * l ≤ x * p := Int.mul_le_mul_of_nonneg_left (by omega) (by omega)
        rw [e]; omega
    · rw [decide_eq_false hg, if_neg (by simp)]
theorem limits_pure (s l : Int) (L : List S75) : spigotlaw35_CostLimits.f 105 s l L = some true := by
  have skip : spigotlaw35_CostLimits.j0 105 s l L true = some true := by simp [spigotlaw35_CostLimits.j0]
  unfold spigotlaw35_CostLimits.f
  rw [awake35 105 (by omega), Option.bind_some, if_pos rfl]
  by_cases h1 : (L.length : Int) > 100
  · rw [if_pos h1]; exact skip
  rw [if_neg h1]
  by_cases h2 : s < 1
  · rw [if_pos h2]; exact skip
  rw [if_neg h2]
  by_cases h3 : s > 2
  · rw [if_pos h3]; exact skip
  rw [if_neg h3]
  by_cases h4 : l < 1
  · rw [if_pos h4]; exact skip
  rw [if_neg h4]
  by_cases h5 : l > 1073741824
  · rw [decide_eq_true h5]; exact skip
  rw [decide_eq_false h5]
  simp only [spigotlaw35_CostLimits.j0, Bool.false_eq_true, if_false]
  exact loop35 s l (by omega) (by omega) L (by omega) L.length 104 0 0 0 (by omega) (by omega) (by omega) (by omega) (by omega) (by omega) (by intro _; simp) (by intro _; simp)
theorem CostLimits (a0 : Int) (a1 : Int) (A2 : Option Addr) (c2 : Nat) (l2 : List (Int × Int)) (W : World) (w0 : (Lit.int .i64 a0).wf = true) (w1 : (Lit.int .i64 a1).wf = true) (w2 : (A2 = none ∧ c2 = 0 ∧ l2 = []) ∨ ∃ x, A2 = some x ∧ l2.length ≤ c2 ∧ c2 ≤ maxLen ∧ ∀ i (h : i < l2.length), W.cell? (x.add (i * 2 + 0)) = some (.int .i64 l2[i].1) ∧ W.cell? (x.add (i * 2 + 1)) = some (.int .i64 l2[i].2) ∧ (Lit.int .i64 l2[i].1).wf = true ∧ (Lit.int .i64 l2[i].2).wf = true) :
    Calls Try.prog 14 #[.int .i64 a0, .int .i64 a1, .slice A2 l2.length c2] W fun e W' => e = .returned (.bool true) ∧ Below W.heap.size W W' := by
  have hlen : (l2.map fun p => (⟨p.1, p.2⟩ : S75)).length = l2.length := List.length_map ..
  have hcap : l2.length ≤ c2 ∧ c2 ≤ maxLen := by
    rcases w2 with ⟨_, rfl, rfl⟩ | ⟨x, _, h1, h2, _⟩
    · exact ⟨Nat.le_refl _, Nat.zero_le _⟩
    · exact ⟨h1, h2⟩
  have hC : Kd.C k75 W A2 (l2.map fun p => (⟨p.1, p.2⟩ : S75)).length (l2.map fun p => (⟨p.1, p.2⟩ : S75)) := by
    refine ⟨rfl, by rw [hlen]; have := hcap.1; have := hcap.2; unfold maxLen at this; omega, fun hn => ?_⟩
    rw [hlen] at hn
    rcases w2 with ⟨_, _, rfl⟩ | ⟨x, hx, _, _, hf⟩
    · simp at hn
    · refine ⟨x, hx, fun j p hj => ?_⟩
      have hjl : j < l2.length := by have := (List.getElem?_eq_some_iff.1 hj).1; rwa [hlen] at this
      have hp : p = ⟨l2[j].1, l2[j].2⟩ := by
        rw [List.getElem?_map, List.getElem?_eq_getElem hjl] at hj
        exact (Option.some.inj hj).symm
      subst hp
      obtain ⟨f0, f1, _, _⟩ := hf j hjl
      refine ⟨_, rfl, k75_mk W _, fun i u hu => ?_⟩
      match i, hu with
      | 0, hu => obtain rfl := Option.some.inj hu; exact f0
      | 1, hu => obtain rfl := Option.some.inj hu; exact f1
      | i + 2, hu => simp at hu
  have := spigotlaw35_CostLimits.calls 105 a0 a1 A2 c2 _ true W hC (by rw [hlen]; exact hcap.1) (limits_pure a0 a1 _)
  rw [hlen] at this
  exact this
end Go.Proofs.Ytbkoahipcjknfaa.Walk
