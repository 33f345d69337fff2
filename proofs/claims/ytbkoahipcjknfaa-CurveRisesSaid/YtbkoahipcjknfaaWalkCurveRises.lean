/- CurveRises: a target is nothing at the beginning, all at the end, and never falls between; no condition. -/
import Derived.Test.YtbkoahipcjknfaaPl03
import Derived.Test.YtbkoahipcjknfaaRowKit
import Derived.Test.YtbkoahipcjknfaaUx10
set_option linter.unusedVariables false
namespace Go.Proofs.Ytbkoahipcjknfaa.Walk
open Go Go.RowKit Go.Proofs.Ytbkoahipcjknfaa.Row Go.Proofs.Ytbkoahipcjknfaa.U Go.Proofs.Ytbkoahipcjknfaa.PL Go.Proofs.Ytbkoahipcjknfaa.Hand Go.Proofs.Ytbkoahipcjknfaa.RL Go.Proofs.YtbkoahipcjknfaaW.PrintWords Go.Proofs.YtbkoahipcjknfaaW.PrintMore
theorem done_first (l : List Int) {s : Int} (hs : 0 ≤ s) : ∀ m, doneP l 0 s m = 0
  | 0 => rfl
  | m + 1 => by
    simp only [doneP]
    have h1 : 0 ≤ (m : Int) * s := Int.mul_nonneg (by omega) hs
    have hc : clampG (0 * (l.length : Int) - m * s) s = 0 := by unfold clampG; rw [if_neg (by omega), if_neg (by omega)]
    rw [done_first l hs m, hc]; simp
theorem done_last (l : List Int) {s : Int} (hs : 0 ≤ s) : ∀ m, m ≤ l.length → doneP l s s m = sumN l m * s
  | 0, _ => by simp [doneP, sumN]
  | m + 1, hm => by
    simp only [doneP]
    obtain ⟨d, hd⟩ : ∃ d, l.length = m + 1 + d := ⟨l.length - m - 1, by omega⟩
    have e1 : s * (l.length : Int) = m * s + s + d * s := by rw [hd, Int.natCast_add, Int.natCast_add, Int.mul_comm, Int.add_mul, Int.add_mul]; simp
    have e2 : 0 ≤ (d : Int) * s := Int.mul_nonneg (by omega) hs
    have hc : clampG (s * (l.length : Int) - m * s) s = s := by
      unfold clampG
      by_cases c : s * (l.length : Int) - m * s > s
      · rw [if_pos c]
      · rw [if_neg c]
        split <;> omega
    rw [done_last l hs m (by omega), hc, sumN_succ, Int.add_mul]
theorem clamp_mono {a b s : Int} (h : a ≤ b) : clampG a s ≤ clampG b s ∨ s < 0 := by
  unfold clampG
  by_cases c1 : a > s <;> by_cases c2 : b > s <;> by_cases c3 : a > 0 <;> by_cases c4 : b > 0 <;> simp only [c1, c2, c3, c4, if_true, if_false] <;> omega
theorem done_mono {l : List Int} (hz : okZ l) {t u s : Int} (hs : 0 ≤ s) (h : t ≤ u) : ∀ m, doneP l t s m ≤ doneP l u s m
  | 0 => Int.le_refl _
  | m + 1 => by
    simp only [doneP]
    have h1 : t * (l.length : Int) ≤ u * (l.length : Int) := Int.mul_le_mul_of_nonneg_right h (by omega)
    have h2 := (clamp_mono (s := s) (show t * (l.length : Int) - m * s ≤ u * (l.length : Int) - m * s by omega)).resolve_right (by omega)
    have h3 := Int.mul_le_mul_of_nonneg_left h2 (getD_bd hz m).1
    have := done_mono hz hs h m
    omega
theorem rises_pure (q : Int) (l : List Int) (t s : Int) (ht : in64 t) (hs : in64 s) : spigotlaw03_CurveRises.f 10 q l t s = some true := by
  have skip : spigotlaw03_CurveRises.j0 10 q l true t s = some true := by simp [spigotlaw03_CurveRises.j0]
  unfold spigotlaw03_CurveRises.f curve_Check.f
  rw [awake03 10 (by omega), Option.bind_some, if_pos rfl]
  by_cases h : (l.length : Int) > 100
  · rw [if_pos h]; exact skip
  rw [if_neg h, Option.bind_some]
  by_cases c : rightW l = true
  · rw [if_pos c, if_pos rfl]
    by_cases h1 : q < 0
    · rw [if_pos h1]; exact skip
    rw [if_neg h1]
    by_cases h2 : q > 1099511627776
    · rw [if_pos h2]; exact skip
    rw [if_neg h2]
    by_cases h3 : s < 1
    · rw [if_pos h3]; exact skip
    rw [if_neg h3]
    by_cases h4 : s > 1073741824
    · rw [if_pos h4]; exact skip
    rw [if_neg h4]
    by_cases h5 : t < 0
    · rw [if_pos h5]; exact skip
    rw [if_neg h5]
    by_cases h6 : t ≥ s
    · rw [decide_eq_true h6]; exact skip
    rw [decide_eq_false h6]
    have hz := (right_okZ c).1
    have tw : ∀ u, 0 ≤ u → u ≤ s → targetW q l u s = (q * doneN l u s / (l.sum * s), 0) := fun u a b => by
      unfold targetW; rw [if_pos c, if_pos (by omega), if_pos (by omega)]
    have ha := all_span c (show 1 ≤ s by omega) (by omega)
    have d0 : q * doneN l 0 s / (l.sum * s) = 0 := by unfold doneN; rw [done_first l (by omega)]; simp
    have d1 : q * doneN l s s / (l.sum * s) = q := by
      unfold doneN; rw [done_last l (by omega) _ (Nat.le_refl _), sumN_all]
      exact Int.mul_ediv_cancel _ (by omega)
    have vt := (target_val c t (show 0 ≤ q by omega) (by omega) (show 1 ≤ s by omega) (by omega)).2
    have vu := (target_val c (t + 1) (show 0 ≤ q by omega) (by omega) (show 1 ≤ s by omega) (by omega)).2
    have hm : q * doneN l t s / (l.sum * s) ≤ q * doneN l (t + 1) s / (l.sum * s) :=
      Int.ediv_le_ediv (by omega) (Int.mul_le_mul_of_nonneg_left (done_mono hz (by omega) (by omega) _) (by omega))
    simp only [spigotlaw03_CurveRises.j0, Bool.false_eq_true, if_false]
    rw [w64q (n := t + 1) (by omega) (by omega), ctarget_is q l 0 s (by unfold in64; omega) hs 9 (by omega), ctarget_is q l t s ht hs 9 (by omega), ctarget_is q l (t + 1) s (by unfold in64; omega) hs 9 (by omega), ctarget_is q l s s hs hs 9 (by omega), tw 0 (by omega) (by omega), tw t (by omega) (by omega), tw (t + 1) (by omega) (by omega), tw s (by omega) (by omega), d0, d1]
    simp only [Option.bind_some, if_true]
    rw [if_pos (by omega), if_pos hm, if_pos (by omega)]; simp
  · rw [if_neg c, if_neg (by decide)]; exact skip
theorem CurveRises (a0 : Int) (A1 : Option Addr) (n1 c1 : Nat) (z1 : List Int) (a2_0 : Int) (a2_1 : Int) (W : World) (w0 : (Lit.int .i64 a0).wf = true) (w1 : IntRow .i64 W A1 n1 c1 z1) (y1 : n1 * 8 ≤ 140737488351232) (w2_0 : (Lit.int .i64 a2_0).wf = true) (w2_1 : (Lit.int .i64 a2_1).wf = true) :
    Calls Try.prog 6 #[.int .i64 a0, .slice A1 n1 c1, .agg #[.int .i64 a2_0, .int .i64 a2_1]] W fun e W' => e = .returned (.bool true) ∧ Below W.heap.size W W' := by
  obtain ⟨l1, rfl, hr1, hm1, hw1, hc1⟩ := ReadsInt.ofRowC w1
  exact spigotlaw03_CurveRises.calls 10 a0 A1 c1 l1 a2_0 a2_1 true W (Kd.C_of_reads (d := (0 : Int)) (h1 := fun _ => rfl) hr1) hc1 (rises_pure a0 l1 a2_0 a2_1 (in64_wf w2_0) (in64_wf w2_1))
end Go.Proofs.Ytbkoahipcjknfaa.Walk
