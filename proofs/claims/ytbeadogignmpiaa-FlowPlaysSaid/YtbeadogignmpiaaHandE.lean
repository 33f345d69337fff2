/- Sums and differences, and what is below, as plain functions of numbers. -/
import Derived.Test.YtbeadogignmpiaaHandC
import Derived.Test.YtbeadogignmpiaaLess
set_option linter.unusedVariables false
set_option linter.unusedSimpArgs false
namespace Go.Proofs.Ytbeadogignmpiaa.Hand
open Go Go.RowKit Go.Proofs.YtbeadogignmpiaaW.PrintWords Go.Proofs.YtbeadogignmpiaaW.PrintMore Go.Proofs.Ytbeadogignmpiaa.RL
theorem radd_is (a b : Int) (ha : in64 a) (hb : in64 b) : R.checked_Add.f a b = some (tell (a + b)) := by
  obtain ⟨a0, a1⟩ := ha
  obtain ⟨b0, b1⟩ := hb
  unfold R.checked_Add.f tell
  have e : wrap64 (IntKind.u64.wrap ((IntKind.u64.wrap a) + (IntKind.u64.wrap b))) = wrap64 (a + b) := by
    rw [IntKind.wrap_u64, IntKind.wrap_u64, IntKind.wrap_u64]; unfold wrap64; omega
  rw [e]
  by_cases h : -9223372036854775808 ≤ a + b ∧ a + b ≤ 9223372036854775807
  · have e2 : wrap64 (a + b) = a + b := by unfold wrap64; omega
    rw [e2, if_pos h, if_neg]
    rw [Bool.not_eq_true, bne_eq_false_iff_eq, decide_eq_decide]
    omega
  · rw [if_neg h, if_pos]
    rw [bne_iff_ne, Ne, decide_eq_decide]
    unfold wrap64
    omega
theorem rsub_is (a b : Int) (ha : in64 a) (hb : in64 b) : R.checked_Sub.f a b = some (tell (a - b)) := by
  obtain ⟨a0, a1⟩ := ha
  obtain ⟨b0, b1⟩ := hb
  unfold R.checked_Sub.f tell
  have e : wrap64 (IntKind.u64.wrap ((IntKind.u64.wrap a) - (IntKind.u64.wrap b))) = wrap64 (a - b) := by
    rw [IntKind.wrap_u64, IntKind.wrap_u64, IntKind.wrap_u64]; unfold wrap64; omega
  rw [e]
  by_cases h : -9223372036854775808 ≤ a - b ∧ a - b ≤ 9223372036854775807
  · have e2 : wrap64 (a - b) = a - b := by unfold wrap64; omega
    rw [e2, if_pos h, if_neg]
    rw [Bool.not_eq_true, bne_eq_false_iff_eq, decide_eq_decide]
    omega
  · rw [if_neg h, if_pos]
    rw [bne_iff_ne, Ne, decide_eq_decide]
    unfold wrap64
    omega


def checked_Add.f (a0 a1 : Int) : Option (Int × Int) := if in64 a0 ∧ in64 a1 then some (tell (a0 + a1)) else none
theorem checked_Add.calls (a0 : Int) (a1 : Int) (r1 : Int) (r2 : Int) (w : World) (h : checked_Add.f a0 a1 = some (r1, r2)) :
    Calls Try.prog 27 #[.int .i64 a0, .int .i64 a1] w fun e w' => e = .returned (.tuple #[.int .i64 r1, .int .i64 r2]) ∧ Drawn0 w w' := by
  unfold checked_Add.f at h
  by_cases c : in64 a0 ∧ in64 a1
  · rw [if_pos c] at h; exact R.checked_Add.calls a0 a1 r1 r2 w (by rw [radd_is a0 a1 c.1 c.2]; exact h)
  · rw [if_neg c] at h; exact absurd h (by simp)
def checked_Sub.f (a0 a1 : Int) : Option (Int × Int) := if in64 a0 ∧ in64 a1 then some (tell (a0 - a1)) else none
theorem checked_Sub.calls (a0 : Int) (a1 : Int) (r1 : Int) (r2 : Int) (w : World) (h : checked_Sub.f a0 a1 = some (r1, r2)) :
    Calls Try.prog 28 #[.int .i64 a0, .int .i64 a1] w fun e w' => e = .returned (.tuple #[.int .i64 r1, .int .i64 r2]) ∧ Drawn0 w w' := by
  unfold checked_Sub.f at h
  by_cases c : in64 a0 ∧ in64 a1
  · rw [if_pos c] at h; exact R.checked_Sub.calls a0 a1 r1 r2 w (by rw [rsub_is a0 a1 c.1 c.2]; exact h)
  · rw [if_neg c] at h; exact absurd h (by simp)
def checked_Neg.f (a0 : Int) : Option (Int × Int) := if in64 a0 then some (tell (-a0)) else none
theorem checked_Neg.calls (a0 : Int) (r1 : Int) (r2 : Int) (w : World) (h : checked_Neg.f a0 = some (r1, r2)) :
    Calls Try.prog 29 #[.int .i64 a0] w fun e w' => e = .returned (.tuple #[.int .i64 r1, .int .i64 r2]) ∧ Drawn0 w w' := by
  unfold checked_Neg.f at h
  by_cases c : in64 a0
  · rw [if_pos c] at h
    refine R.checked_Neg.calls a0 r1 r2 w ?_
    unfold R.checked_Neg.f
    rw [rsub_is 0 a0 (by unfold in64; omega) c, Option.bind_some, Int.zero_sub]
    exact h
  · rw [if_neg c] at h; exact absurd h (by simp)

theorem prod_sign (a b : Int) : a * b = if (!decide (a < 0) == decide (b < 0)) = true then -(pHi (ab a) (ab b) * 18446744073709551616 + pLo (ab a) (ab b)) else pHi (ab a) (ab b) * 18446744073709551616 + pLo (ab a) (ab b) := by
  rw [halves]
  have e : (!decide (a < 0) == decide (b < 0)) = (decide (a < 0) != decide (b < 0)) := by cases decide (a < 0) <;> cases decide (b < 0) <;> rfl
  rw [e]
  exact sign_mul a b
theorem lessR_is (sx sy : Bool) (x y ph pl qh ql : Int) (p0 : 0 ≤ ph) (p1 : 0 ≤ pl) (p2 : pl ≤ 18446744073709551615) (q0 : 0 ≤ qh) (q1 : 0 ≤ ql) (q2 : ql ≤ 18446744073709551615)
    (hx : x = if sx = true then -(ph * 18446744073709551616 + pl) else ph * 18446744073709551616 + pl) (hy : y = if sy = true then -(qh * 18446744073709551616 + ql) else qh * 18446744073709551616 + ql) :
    lessR sx sy (!(ph == 0 && pl == 0)) (!(qh == 0 && ql == 0)) ph pl qh ql = decide (x < y) := by
  have zp : (!(ph == 0 && pl == 0)) = decide (0 < ph * 18446744073709551616 + pl) := by rw [Bool.eq_iff_iff]; simp; omega
  have zq : (!(qh == 0 && ql == 0)) = decide (0 < qh * 18446744073709551616 + ql) := by rw [Bool.eq_iff_iff]; simp; omega
  have l1 : wless qh ql ph pl = decide (qh * 18446744073709551616 + ql < ph * 18446744073709551616 + pl) := by unfold wless; rw [decide_eq_decide]; omega
  have l2 : wless ph pl qh ql = decide (ph * 18446744073709551616 + pl < qh * 18446744073709551616 + ql) := by unfold wless; rw [decide_eq_decide]; omega
  have v0 : 0 ≤ ph * 18446744073709551616 + pl := by omega
  have u0 : 0 ≤ qh * 18446744073709551616 + ql := by omega
  unfold lessR
  rw [zp, zq, l1, l2]
  clear zp zq l1 l2
  generalize ph * 18446744073709551616 + pl = V at *
  generalize qh * 18446744073709551616 + ql = U at *
  subst hx; subst hy
  by_cases h1 : 0 < V
  · rw [decide_eq_true h1]
    by_cases h2 : 0 < U
    · rw [decide_eq_true h2]
      cases sx <;> cases sy <;> simp <;> omega
    · rw [decide_eq_false h2]
      cases sx <;> cases sy <;> simp <;> omega
  · rw [decide_eq_false h1]
    by_cases h2 : 0 < U
    · rw [decide_eq_true h2]
      cases sx <;> cases sy <;> simp <;> omega
    · rw [decide_eq_false h2]
      cases sx <;> cases sy <;> simp <;> omega
def checked_Less.f (a0 a1 a2 a3 : Int) : Option Bool := if in64 a0 ∧ in64 a1 ∧ in64 a2 ∧ in64 a3 then some (decide (a0 * a1 < a2 * a3)) else none
theorem checked_Less.calls (a0 : Int) (a1 : Int) (a2 : Int) (a3 : Int) (r : Bool) (w : World) (h : checked_Less.f a0 a1 a2 a3 = some r) :
    Calls Try.prog 32 #[.int .i64 a0, .int .i64 a1, .int .i64 a2, .int .i64 a3] w fun e w' => e = .returned (.bool r) ∧ Below w.heap.size w w' := by
  unfold checked_Less.f at h
  by_cases c : in64 a0 ∧ in64 a1 ∧ in64 a2 ∧ in64 a3
  · rw [if_pos c] at h
    obtain ⟨c0, c1, c2, c3⟩ := c
    have h0 := ab_ge a0; have h1 := ab_ge a1; have h2 := ab_ge a2; have h3 := ab_ge a3
    have k0 := ab_le c0.1 c0.2; have k1 := ab_le c1.1 c1.2; have k2 := ab_le c2.1 c2.2; have k3 := ab_le c3.1 c3.2
    have hp := pHi_b h0 (by omega) h1 (by omega)
    have hq := pHi_b h2 (by omega) h3 (by omega)
    have lp := pLo_b (ab a0) (ab a1)
    have lq := pLo_b (ab a2) (ab a3)
    have := less_walk a0 a1 a2 a3 (pHi (ab a0) (ab a1)) (pLo (ab a0) (ab a1)) (pHi (ab a2) (ab a3)) (pLo (ab a2) (ab a3)) _ _ _ _ w
      (fun w => size_calls a0 c0.1 c0.2 w) (fun w => size_calls a1 c1.1 c1.2 w) (fun w => size_calls a2 c2.1 c2.2 w) (fun w => size_calls a3 c3.1 c3.2 w)
      (fun w => times_calls _ _ h0 (by omega) h1 (by omega) w) (fun w => times_calls _ _ h2 (by omega) h3 (by omega) w) rfl rfl (fun w => neq_wide _ _ _ _ w) (fun w => neq_wide _ _ _ _ w)
    rw [lessR_is _ _ (a0 * a1) (a2 * a3) _ _ _ _ hp.1 lp.1 lp.2 hq.1 lq.1 lq.2 (prod_sign a0 a1) (prod_sign a2 a3), Option.some.inj h] at this
    exact this
  · rw [if_neg c] at h; exact absurd h (by simp)
end Go.Proofs.Ytbeadogignmpiaa.Hand
