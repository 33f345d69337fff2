/- CheckedNext: for any three numbers of 64 bits up is down or one more, and down of a number by itself is the other one; no condition. -/
import Derived.Test.YtbeadogignmpiaaPl01
namespace Go.Proofs.Ytbeadogignmpiaa.Pure
open Go Go.RowKit Go.Proofs.Ytbeadogignmpiaa.P Go.Proofs.Ytbeadogignmpiaa.Hand Go.Proofs.Ytbeadogignmpiaa.RL Go.Proofs.Ytbeadogignmpiaa.PL
theorem up_next (n c : Int) (hc : c ≠ 0) : cei n c = flo n c ∨ cei n c = flo n c + 1 := by
  rw [flo_eq n c hc, cei_eq n c hc]
  generalize (decide (n < 0) != decide (c < 0)) = s
  generalize ((n.natAbs / c.natAbs : Nat) : Int) = q
  by_cases hm : n.natAbs % c.natAbs = 0 <;> cases s <;> simp [hm]
theorem flo_self (a c : Int) (hc : c ≠ 0) : flo (a * c) c = a := by
  unfold flo
  split
  · rw [show -(a * c) = a * -c by grind]; exact Int.mul_ediv_cancel _ (by omega)
  · exact Int.mul_ediv_cancel _ hc
theorem CheckedNext : spigotlaw01_CheckedNext.Pure := by
  intro a b c ha hb hc
  have ha := in64_wf ha
  have hb := in64_wf hb
  have hc := in64_wf hc
  unfold spigotlaw01_CheckedNext.f
  rw [awake01, Option.bind_some, if_pos rfl, down_is a b c ha hb hc, Option.bind_some, up_is a b c ha hb hc, Option.bind_some]
  by_cases hz : c = 0
  · unfold fr
    rw [if_pos hz, if_pos hz, if_pos hz]; simp
  · rw [if_neg hz, down_is a c c ha hc hc, Option.bind_some]
    unfold fr frac
    rw [if_neg hz, if_neg hz, if_neg hz]
    simp only [Bool.false_eq_true, if_false, if_true]
    rw [flo_self a c hz, tell_in ha, if_pos rfl, if_pos rfl]
    have hn := up_next (a * b) c hz
    generalize flo (a * b) c = x at *
    generalize cei (a * b) c = y at *
    by_cases h1 : in64 x
    · rw [tell_in h1, if_pos rfl]
      by_cases h2 : in64 y
      · rw [tell_in h2, if_pos rfl]
        simp only
        rcases hn with h | h
        · rw [if_pos h]
        · have e : wrap64 (y - 1) = x := by rw [h]; have := h1.1; have := h1.2; unfold wrap64; omega
          rw [e]; simp
      · rw [tell_out h2, if_neg (by simp)]
    · rw [tell_out h1, if_neg (by simp)]
end Go.Proofs.Ytbeadogignmpiaa.Pure
