/- CheckedUndone: for any two numbers of 64 bits sums and products are the same either way round, and what was added is taken away again; no condition. -/
import Derived.Test.YtbeadogignmpiaaPl01
namespace Go.Proofs.Ytbeadogignmpiaa.Pure
open Go Go.RowKit Go.Proofs.Ytbeadogignmpiaa.P Go.Proofs.Ytbeadogignmpiaa.Hand Go.Proofs.Ytbeadogignmpiaa.RL Go.Proofs.Ytbeadogignmpiaa.PL
theorem CheckedUndone : spigotlaw01_CheckedUndone.Pure := by
  intro a b ha hb
  have ha := in64_wf ha
  have hb := in64_wf hb
  refine ⟨1, ?_⟩
  unfold spigotlaw01_CheckedUndone.f
  rw [awake01, Option.bind_some, if_pos rfl, add_is a b ha hb, Option.bind_some, add_is b a hb ha, Option.bind_some, mul_is a b ha hb, Option.bind_some, mul_is b a hb ha, Option.bind_some,
    Int.add_comm b a, Int.mul_comm b a, if_pos rfl, if_pos rfl, if_pos rfl]
  simp only [spigotlaw01_CheckedUndone.j0, bne_self_eq_false, Bool.false_eq_true, if_false]
  by_cases h : in64 (a + b)
  · rw [tell_in h, if_pos rfl, sub_is _ _ h hb, Option.bind_some]
    have e : a + b - b = a := by omega
    rw [e, tell_in ha]; simp
  · rw [tell_out h, if_neg (by simp)]
end Go.Proofs.Ytbeadogignmpiaa.Pure
