/- CheckedProducts: for any two numbers of 64 bits the product that the program tells is the document's, exact or refused; no condition. -/
import Derived.Test.YtbeadogignmpiaaPl01
namespace Go.Proofs.Ytbeadogignmpiaa.Pure
open Go Go.RowKit Go.Proofs.Ytbeadogignmpiaa.P Go.Proofs.Ytbeadogignmpiaa.Hand Go.Proofs.Ytbeadogignmpiaa.RL Go.Proofs.Ytbeadogignmpiaa.PL
theorem CheckedProducts : spigotlaw01_CheckedProducts.Pure := by
  intro a b ha hb
  have ha := in64_wf ha
  have hb := in64_wf hb
  unfold spigotlaw01_CheckedProducts.f
  rw [awake01, Option.bind_some, if_pos rfl, mul_is a b ha hb, Option.bind_some, of_is a ha, Option.bind_some, of_is b hb, Option.bind_some,
    rmul_is a b (small64 ha) (small64 hb), Option.bind_some, told_is _ (small_le (in64_mul ha hb)), Option.bind_some, told01]
  simp
end Go.Proofs.Ytbeadogignmpiaa.Pure
