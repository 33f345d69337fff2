/- CheckedFractions: for any three numbers of 64 bits the whole number next below, and next above, a product by a number is the document's, or refused; no condition. -/
import Derived.Test.YtbeadogignmpiaaPl01
namespace Go.Proofs.Ytbeadogignmpiaa.Pure
open Go Go.RowKit Go.Proofs.Ytbeadogignmpiaa.P Go.Proofs.Ytbeadogignmpiaa.Hand Go.Proofs.Ytbeadogignmpiaa.RL Go.Proofs.Ytbeadogignmpiaa.PL
theorem CheckedFractions : spigotlaw01_CheckedFractions.Pure := by
  intro a b c ha hb hc
  have ha := in64_wf ha
  have hb := in64_wf hb
  have hc := in64_wf hc
  unfold spigotlaw01_CheckedFractions.f
  rw [awake01, Option.bind_some, if_pos rfl, down_is a b c ha hb hc, Option.bind_some, up_is a b c ha hb hc, Option.bind_some, fraction_is a b c _ ha hb hc, Option.bind_some,
    fraction_is a b c _ ha hb hc, Option.bind_some, told01, Option.bind_some, if_pos (by simp), told01]
  simp
end Go.Proofs.Ytbeadogignmpiaa.Pure
