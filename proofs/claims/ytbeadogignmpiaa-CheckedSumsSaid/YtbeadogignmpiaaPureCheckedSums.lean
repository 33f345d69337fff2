/- CheckedSums: for any two numbers of 64 bits sum, difference and the number turned about nought are the document's, exact or refused; no condition. -/
import Derived.Test.YtbeadogignmpiaaPl
import Derived.Test.YtbeadogignmpiaaSx
set_option linter.unusedVariables false
namespace Go.Proofs.Ytbeadogignmpiaa.Pure
open Go Go.RowKit Go.Proofs.Ytbeadogignmpiaa.S Go.Proofs.Ytbeadogignmpiaa.Hand Go.Proofs.Ytbeadogignmpiaa.RL Go.Proofs.Ytbeadogignmpiaa.PL
namespace Sums
theorem awake01 : spigotlaw01_awake.f = some true := by
  unfold spigotlaw01_awake.f
  rw [add_is _ _ (by decide) (by decide), down_is _ _ _ (by decide) (by decide) (by decide), up_is _ _ _ (by decide) (by decide) (by decide)]
  decide
theorem told01 (p q : Int × Int) : spigotlaw01_told.f p.1 p.2 q.1 q.2 = some (decide (p = q)) := by
  unfold spigotlaw01_told.f
  obtain ⟨a, b⟩ := p
  obtain ⟨c, d⟩ := q
  by_cases h : a = c
  · subst h; rw [if_pos rfl]; congr 1; rw [Bool.eq_iff_iff]; simp
  · simp [h]
theorem radd (a b : Int) (ha : small a) (hb : small b) : spigotref01_Add.f (enc a).1 (enc a).2 (enc b).1 (enc b).2 = some (enc (a + b)) := by
  unfold spigotref01_Add.f; rw [if_pos ⟨okB_enc ha, okB_enc hb⟩, dec_enc, dec_enc]
theorem rneg (a : Int) : spigotref01_Neg.f (enc a).1 (enc a).2 = some (enc (-a)) := by
  unfold spigotref01_Neg.f
  have hl := len_pos a.natAbs
  show (if decide (a < 0) = true then some (false, Bl.nbits a.natAbs) else (if ((Bl.nbits a.natAbs).length : Int) > 0 then some (true, Bl.nbits a.natAbs) else some (false, Bl.nbits a.natAbs))) = _
  unfold enc
  rw [Int.natAbs_neg]
  by_cases h : a < 0
  · rw [if_pos (by simpa using h)]; congr 2; rw [eq_comm, decide_eq_false_iff_not]; omega
  · rw [if_neg (by simpa using h)]
    by_cases h2 : 0 < a.natAbs
    · rw [if_pos (hl.2 h2)]; congr 2; rw [eq_comm, decide_eq_true_eq]; omega
    · rw [if_neg (fun q => h2 (hl.1 q))]; congr 2; rw [eq_comm, decide_eq_false_iff_not]; omega
end Sums
open Sums in
theorem CheckedSums : spigotlaw01_CheckedSums.Pure := by
  intro a b ha hb
  have ha := in64_wf ha
  have hb := in64_wf hb
  have sa := small64 ha
  have sb := small64 hb
  have a1 := ha.1; have a2 := ha.2; have b1 := hb.1; have b2 := hb.2
  have snb : small (-b) := small_le (by omega)
  have sna : small (-a) := small_le (by omega)
  unfold spigotlaw01_CheckedSums.f
  rw [awake01, Option.bind_some, if_pos rfl, of_is a ha, Option.bind_some, of_is b hb, Option.bind_some, add_is a b ha hb, Option.bind_some, sub_is a b ha hb, Option.bind_some, neg_is a ha, Option.bind_some,
    radd a b sa sb, Option.bind_some, told_is _ (small_le (by omega)), Option.bind_some, rneg b, Option.bind_some, radd a (-b) sa snb, Option.bind_some, told_is _ (small_le (by omega)), Option.bind_some,
    rneg a, Option.bind_some, told_is _ sna, Option.bind_some, told01, Option.bind_some, if_pos (by simp), told01, Option.bind_some, if_pos (by simp [Int.sub_eq_add_neg]), told01]
  simp
end Go.Proofs.Ytbeadogignmpiaa.Pure
