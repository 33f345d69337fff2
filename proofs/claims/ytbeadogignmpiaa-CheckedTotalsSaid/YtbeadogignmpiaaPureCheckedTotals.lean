/- CheckedTotals: the sum of any list of numbers of 64 bits is exact, whatever the sums on the way are, or refused (a list of more than 200 is let go by the statement itself); no condition. -/
import Derived.Test.YtbeadogignmpiaaPl
import Derived.Test.YtbeadogignmpiaaTx0
import Derived.Test.YtbeadogignmpiaaTx1
import Derived.Test.YtbeadogignmpiaaTx2
set_option linter.unusedVariables false
namespace Go.Proofs.Ytbeadogignmpiaa.Pure
open Go Go.RowKit Go.Proofs.Ytbeadogignmpiaa.T Go.Proofs.Ytbeadogignmpiaa.Hand Go.Proofs.Ytbeadogignmpiaa.RL Go.Proofs.Ytbeadogignmpiaa.PL Go.Proofs.YtbeadogignmpiaaW.PrintWords Go.Proofs.YtbeadogignmpiaaW.PrintMore
namespace Totals
theorem awake01 : spigotlaw01_awake.f = some true := by
  unfold spigotlaw01_awake.f
  rw [add_is _ _ (by decide) (by decide), down_is _ _ _ (by decide) (by decide) (by decide), up_is _ _ _ (by decide) (by decide) (by decide)]
  decide
theorem told01 (p q : Int × Int) : spigotlaw01_told.f p.1 p.2 q.1 q.2 = some (decide (p = q)) := by
  unfold spigotlaw01_told.f
  obtain ⟨a, b⟩ := p
  obtain ⟨c, d⟩ := q
  by_cases h : a = c
  · subst h; rw [if_pos rfl]; congr 1; rw [Bool.eq_iff_iff]; simp
  · simp [h]
theorem radd (a b : Int) (ha : small a) (hb : small b) : spigotref01_Add.f (enc a).1 (enc a).2 (enc b).1 (enc b).2 = some (enc (a + b)) := by
  unfold spigotref01_Add.f; rw [if_pos ⟨okB_enc ha, okB_enc hb⟩, dec_enc, dec_enc]
theorem sum_b : ∀ (l : List Int), (∀ x ∈ l, in64 x) → l.sum.natAbs ≤ l.length * 9223372036854775808
  | [], _ => by simp
  | a :: l, h => by
    have := sum_b l fun x hx => h x (by simp [hx])
    have ha := h a (by simp)
    unfold in64 at ha
    rw [List.sum_cons, List.length_cons]
    omega
theorem sum_small (l : List Int) (hl : l.length ≤ 200) (h : ∀ x ∈ l, in64 x) : small l.sum := by
  have := sum_b l h
  exact small_le (by omega)
theorem loop (l : List Int) (hl : l.length ≤ 200) (h : ∀ x ∈ l, in64 x) (q : Int × Int) : ∀ (d k i : Nat), i + d = l.length → d < k →
    spigotlaw01_CheckedTotals.l0 k q.1 q.2 l (l.length : Int) (i : Int) (enc (l.take i).sum).1 (enc (l.take i).sum).2 = some (decide (q = tell l.sum)) := by
  intro d
  induction d with
  | zero =>
    intro k i hi hk
    obtain ⟨k, rfl⟩ : ∃ m, k = m + 1 := ⟨k - 1, by omega⟩
    obtain rfl : i = l.length := by omega
    simp only [spigotlaw01_CheckedTotals.l0]
    rw [if_neg (by omega), List.take_length, told_is _ (sum_small l hl h), Option.bind_some, told01, Option.bind_some]
  | succ d ih =>
    intro k i hi hk
    obtain ⟨k, rfl⟩ : ∃ m, k = m + 1 := ⟨k - 1, by omega⟩
    have hlt : i < l.length := by omega
    have hx : rd l (i : Int) = l[i] := by simp [rd, hlt]
    have hin := h l[i] (List.getElem_mem hlt)
    simp only [spigotlaw01_CheckedTotals.l0]
    rw [if_pos (by omega), if_pos (by omega), if_pos (by omega), hx, of_is _ hin, Option.bind_some, radd _ _ (sum_small _ (by simp; omega) fun x hx => h x (List.mem_of_mem_take hx)) (small64 hin), Option.bind_some]
    have e : (l.take i).sum + l[i] = (l.take (i + 1)).sum := by rw [List.take_succ_eq_append_getElem hlt, List.sum_append]; simp
    rw [e, show wrap64 ((i : Int) + 1) = ((i + 1 : Nat) : Int) from wsucc i (by omega)]
    exact ih k (i + 1) (by omega) (by omega)
end Totals
open Totals in
theorem CheckedTotals : spigotlaw01_CheckedTotals.Pure := by
  intro l _ _ hin
  have hin : ∀ x ∈ l, in64 x := fun x hx => in64_wf (hin x hx)
  refine ⟨201, ?_⟩
  unfold spigotlaw01_CheckedTotals.f
  rw [awake01, Option.bind_some, if_pos rfl]
  by_cases h : (l.length : Int) > 200
  · rw [if_pos h]
  · have hs : checked_Sum.f l = some (tell l.sum) := by unfold checked_Sum.f; rw [if_pos hin]
    rw [if_neg h, hs, Option.bind_some]
    have := loop l (by omega) hin (tell l.sum) l.length 201 0 (by omega) (by omega)
    have e : (enc (l.take 0).sum) = (false, []) := by simp [enc, Bl.bits_zero]
    rw [e] at this
    simpa using this
end Go.Proofs.Ytbeadogignmpiaa.Pure
