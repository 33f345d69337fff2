/- AllotShares: how much each gets of any quantity, one by one, is the document's, or refused. -/
import Derived.Test.YtknmojjccfhchaaAlQ
import Derived.Test.YtknmojjccfhchaaAlE
import Derived.Test.YtknmojjccfhchaaAlH
import Derived.Test.YtknmojjccfhchaaUx15
set_option linter.unusedVariables false
set_option linter.unusedSimpArgs false
namespace Go.Proofs.Ytknmojjccfhchaa.Pure
open Go Go.RowKit Go.Proofs.Ytknmojjccfhchaa.U Go.Proofs.Ytknmojjccfhchaa.PL Go.Proofs.Ytknmojjccfhchaa.Hand Go.Proofs.Ytknmojjccfhchaa.RL Go.Proofs.YtknmojjccfhchaaW.PrintWords Go.Proofs.YtknmojjccfhchaaW.PrintMore
theorem split_ask {q : Int} {l : List Shr} (hq : 0 ≤ q ∧ q ≤ 1099511627776) (hok : checkS l = true) : SplitF q (asksS l).sum (asksS l) := by
  unfold checkS at hok
  simp only [Bool.and_eq_true, decide_eq_true_eq, Bool.not_eq_true', decide_eq_false_iff_not] at hok
  obtain ⟨hm, hall, hs0⟩ := hok
  have hA : ∀ x ∈ l, okA x := fun x hx => okShr_A (List.all_eq_true.1 hall x hx)
  have hsb := sumA_b l hA
  have hla : (asksS l).length = l.length := by simp [asksS]
  refine ⟨by omega, by omega, by omega, by rw [asks_sum]; omega, rfl, fun x hx => ?_⟩
  obtain ⟨y, hy, rfl⟩ := List.mem_map.1 hx
  exact (hA y hy).1
theorem shares_pure (q : Int) (l : List Shr) : ∃ k, spigotlaw36_AllotShares.f k q l = some true := by
  by_cases h70 : (l.length : Int) > 70
  · refine ⟨5, ?_⟩
    unfold spigotlaw36_AllotShares.f
    rw [awake_is _ (by omega), Option.bind_some, if_pos rfl, if_pos h70]
  · have hpl : spigotlaw36_plain.f l = some (l.map cvS) := by unfold spigotlaw36_plain.f; rw [if_pos (by omega)]
    have hck : allot_Check.f l = some (if checkS l = true then 0 else 2) := rfl
    cases hc : checkS l with
    | false =>
      refine ⟨10, ?_⟩
      have hr := right_is l
      rw [hc] at hr
      rw [hc, if_neg (by decide)] at hck
      have hp : allot_Pro.f q l = some ([], 2) := by unfold allot_Pro.f; rw [hc, if_neg (by simp)]
      unfold spigotlaw36_AllotShares.f
      rw [awake_is _ (by omega), Option.bind_some, if_pos rfl, if_neg h70, hp, Option.bind_some, hpl, Option.bind_some, hr, Option.bind_some, hck, Option.bind_some]
      rw [if_neg (by decide), Option.bind_some, if_neg (by decide), Option.bind_some]
      simp [spigotlaw36_AllotShares.j0, spigotlaw36_AllotShares.j1]
    | true =>
      rw [hc, if_pos rfl] at hck
      by_cases hq : 0 ≤ q ∧ q ≤ 1099511627776
      · have F := split_ask hq hc
        have hm := F.hm
        have hla : (asksS l).length = l.length := by simp [asksS]
        obtain ⟨K, hK⟩ := (rasks_is l (by omega)).both (rsplit_is F)
        refine ⟨K + 1010, ?_⟩
        have hr := right_is l
        obtain ⟨ha, hs⟩ := hK (K + 1008) (by omega)
        rw [hc] at hr
        have hp : allot_Pro.f q l = some (splitS q (asksS l), 0) := by unfold allot_Pro.f; rw [hc, if_pos ⟨rfl, hq⟩]
        unfold spigotlaw36_AllotShares.f
        rw [awake_is _ (by omega), Option.bind_some, if_pos rfl, if_neg h70, hp, Option.bind_some, hpl, Option.bind_some, hr, Option.bind_some, hck, Option.bind_some]
        rw [if_neg (by decide), Option.bind_some, if_pos rfl]
        simp only [spigotlaw36_AllotShares.j0]
        rw [if_neg (by decide), if_pos trivial, if_neg (by omega), decide_eq_false (by omega)]
        simp only [spigotlaw36_AllotShares.j1]
        rw [if_neg (by decide), if_pos trivial, hpl, Option.bind_some, ha, Option.bind_some, hs, Option.bind_some, same_is _ _ (by rw [split_len]; omega) _ (by rw [split_len]; omega)]
        simp
      · refine ⟨10, ?_⟩
        have hr := right_is l
        rw [hc] at hr
        have hp : allot_Pro.f q l = some ([], 2) := by unfold allot_Pro.f; rw [if_neg (by rintro ⟨_, h⟩; exact hq h)]
        unfold spigotlaw36_AllotShares.f
        rw [awake_is _ (by omega), Option.bind_some, if_pos rfl, if_neg h70, hp, Option.bind_some, hpl, Option.bind_some, hr, Option.bind_some, hck, Option.bind_some]
        rw [if_neg (by decide), Option.bind_some, if_pos rfl]
        simp only [spigotlaw36_AllotShares.j0]
        rw [if_neg (by decide), if_pos trivial]
        by_cases hn : q < 0
        · rw [if_pos hn]
          simp [spigotlaw36_AllotShares.j1]
        · rw [if_neg hn, decide_eq_true (by omega)]
          simp [spigotlaw36_AllotShares.j1]
end Go.Proofs.Ytknmojjccfhchaa.Pure
namespace Go.Proofs.Ytknmojjccfhchaa.Walk
open Go Go.RowKit Go.Proofs.Ytknmojjccfhchaa.U Go.Proofs.Ytknmojjccfhchaa.Hand Go.Proofs.YtknmojjccfhchaaW.PrintWords Go.Proofs.YtknmojjccfhchaaW.PrintMore
theorem AllotShares (a0 : Int) (A1 : Option Addr) (c1 : Nat) (l1 : List (Int × Int × Int)) (W : World) (w0 : (Lit.int .i64 a0).wf = true) (w1 : (A1 = none ∧ c1 = 0 ∧ l1 = []) ∨ ∃ x, A1 = some x ∧ l1.length ≤ c1 ∧ c1 ≤ maxLen ∧ ∀ i (h : i < l1.length), W.cell? (x.add (i * 3 + 0)) = some (.int .i64 l1[i].1) ∧ W.cell? (x.add (i * 3 + 1)) = some (.int .i64 l1[i].2.1) ∧ W.cell? (x.add (i * 3 + 2)) = some (.int .i64 l1[i].2.2) ∧ (Lit.int .i64 l1[i].1).wf = true ∧ (Lit.int .i64 l1[i].2.1).wf = true ∧ (Lit.int .i64 l1[i].2.2).wf = true) :
    Calls Try.prog 3 #[.int .i64 a0, .slice A1 l1.length c1] W fun e W' => e = .returned (.bool true) ∧ Below W.heap.size W W' := by
  obtain ⟨h1, h2, h3⟩ := shr_row W A1 c1 l1 w1
  obtain ⟨k, hk⟩ := Pure.shares_pure a0 (l1.map mkS)
  have := spigotlaw36_AllotShares.calls k a0 A1 c1 (l1.map mkS) true W h1 h2 hk
  rwa [show (l1.map mkS).length = l1.length from List.length_map ..] at this
end Go.Proofs.Ytknmojjccfhchaa.Walk
