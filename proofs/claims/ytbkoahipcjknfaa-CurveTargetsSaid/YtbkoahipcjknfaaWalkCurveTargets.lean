/- CurveTargets: what is done of any curve at any time, and the target of any quantity, are the document's, or refused; no condition. -/
import Derived.Test.YtbkoahipcjknfaaPl03r
import Derived.Test.YtbkoahipcjknfaaRowKit
import Derived.Test.YtbkoahipcjknfaaUx7
import Derived.Test.YtbkoahipcjknfaaUx5
set_option linter.unusedVariables false
namespace Go.Proofs.Ytbkoahipcjknfaa.Walk
open Go Go.RowKit Go.Proofs.Ytbkoahipcjknfaa.Row Go.Proofs.Ytbkoahipcjknfaa.U Go.Proofs.Ytbkoahipcjknfaa.PL Go.Proofs.Ytbkoahipcjknfaa.Hand Go.Proofs.Ytbkoahipcjknfaa.RL Go.Proofs.YtbkoahipcjknfaaW.PrintWords Go.Proofs.YtbkoahipcjknfaaW.PrintMore
theorem asked_is (t s : Int) : spigotref03_Asked.f t s = some (decide (1 ≤ s ∧ s ≤ 1073741824 ∧ 0 ≤ t ∧ t ≤ s)) := by
  unfold spigotref03_Asked.f
  by_cases h1 : s ≥ 1
  · rw [if_pos h1]
    by_cases h2 : s ≤ 1073741824
    · rw [if_pos h2]
      by_cases h3 : t ≥ 0
      · rw [if_pos h3]; exact congrArg some (decide_eq_decide.2 (by omega))
      · rw [if_neg h3, decide_eq_false (by omega)]
    · rw [if_neg h2, decide_eq_false (by omega)]
  · rw [if_neg h1, decide_eq_false (by omega)]
theorem targets_pure (q : Int) (l : List Int) (t s : Int) (ht : in64 t) (hs : in64 s) : spigotlaw03_CurveTargets.f 80 q l t s = some true := by
  unfold spigotlaw03_CurveTargets.f curve_Done.f
  rw [awake03 80 (by omega), Option.bind_some, if_pos rfl]
  by_cases h : (l.length : Int) > 300
  · rw [if_pos h]
  rw [if_neg h, if_pos ⟨ht, hs⟩, Option.bind_some, ctarget_is q l t s ht hs 80 (by omega), Option.bind_some, right_is l 80 (by omega), Option.bind_some, asked_is, Option.bind_some]
  unfold doneW targetW
  by_cases c : rightW l = true
  · rw [if_pos c, if_pos c, if_pos c]
    by_cases d : 1 ≤ s ∧ s ≤ 1073741824 ∧ 0 ≤ t ∧ t ≤ s
    · rw [decide_eq_true d, if_pos rfl, if_pos d, if_pos d, if_pos rfl, rdone_is l (right_okZ c).1 t s d.1 d.2.1 d.2.2.1 d.2.2.2 80 (by omega), Option.bind_some, if_pos rfl]
      show spigotlaw03_CurveTargets.j0 80 q l _ _ (s != s) t s = some true
      rw [bne_self_eq_false]
      simp only [spigotlaw03_CurveTargets.j0, Bool.false_eq_true, if_false]
      by_cases h1 : q < 0
      · rw [if_pos h1, if_neg (show ¬ (0 ≤ q ∧ q ≤ 1099511627776) by omega)]; simp
      · rw [if_neg h1]
        by_cases h2 : q > 1099511627776
        · rw [if_pos h2, if_neg (show ¬ (0 ≤ q ∧ q ≤ 1099511627776) by omega)]; simp
        · rw [if_neg h2, if_pos (show 0 ≤ q ∧ q ≤ 1099511627776 by omega), rtarget03_is q l c t s (by omega) (by omega) d.1 d.2.1 d.2.2.1 d.2.2.2 79 (by omega)]
          simp
    · rw [decide_eq_false d, if_neg (by decide), if_neg d, if_neg d]; simp
  · rw [if_neg c, if_neg c, if_neg c]; simp
theorem CurveTargets (a0 : Int) (A1 : Option Addr) (n1 c1 : Nat) (z1 : List Int) (a2_0 : Int) (a2_1 : Int) (W : World) (w0 : (Lit.int .i64 a0).wf = true) (w1 : IntRow .i64 W A1 n1 c1 z1) (y1 : n1 * 8 ≤ 140737488351232) (w2_0 : (Lit.int .i64 a2_0).wf = true) (w2_1 : (Lit.int .i64 a2_1).wf = true) :
    Calls Try.prog 4 #[.int .i64 a0, .slice A1 n1 c1, .agg #[.int .i64 a2_0, .int .i64 a2_1]] W fun e W' => e = .returned (.bool true) ∧ Below W.heap.size W W' := by
  obtain ⟨l1, rfl, hr1, hm1, hw1, hc1⟩ := ReadsInt.ofRowC w1
  exact spigotlaw03_CurveTargets.calls 80 a0 A1 c1 l1 a2_0 a2_1 true W (Kd.C_of_reads (d := (0 : Int)) (h1 := fun _ => rfl) hr1) hc1 (targets_pure a0 l1 a2_0 a2_1 (in64_wf w2_0) (in64_wf w2_1))
end Go.Proofs.Ytbkoahipcjknfaa.Walk
