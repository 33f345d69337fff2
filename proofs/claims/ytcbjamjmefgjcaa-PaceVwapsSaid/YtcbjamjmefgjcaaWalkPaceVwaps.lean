/- PaceVwaps: how much should be out along any curve is the document's at any time, or refused; no condition. -/
import Derived.Test.YtcbjamjmefgjcaaPl24r
import Derived.Test.YtcbjamjmefgjcaaRowKit
import Derived.Test.YtcbjamjmefgjcaaUx2
set_option linter.unusedVariables false
namespace Go.Proofs.Ytcbjamjmefgjcaa.Walk
open Go Go.RowKit Go.Proofs.Ytcbjamjmefgjcaa.Row Go.Proofs.Ytcbjamjmefgjcaa.U Go.Proofs.Ytcbjamjmefgjcaa.PL Go.Proofs.Ytcbjamjmefgjcaa.Hand Go.Proofs.Ytcbjamjmefgjcaa.RL Go.Proofs.YtcbjamjmefgjcaaW.PrintWords Go.Proofs.YtcbjamjmefgjcaaW.PrintMore
theorem vwaps_pure (q : Int) (l : List Int) (s e n : Int) : spigotlaw24_PaceVwaps.f 80 q l s e n = some true := by
  unfold spigotlaw24_PaceVwaps.f pace_Vwap.f
  rw [awake24 80 (by omega), Option.bind_some, if_pos rfl]
  by_cases h : (l.length : Int) > 200
  · rw [if_pos h]
  · rw [if_neg h, Option.bind_some, rvwap_is q l s e n 80 (by omega), Option.bind_some, if_pos rfl]; simp
theorem PaceVwaps (a0 : Int) (A1 : Option Addr) (n1 c1 : Nat) (z1 : List Int) (a2_0 : Int) (a2_1 : Int) (a2_2 : Int) (W : World) (w0 : (Lit.int .i64 a0).wf = true) (w1 : IntRow .i64 W A1 n1 c1 z1) (y1 : n1 * 8 ≤ 140737488351232) (w2_0 : (Lit.int .i64 a2_0).wf = true) (w2_1 : (Lit.int .i64 a2_1).wf = true) (w2_2 : (Lit.int .i64 a2_2).wf = true) :
    Calls Try.prog 4 #[.int .i64 a0, .slice A1 n1 c1, .agg #[.int .i64 a2_0, .int .i64 a2_1, .int .i64 a2_2]] W fun e W' => e = .returned (.bool true) ∧ Below W.heap.size W W' := by
  obtain ⟨l1, rfl, hr1, hm1, hw1, hc1⟩ := ReadsInt.ofRowC w1
  exact spigotlaw24_PaceVwaps.calls 80 a0 A1 c1 l1 a2_0 a2_1 a2_2 true W (Kd.C_of_reads (d := (0 : Int)) (h1 := fun _ => rfl) hr1) hc1 (vwaps_pure a0 l1 a2_0 a2_1 a2_2)
end Go.Proofs.Ytcbjamjmefgjcaa.Walk
