/- Executions at the gate, in plain numbers. -/
import Derived.Test.YtmeengcbfhhncaaGat
import Derived.Test.YtmeengcbfhhncaaKx6
import Derived.Test.YtmeengcbfhhncaaKx11
set_option linter.unusedVariables false
set_option linter.unusedSimpArgs false
namespace Go.Proofs.Ytmeengcbfhhncaa.Hand
open Go Go.RowKit Go.Proofs.YtmeengcbfhhncaaW.PrintWords Go.Proofs.YtmeengcbfhhncaaW.PrintMore Go.Proofs.YtmeengcbfhhncaaW.PrintLast Go.Proofs.Ytmeengcbfhhncaa.RL Go.Proofs.Ytmeengcbfhhncaa.PL Go.Proofs.Ytmeengcbfhhncaa.K
/-- May an execution be? -/
def filS (mid wid tick side lim p : Int) : Bool := decide (1 ≤ p) && decide (p ≤ (bandS mid wid tick).2.1) && (decide (side = 1 ∧ p ≤ lim) || decide (side = 2 ∧ lim ≤ p))
theorem fil_is {s : ByteArray} {lot tick mid wid most worth : Int} (h : SymOk lot tick mid wid most worth) (side lim p : Int) : gate_Fill.f 8 s lot tick mid wid most worth side lim p = some (filS mid wid tick side lim p) := by
  unfold gate_Fill.f filS
  rw [band_is mid wid tick (by have := h.btick; unfold in64; omega) 8 (by omega), Option.bind_some, if_pos h.band]
  generalize (bandS mid wid tick).2.1 = hi
  simp only [gate_Fill.j0, gate_Fill.j1, grain_Good.f]
  by_cases h1 : 1 ≤ p <;> by_cases h2 : p ≤ hi <;> by_cases h3 : side = 1 <;> by_cases h4 : side = 2 <;> by_cases h5 : p ≤ lim <;> by_cases h6 : lim ≤ p <;> by_cases h7 : lim ≤ hi <;> simp [h1, h2, h3, h4, h5, h6, h7] <;> omega
theorem rfil_is {s : ByteArray} {lot tick mid wid most worth : Int} (h : SymOk lot tick mid wid most worth) (side lim p : Int) : spigotref16_Fill.f 8 s lot tick mid wid most worth side lim p = some (filS mid wid tick side lim p) := by
  unfold spigotref16_Fill.f filS
  rw [rband_is mid wid tick (by have := h.btick; unfold in64; omega) 8 (by omega), Option.bind_some]
  generalize (bandS mid wid tick).2.1 = hi
  simp only [spigotref02_Good.f]
  by_cases h1 : 1 ≤ p <;> by_cases h2 : p ≤ hi <;> by_cases h3 : side = 1 <;> by_cases h4 : side = 2 <;> by_cases h5 : p ≤ lim <;> by_cases h6 : lim ≤ p <;> simp [h1, h2, h3, h4, h5, h6] <;> omega
theorem fill16_calls (s : ByteArray) (lot tick mid wid most worth side q p : Int) (h : SymOk lot tick mid wid most worth) (w : World) : Calls Try.prog 10 #[.agg #[.string s, .int .i64 lot, .int .i64 tick, .int .i64 mid, .int .i64 wid, .int .i64 most, .int .i64 worth], .int .i64 side, .int .i64 q, .int .i64 p] w fun e w' => e = .returned (.bool (filS mid wid tick side q p)) ∧ Below w.heap.size w w' :=
  gate_Fill.calls 8 _ _ _ _ _ _ _ _ _ _ _ w (fil_is h side q p)
theorem rfill16_calls (s : ByteArray) (lot tick mid wid most worth side q p : Int) (h : SymOk lot tick mid wid most worth) (w : World) : Calls Try.prog 11 #[.agg #[.string s, .int .i64 lot, .int .i64 tick, .int .i64 mid, .int .i64 wid, .int .i64 most, .int .i64 worth], .int .i64 side, .int .i64 q, .int .i64 p] w fun e w' => e = .returned (.bool (filS mid wid tick side q p)) ∧ Below w.heap.size w w' :=
  spigotref16_Fill.calls 8 _ _ _ _ _ _ _ _ _ _ _ w (rfil_is h side q p)
end Go.Proofs.Ytmeengcbfhhncaa.Hand
