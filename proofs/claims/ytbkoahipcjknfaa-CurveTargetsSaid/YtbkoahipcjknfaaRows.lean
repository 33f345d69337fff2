/-
  No cell of these rows narrows 'for every input' (looked for: loops, veiled, ifaces, maps, wideKeys, modest, calm, conditions, laid).
  DERIVED. THE GIVEN ROWS OF THIS SEAT. 12 by the template 'for every input the law returns true; each argument reads behind the call as it read before'; 0 by the template 'total and deterministic' (their statements: YtbkoahipcjknfaaTotals.lean).
  GIVEN WITH THE SEED: the statements are not yours to turn. If you find one false, say at which input.
  Laid BY PROGRAM, IN A SANDBOX (cutbox-rows.mjs): the forced cells as the released guide's own fill.sh prints them over the translation ed10e28864aedf03… (all of the seat's roots in one cut). By AI agents, Wed Nov 11 2026. No macro, syntax, notation, axiom, sorry.
-/
import Derived.Test.YtbkoahipcjknfaaChecked
import GoSem.Claim
import GoSem.ClaimJoined
import GoSem.ClaimMapViews
import Derived.JoinedTies
import Derived.KernelRfl
namespace Go.Proofs.Ytbkoahipcjknfaa
/- THE CELL 'sum', in the pinned program and in every row, IS THE sha256 OF THE DUMP (.gsa) THAT YtbkoahipcjknfaaProg.lean LOADS. Nothing in Lean hashes anything: it is a label: what it is worth is what the hold of that sum in a sandbox is worth. -/
noncomputable def Try.pinned : Pinned := { name := "ytbkoahipcjknfaa", sum := "ed10e28864aedf03d52f6fc4b7749ab4e55375ce8adbdd6a3d3d525ea9f5c6a4", checked := Try.checked }
namespace Rows
def none {H : Type} : Left H := { results := [], args := [] }

/-- 'spigotlaw03.CurveChecks': WHATEVER THE INPUT: true; the input reads as it did. -/
def curveChecksSpec : ChangeSpec := { name := "curveChecks", fn := fun _ => fun
  | [d] => { results := [.lit (.bool true)], args := [d] }
  | _ => none }
def curveChecksRow : OpenClaim := { program := "ytbkoahipcjknfaa", sum := "ed10e28864aedf03d52f6fc4b7749ab4e55375ce8adbdd6a3d3d525ea9f5c6a4", func := "spigot/spigotlaw03.CurveChecks", spec := "curveChecks", inPlace := ["math/bits.Add64"], unfollowed := true, recurses := true, named := ["math/bits.divideError", "math/bits.overflowError"], apart := false }
def CurveChecksSaid : Prop := curveChecksRow.holds Try.pinned (OpenSpec.ofChange curveChecksSpec)

/-- ITS FALSE NEIGHBOUR: 'it returns false'. Refute it at one input. -/
def curveChecksWrong : ChangeSpec := { name := "curveChecks", fn := fun _ => fun
  | [d] => { results := [.lit (.bool false)], args := [d] }
  | _ => none }
def CurveChecksWrongFalsely : Prop := curveChecksRow.holds Try.pinned (OpenSpec.ofChange curveChecksWrong)

/-- 'spigotlaw03.CurveTargets': WHATEVER THE INPUT: true; the input reads as it did. -/
def curveTargetsSpec : ChangeSpec := { name := "curveTargets", fn := fun _ => fun
  | [d1, d2, d3] => { results := [.lit (.bool true)], args := [d1, d2, d3] }
  | _ => none }
def curveTargetsRow : OpenClaim := { program := "ytbkoahipcjknfaa", sum := "ed10e28864aedf03d52f6fc4b7749ab4e55375ce8adbdd6a3d3d525ea9f5c6a4", func := "spigot/spigotlaw03.CurveTargets", spec := "curveTargets", inPlace := ["math/bits.Add64"], unfollowed := true, recurses := true, named := ["math/bits.divideError", "math/bits.overflowError"], apart := false }
def CurveTargetsSaid : Prop := curveTargetsRow.holds Try.pinned (OpenSpec.ofChange curveTargetsSpec)

/-- ITS FALSE NEIGHBOUR: 'it returns false'. Refute it at one input. -/
def curveTargetsWrong : ChangeSpec := { name := "curveTargets", fn := fun _ => fun
  | [d1, d2, d3] => { results := [.lit (.bool false)], args := [d1, d2, d3] }
  | _ => none }
def CurveTargetsWrongFalsely : Prop := curveTargetsRow.holds Try.pinned (OpenSpec.ofChange curveTargetsWrong)

/-- 'spigotlaw03.CurveSpreads': WHATEVER THE INPUT: true; the input reads as it did. -/
def curveSpreadsSpec : ChangeSpec := { name := "curveSpreads", fn := fun _ => fun
  | [d1, d2] => { results := [.lit (.bool true)], args := [d1, d2] }
  | _ => none }
def curveSpreadsRow : OpenClaim := { program := "ytbkoahipcjknfaa", sum := "ed10e28864aedf03d52f6fc4b7749ab4e55375ce8adbdd6a3d3d525ea9f5c6a4", func := "spigot/spigotlaw03.CurveSpreads", spec := "curveSpreads", inPlace := ["math/bits.Add64"], unfollowed := true, recurses := true, named := ["math/bits.divideError", "math/bits.overflowError"], apart := false }
def CurveSpreadsSaid : Prop := curveSpreadsRow.holds Try.pinned (OpenSpec.ofChange curveSpreadsSpec)

/-- ITS FALSE NEIGHBOUR: 'it returns false'. Refute it at one input. -/
def curveSpreadsWrong : ChangeSpec := { name := "curveSpreads", fn := fun _ => fun
  | [d1, d2] => { results := [.lit (.bool false)], args := [d1, d2] }
  | _ => none }
def CurveSpreadsWrongFalsely : Prop := curveSpreadsRow.holds Try.pinned (OpenSpec.ofChange curveSpreadsWrong)

/-- 'spigotlaw03.CurveRises': WHATEVER THE INPUT: true; the input reads as it did. -/
def curveRisesSpec : ChangeSpec := { name := "curveRises", fn := fun _ => fun
  | [d1, d2, d3] => { results := [.lit (.bool true)], args := [d1, d2, d3] }
  | _ => none }
def curveRisesRow : OpenClaim := { program := "ytbkoahipcjknfaa", sum := "ed10e28864aedf03d52f6fc4b7749ab4e55375ce8adbdd6a3d3d525ea9f5c6a4", func := "spigot/spigotlaw03.CurveRises", spec := "curveRises", inPlace := ["math/bits.Add64"], unfollowed := true, recurses := true, named := ["math/bits.divideError", "math/bits.overflowError"], apart := false }
def CurveRisesSaid : Prop := curveRisesRow.holds Try.pinned (OpenSpec.ofChange curveRisesSpec)

/-- ITS FALSE NEIGHBOUR: 'it returns false'. Refute it at one input. -/
def curveRisesWrong : ChangeSpec := { name := "curveRises", fn := fun _ => fun
  | [d1, d2, d3] => { results := [.lit (.bool false)], args := [d1, d2, d3] }
  | _ => none }
def CurveRisesWrongFalsely : Prop := curveRisesRow.holds Try.pinned (OpenSpec.ofChange curveRisesWrong)

/-- 'spigotlaw03.CurveWhole': WHATEVER THE INPUT: true; the input reads as it did. -/
def curveWholeSpec : ChangeSpec := { name := "curveWhole", fn := fun _ => fun
  | [d1, d2] => { results := [.lit (.bool true)], args := [d1, d2] }
  | _ => none }
def curveWholeRow : OpenClaim := { program := "ytbkoahipcjknfaa", sum := "ed10e28864aedf03d52f6fc4b7749ab4e55375ce8adbdd6a3d3d525ea9f5c6a4", func := "spigot/spigotlaw03.CurveWhole", spec := "curveWhole", inPlace := ["math/bits.Add64"], unfollowed := true, recurses := true, named := ["math/bits.divideError", "math/bits.overflowError"], apart := false }
def CurveWholeSaid : Prop := curveWholeRow.holds Try.pinned (OpenSpec.ofChange curveWholeSpec)

/-- ITS FALSE NEIGHBOUR: 'it returns false'. Refute it at one input. -/
def curveWholeWrong : ChangeSpec := { name := "curveWhole", fn := fun _ => fun
  | [d1, d2] => { results := [.lit (.bool false)], args := [d1, d2] }
  | _ => none }
def CurveWholeWrongFalsely : Prop := curveWholeRow.holds Try.pinned (OpenSpec.ofChange curveWholeWrong)

/-- 'spigotlaw16.GateChecks': WHATEVER THE INPUT: true; the input reads as it did. -/
def gateChecksSpec : ChangeSpec := { name := "gateChecks", fn := fun _ => fun
  | [d1, d2] => { results := [.lit (.bool true)], args := [d1, d2] }
  | _ => none }
def gateChecksRow : OpenClaim := { program := "ytbkoahipcjknfaa", sum := "ed10e28864aedf03d52f6fc4b7749ab4e55375ce8adbdd6a3d3d525ea9f5c6a4", func := "spigot/spigotlaw16.GateChecks", spec := "gateChecks", inPlace := ["math/bits.Add64"], unfollowed := true, recurses := true, named := ["math/bits.divideError", "math/bits.overflowError"], apart := false }
def GateChecksSaid : Prop := gateChecksRow.holds Try.pinned (OpenSpec.ofChange gateChecksSpec)

/-- ITS FALSE NEIGHBOUR: 'it returns false'. Refute it at one input. -/
def gateChecksWrong : ChangeSpec := { name := "gateChecks", fn := fun _ => fun
  | [d1, d2] => { results := [.lit (.bool false)], args := [d1, d2] }
  | _ => none }
def GateChecksWrongFalsely : Prop := gateChecksRow.holds Try.pinned (OpenSpec.ofChange gateChecksWrong)

/-- 'spigotlaw35.CostSlips': WHATEVER THE INPUT: true; the input reads as it did. -/
def costSlipsSpec : ChangeSpec := { name := "costSlips", fn := fun _ => fun
  | [d] => { results := [.lit (.bool true)], args := [d] }
  | _ => none }
def costSlipsRow : OpenClaim := { program := "ytbkoahipcjknfaa", sum := "ed10e28864aedf03d52f6fc4b7749ab4e55375ce8adbdd6a3d3d525ea9f5c6a4", func := "spigot/spigotlaw35.CostSlips", spec := "costSlips", inPlace := ["math/bits.Add64", "math/bits.Sub64"], named := ["math/bits.divideError", "math/bits.overflowError"], apart := false }
def CostSlipsSaid : Prop := costSlipsRow.holds Try.pinned (OpenSpec.ofChange costSlipsSpec)

/-- ITS FALSE NEIGHBOUR: 'it returns false'. Refute it at one input. -/
def costSlipsWrong : ChangeSpec := { name := "costSlips", fn := fun _ => fun
  | [d] => { results := [.lit (.bool false)], args := [d] }
  | _ => none }
def CostSlipsWrongFalsely : Prop := costSlipsRow.holds Try.pinned (OpenSpec.ofChange costSlipsWrong)

/-- 'spigotlaw35.CostAdds': WHATEVER THE INPUT: true; the input reads as it did. -/
def costAddsSpec : ChangeSpec := { name := "costAdds", fn := fun _ => fun
  | [d1, d2] => { results := [.lit (.bool true)], args := [d1, d2] }
  | _ => none }
def costAddsRow : OpenClaim := { program := "ytbkoahipcjknfaa", sum := "ed10e28864aedf03d52f6fc4b7749ab4e55375ce8adbdd6a3d3d525ea9f5c6a4", func := "spigot/spigotlaw35.CostAdds", spec := "costAdds", inPlace := ["math/bits.Add64", "math/bits.Sub64"], named := ["math/bits.divideError", "math/bits.overflowError"], apart := false }
def CostAddsSaid : Prop := costAddsRow.holds Try.pinned (OpenSpec.ofChange costAddsSpec)

/-- ITS FALSE NEIGHBOUR: 'it returns false'. Refute it at one input. -/
def costAddsWrong : ChangeSpec := { name := "costAdds", fn := fun _ => fun
  | [d1, d2] => { results := [.lit (.bool false)], args := [d1, d2] }
  | _ => none }
def CostAddsWrongFalsely : Prop := costAddsRow.holds Try.pinned (OpenSpec.ofChange costAddsWrong)

/-- 'spigotlaw16.GateFills': WHATEVER THE INPUT: true; the input reads as it did. -/
def gateFillsSpec : ChangeSpec := { name := "gateFills", fn := fun _ => fun
  | [d1, d2, d3] => { results := [.lit (.bool true)], args := [d1, d2, d3] }
  | _ => none }
def gateFillsRow : OpenClaim := { program := "ytbkoahipcjknfaa", sum := "ed10e28864aedf03d52f6fc4b7749ab4e55375ce8adbdd6a3d3d525ea9f5c6a4", func := "spigot/spigotlaw16.GateFills", spec := "gateFills", inPlace := ["math/bits.Add64"], unfollowed := true, recurses := true, named := ["math/bits.divideError", "math/bits.overflowError"], apart := false }
def GateFillsSaid : Prop := gateFillsRow.holds Try.pinned (OpenSpec.ofChange gateFillsSpec)

/-- ITS FALSE NEIGHBOUR: 'it returns false'. Refute it at one input. -/
def gateFillsWrong : ChangeSpec := { name := "gateFills", fn := fun _ => fun
  | [d1, d2, d3] => { results := [.lit (.bool false)], args := [d1, d2, d3] }
  | _ => none }
def GateFillsWrongFalsely : Prop := gateFillsRow.holds Try.pinned (OpenSpec.ofChange gateFillsWrong)

/-- 'spigotlaw16.GateCovers': WHATEVER THE INPUT: true; the input reads as it did. -/
def gateCoversSpec : ChangeSpec := { name := "gateCovers", fn := fun _ => fun
  | [d1, d2, d3] => { results := [.lit (.bool true)], args := [d1, d2, d3] }
  | _ => none }
def gateCoversRow : OpenClaim := { program := "ytbkoahipcjknfaa", sum := "ed10e28864aedf03d52f6fc4b7749ab4e55375ce8adbdd6a3d3d525ea9f5c6a4", func := "spigot/spigotlaw16.GateCovers", spec := "gateCovers", inPlace := ["math/bits.Add64"], unfollowed := true, recurses := true, named := ["math/bits.divideError", "math/bits.overflowError"], apart := false }
def GateCoversSaid : Prop := gateCoversRow.holds Try.pinned (OpenSpec.ofChange gateCoversSpec)

/-- ITS FALSE NEIGHBOUR: 'it returns false'. Refute it at one input. -/
def gateCoversWrong : ChangeSpec := { name := "gateCovers", fn := fun _ => fun
  | [d1, d2, d3] => { results := [.lit (.bool false)], args := [d1, d2, d3] }
  | _ => none }
def GateCoversWrongFalsely : Prop := gateCoversRow.holds Try.pinned (OpenSpec.ofChange gateCoversWrong)

/-- 'spigotlaw35.CostRates': WHATEVER THE INPUT: true; the input reads as it did. -/
def costRatesSpec : ChangeSpec := { name := "costRates", fn := fun _ => fun
  | [d1, d2, d3] => { results := [.lit (.bool true)], args := [d1, d2, d3] }
  | _ => none }
def costRatesRow : OpenClaim := { program := "ytbkoahipcjknfaa", sum := "ed10e28864aedf03d52f6fc4b7749ab4e55375ce8adbdd6a3d3d525ea9f5c6a4", func := "spigot/spigotlaw35.CostRates", spec := "costRates", inPlace := ["math/bits.Add64", "math/bits.Sub64"], named := ["math/bits.divideError", "math/bits.overflowError"], apart := false }
def CostRatesSaid : Prop := costRatesRow.holds Try.pinned (OpenSpec.ofChange costRatesSpec)

/-- ITS FALSE NEIGHBOUR: 'it returns false'. Refute it at one input. -/
def costRatesWrong : ChangeSpec := { name := "costRates", fn := fun _ => fun
  | [d1, d2, d3] => { results := [.lit (.bool false)], args := [d1, d2, d3] }
  | _ => none }
def CostRatesWrongFalsely : Prop := costRatesRow.holds Try.pinned (OpenSpec.ofChange costRatesWrong)

/-- 'spigotlaw35.CostLimits': WHATEVER THE INPUT: true; the input reads as it did. -/
def costLimitsSpec : ChangeSpec := { name := "costLimits", fn := fun _ => fun
  | [d1, d2, d3] => { results := [.lit (.bool true)], args := [d1, d2, d3] }
  | _ => none }
def costLimitsRow : OpenClaim := { program := "ytbkoahipcjknfaa", sum := "ed10e28864aedf03d52f6fc4b7749ab4e55375ce8adbdd6a3d3d525ea9f5c6a4", func := "spigot/spigotlaw35.CostLimits", spec := "costLimits", inPlace := ["math/bits.Add64", "math/bits.Sub64"], named := ["math/bits.divideError", "math/bits.overflowError"], apart := false }
def CostLimitsSaid : Prop := costLimitsRow.holds Try.pinned (OpenSpec.ofChange costLimitsSpec)

/-- ITS FALSE NEIGHBOUR: 'it returns false'. Refute it at one input. -/
def costLimitsWrong : ChangeSpec := { name := "costLimits", fn := fun _ => fun
  | [d1, d2, d3] => { results := [.lit (.bool false)], args := [d1, d2, d3] }
  | _ => none }
def CostLimitsWrongFalsely : Prop := costLimitsRow.holds Try.pinned (OpenSpec.ofChange costLimitsWrong)

/- THE SECOND FORM. 'bulk': how many values and letters a reading holds, each counted each time it is reached (what is shared counts as often as it is met; a slice's spare places count too). A statement '..UptoSaid' is the law's where the arguments, and the package variables that the reading takes, are together of bulk at most 1048576: NARROWER than '..Said'. Prove '..Said' where nothing that the law and all that it calls make is longer than what came in: it says more and counts as full. Else prove '..UptoSaid'. A law counts once. -/
mutual
def uptoBulk {H : Type} : DataW H → Nat
  | .lit (.string bytes) => bytes.length + 1
  | .lit _ => 1
  | .nil => 1
  | .ptr d => uptoBulk d + 1
  | .slice elems spare => uptoBulkAll elems + uptoBulkAll spare + 1
  | .agg parts => uptoBulkAll parts + 1
  | .iface _ d => uptoBulk d + 1
  | .map entries => uptoBulkEntries entries + 1
  | .held _ => 1
def uptoBulkAll {H : Type} : List (DataW H) → Nat
  | [] => 0
  | d :: r => uptoBulk d + uptoBulkAll r
def uptoBulkEntries {H : Type} : List (Lit × DataW H) → Nat
  | [] => 0
  | x :: r => uptoBulkEntry x + uptoBulkEntries r
def uptoBulkEntry {H : Type} : Lit × DataW H → Nat
  | (.string bytes, d) => bytes.length + uptoBulk d + 1
  | (_, d) => uptoBulk d + 1
 end
def uptoSmall : (H : Type) → List (DataW H) → Bool := fun _ ds => decide (uptoBulkAll ds ≤ 1048576)
def OpenSpec.upto (s : _root_.Go.ChangeSpec) : _root_.Go.OpenSpec := { _root_.Go.OpenSpec.ofChange s with cond := some uptoSmall }

/-- 'spigotlaw03.CurveChecks', WHERE WHAT IT READS IS OF BULK AT MOST 1048576: true; the input reads as it did. -/
def curveChecksUptoRow : OpenClaim := { program := "ytbkoahipcjknfaa", sum := "ed10e28864aedf03d52f6fc4b7749ab4e55375ce8adbdd6a3d3d525ea9f5c6a4", func := "spigot/spigotlaw03.CurveChecks", spec := "curveChecks", inPlace := ["math/bits.Add64"], unfollowed := true, recurses := true, named := ["math/bits.divideError", "math/bits.overflowError"], apart := false, narrowed := true }
def CurveChecksUptoSaid : Prop := curveChecksUptoRow.holds Try.pinned (OpenSpec.upto curveChecksSpec)

/-- 'spigotlaw03.CurveTargets', WHERE WHAT IT READS IS OF BULK AT MOST 1048576: true; the input reads as it did. -/
def curveTargetsUptoRow : OpenClaim := { program := "ytbkoahipcjknfaa", sum := "ed10e28864aedf03d52f6fc4b7749ab4e55375ce8adbdd6a3d3d525ea9f5c6a4", func := "spigot/spigotlaw03.CurveTargets", spec := "curveTargets", inPlace := ["math/bits.Add64"], unfollowed := true, recurses := true, named := ["math/bits.divideError", "math/bits.overflowError"], apart := false, narrowed := true }
def CurveTargetsUptoSaid : Prop := curveTargetsUptoRow.holds Try.pinned (OpenSpec.upto curveTargetsSpec)

/-- 'spigotlaw03.CurveSpreads', WHERE WHAT IT READS IS OF BULK AT MOST 1048576: true; the input reads as it did. -/
def curveSpreadsUptoRow : OpenClaim := { program := "ytbkoahipcjknfaa", sum := "ed10e28864aedf03d52f6fc4b7749ab4e55375ce8adbdd6a3d3d525ea9f5c6a4", func := "spigot/spigotlaw03.CurveSpreads", spec := "curveSpreads", inPlace := ["math/bits.Add64"], unfollowed := true, recurses := true, named := ["math/bits.divideError", "math/bits.overflowError"], apart := false, narrowed := true }
def CurveSpreadsUptoSaid : Prop := curveSpreadsUptoRow.holds Try.pinned (OpenSpec.upto curveSpreadsSpec)

/-- 'spigotlaw03.CurveRises', WHERE WHAT IT READS IS OF BULK AT MOST 1048576: true; the input reads as it did. -/
def curveRisesUptoRow : OpenClaim := { program := "ytbkoahipcjknfaa", sum := "ed10e28864aedf03d52f6fc4b7749ab4e55375ce8adbdd6a3d3d525ea9f5c6a4", func := "spigot/spigotlaw03.CurveRises", spec := "curveRises", inPlace := ["math/bits.Add64"], unfollowed := true, recurses := true, named := ["math/bits.divideError", "math/bits.overflowError"], apart := false, narrowed := true }
def CurveRisesUptoSaid : Prop := curveRisesUptoRow.holds Try.pinned (OpenSpec.upto curveRisesSpec)

/-- 'spigotlaw03.CurveWhole', WHERE WHAT IT READS IS OF BULK AT MOST 1048576: true; the input reads as it did. -/
def curveWholeUptoRow : OpenClaim := { program := "ytbkoahipcjknfaa", sum := "ed10e28864aedf03d52f6fc4b7749ab4e55375ce8adbdd6a3d3d525ea9f5c6a4", func := "spigot/spigotlaw03.CurveWhole", spec := "curveWhole", inPlace := ["math/bits.Add64"], unfollowed := true, recurses := true, named := ["math/bits.divideError", "math/bits.overflowError"], apart := false, narrowed := true }
def CurveWholeUptoSaid : Prop := curveWholeUptoRow.holds Try.pinned (OpenSpec.upto curveWholeSpec)

/-- 'spigotlaw16.GateChecks', WHERE WHAT IT READS IS OF BULK AT MOST 1048576: true; the input reads as it did. -/
def gateChecksUptoRow : OpenClaim := { program := "ytbkoahipcjknfaa", sum := "ed10e28864aedf03d52f6fc4b7749ab4e55375ce8adbdd6a3d3d525ea9f5c6a4", func := "spigot/spigotlaw16.GateChecks", spec := "gateChecks", inPlace := ["math/bits.Add64"], unfollowed := true, recurses := true, named := ["math/bits.divideError", "math/bits.overflowError"], apart := false, narrowed := true }
def GateChecksUptoSaid : Prop := gateChecksUptoRow.holds Try.pinned (OpenSpec.upto gateChecksSpec)

/-- 'spigotlaw35.CostSlips', WHERE WHAT IT READS IS OF BULK AT MOST 1048576: true; the input reads as it did. -/
def costSlipsUptoRow : OpenClaim := { program := "ytbkoahipcjknfaa", sum := "ed10e28864aedf03d52f6fc4b7749ab4e55375ce8adbdd6a3d3d525ea9f5c6a4", func := "spigot/spigotlaw35.CostSlips", spec := "costSlips", inPlace := ["math/bits.Add64", "math/bits.Sub64"], named := ["math/bits.divideError", "math/bits.overflowError"], apart := false, narrowed := true }
def CostSlipsUptoSaid : Prop := costSlipsUptoRow.holds Try.pinned (OpenSpec.upto costSlipsSpec)

/-- 'spigotlaw35.CostAdds', WHERE WHAT IT READS IS OF BULK AT MOST 1048576: true; the input reads as it did. -/
def costAddsUptoRow : OpenClaim := { program := "ytbkoahipcjknfaa", sum := "ed10e28864aedf03d52f6fc4b7749ab4e55375ce8adbdd6a3d3d525ea9f5c6a4", func := "spigot/spigotlaw35.CostAdds", spec := "costAdds", inPlace := ["math/bits.Add64", "math/bits.Sub64"], named := ["math/bits.divideError", "math/bits.overflowError"], apart := false, narrowed := true }
def CostAddsUptoSaid : Prop := costAddsUptoRow.holds Try.pinned (OpenSpec.upto costAddsSpec)

/-- 'spigotlaw16.GateFills', WHERE WHAT IT READS IS OF BULK AT MOST 1048576: true; the input reads as it did. -/
def gateFillsUptoRow : OpenClaim := { program := "ytbkoahipcjknfaa", sum := "ed10e28864aedf03d52f6fc4b7749ab4e55375ce8adbdd6a3d3d525ea9f5c6a4", func := "spigot/spigotlaw16.GateFills", spec := "gateFills", inPlace := ["math/bits.Add64"], unfollowed := true, recurses := true, named := ["math/bits.divideError", "math/bits.overflowError"], apart := false, narrowed := true }
def GateFillsUptoSaid : Prop := gateFillsUptoRow.holds Try.pinned (OpenSpec.upto gateFillsSpec)

/-- 'spigotlaw16.GateCovers', WHERE WHAT IT READS IS OF BULK AT MOST 1048576: true; the input reads as it did. -/
def gateCoversUptoRow : OpenClaim := { program := "ytbkoahipcjknfaa", sum := "ed10e28864aedf03d52f6fc4b7749ab4e55375ce8adbdd6a3d3d525ea9f5c6a4", func := "spigot/spigotlaw16.GateCovers", spec := "gateCovers", inPlace := ["math/bits.Add64"], unfollowed := true, recurses := true, named := ["math/bits.divideError", "math/bits.overflowError"], apart := false, narrowed := true }
def GateCoversUptoSaid : Prop := gateCoversUptoRow.holds Try.pinned (OpenSpec.upto gateCoversSpec)

/-- 'spigotlaw35.CostRates', WHERE WHAT IT READS IS OF BULK AT MOST 1048576: true; the input reads as it did. -/
def costRatesUptoRow : OpenClaim := { program := "ytbkoahipcjknfaa", sum := "ed10e28864aedf03d52f6fc4b7749ab4e55375ce8adbdd6a3d3d525ea9f5c6a4", func := "spigot/spigotlaw35.CostRates", spec := "costRates", inPlace := ["math/bits.Add64", "math/bits.Sub64"], named := ["math/bits.divideError", "math/bits.overflowError"], apart := false, narrowed := true }
def CostRatesUptoSaid : Prop := costRatesUptoRow.holds Try.pinned (OpenSpec.upto costRatesSpec)

/-- 'spigotlaw35.CostLimits', WHERE WHAT IT READS IS OF BULK AT MOST 1048576: true; the input reads as it did. -/
def costLimitsUptoRow : OpenClaim := { program := "ytbkoahipcjknfaa", sum := "ed10e28864aedf03d52f6fc4b7749ab4e55375ce8adbdd6a3d3d525ea9f5c6a4", func := "spigot/spigotlaw35.CostLimits", spec := "costLimits", inPlace := ["math/bits.Add64", "math/bits.Sub64"], named := ["math/bits.divideError", "math/bits.overflowError"], apart := false, narrowed := true }
def CostLimitsUptoSaid : Prop := costLimitsUptoRow.holds Try.pinned (OpenSpec.upto costLimitsSpec)

end Rows
end Go.Proofs.Ytbkoahipcjknfaa
