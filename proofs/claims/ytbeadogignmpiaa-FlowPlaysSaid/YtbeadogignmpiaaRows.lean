/-
  No cell of these rows narrows 'for every input' (looked for: loops, veiled, ifaces, maps, wideKeys, modest, calm, conditions, laid).
  DERIVED. THE GIVEN ROWS OF THIS SEAT. 12 by the template 'for every input the law returns true; each argument reads behind the call as it read before'; 0 by the template 'total and deterministic' (their statements: YtbeadogignmpiaaTotals.lean).
  GIVEN WITH THE SEED: the statements are not yours to turn. If you find one false, say at which input.
  Laid BY PROGRAM, IN A SANDBOX (cutbox-rows.mjs): the forced cells as the released guide's own fill.sh prints them over the translation cae17fd215e4a3a2… (all of the seat's roots in one cut). By AI agents, Wed Nov 11 2026. No macro, syntax, notation, axiom, sorry.
-/
import Derived.Test.YtbeadogignmpiaaChecked
import GoSem.Claim
import GoSem.ClaimJoined
import GoSem.ClaimMapViews
import Derived.JoinedTies
import Derived.KernelRfl
namespace Go.Proofs.Ytbeadogignmpiaa
/- THE CELL 'sum', in the pinned program and in every row, IS THE sha256 OF THE DUMP (.gsa) THAT YtbeadogignmpiaaProg.lean LOADS. Nothing in Lean hashes anything: it is a label: what it is worth is what the hold of that sum in a sandbox is worth. -/
noncomputable def Try.pinned : Pinned := { name := "ytbeadogignmpiaa", sum := "cae17fd215e4a3a2e51ba68be1db0a047bf65b06e7f27174e44398fdf48f4aa5", checked := Try.checked }
namespace Rows
def none {H : Type} : Left H := { results := [], args := [] }

/-- 'spigotlaw01.CheckedFractions': WHATEVER THE INPUT: true; the input reads as it did. -/
def checkedFractionsSpec : ChangeSpec := { name := "checkedFractions", fn := fun _ => fun
  | [d1, d2, d3] => { results := [.lit (.bool true)], args := [d1, d2, d3] }
  | _ => none }
def checkedFractionsRow : OpenClaim := { program := "ytbeadogignmpiaa", sum := "cae17fd215e4a3a2e51ba68be1db0a047bf65b06e7f27174e44398fdf48f4aa5", func := "spigot/spigotlaw01.CheckedFractions", spec := "checkedFractions", inPlace := ["math/bits.Add64"], named := ["math/bits.divideError", "math/bits.overflowError"], apart := false }
def CheckedFractionsSaid : Prop := checkedFractionsRow.holds Try.pinned (OpenSpec.ofChange checkedFractionsSpec)

/-- ITS FALSE NEIGHBOUR: 'it returns false'. Refute it at one input. -/
def checkedFractionsWrong : ChangeSpec := { name := "checkedFractions", fn := fun _ => fun
  | [d1, d2, d3] => { results := [.lit (.bool false)], args := [d1, d2, d3] }
  | _ => none }
def CheckedFractionsWrongFalsely : Prop := checkedFractionsRow.holds Try.pinned (OpenSpec.ofChange checkedFractionsWrong)

/-- 'spigotlaw01.CheckedNext': WHATEVER THE INPUT: true; the input reads as it did. -/
def checkedNextSpec : ChangeSpec := { name := "checkedNext", fn := fun _ => fun
  | [d1, d2, d3] => { results := [.lit (.bool true)], args := [d1, d2, d3] }
  | _ => none }
def checkedNextRow : OpenClaim := { program := "ytbeadogignmpiaa", sum := "cae17fd215e4a3a2e51ba68be1db0a047bf65b06e7f27174e44398fdf48f4aa5", func := "spigot/spigotlaw01.CheckedNext", spec := "checkedNext", inPlace := ["math/bits.Add64"], named := ["math/bits.divideError", "math/bits.overflowError"], apart := false }
def CheckedNextSaid : Prop := checkedNextRow.holds Try.pinned (OpenSpec.ofChange checkedNextSpec)

/-- ITS FALSE NEIGHBOUR: 'it returns false'. Refute it at one input. -/
def checkedNextWrong : ChangeSpec := { name := "checkedNext", fn := fun _ => fun
  | [d1, d2, d3] => { results := [.lit (.bool false)], args := [d1, d2, d3] }
  | _ => none }
def CheckedNextWrongFalsely : Prop := checkedNextRow.holds Try.pinned (OpenSpec.ofChange checkedNextWrong)

/-- 'spigotlaw01.CheckedShares': WHATEVER THE INPUT: true; the input reads as it did. -/
def checkedSharesSpec : ChangeSpec := { name := "checkedShares", fn := fun _ => fun
  | [d1, d2, d3] => { results := [.lit (.bool true)], args := [d1, d2, d3] }
  | _ => none }
def checkedSharesRow : OpenClaim := { program := "ytbeadogignmpiaa", sum := "cae17fd215e4a3a2e51ba68be1db0a047bf65b06e7f27174e44398fdf48f4aa5", func := "spigot/spigotlaw01.CheckedShares", spec := "checkedShares", inPlace := ["math/bits.Add64"], named := ["math/bits.divideError", "math/bits.overflowError"], apart := false }
def CheckedSharesSaid : Prop := checkedSharesRow.holds Try.pinned (OpenSpec.ofChange checkedSharesSpec)

/-- ITS FALSE NEIGHBOUR: 'it returns false'. Refute it at one input. -/
def checkedSharesWrong : ChangeSpec := { name := "checkedShares", fn := fun _ => fun
  | [d1, d2, d3] => { results := [.lit (.bool false)], args := [d1, d2, d3] }
  | _ => none }
def CheckedSharesWrongFalsely : Prop := checkedSharesRow.holds Try.pinned (OpenSpec.ofChange checkedSharesWrong)

/-- 'spigotlaw01.CheckedProducts': WHATEVER THE INPUT: true; the input reads as it did. -/
def checkedProductsSpec : ChangeSpec := { name := "checkedProducts", fn := fun _ => fun
  | [d1, d2] => { results := [.lit (.bool true)], args := [d1, d2] }
  | _ => none }
def checkedProductsRow : OpenClaim := { program := "ytbeadogignmpiaa", sum := "cae17fd215e4a3a2e51ba68be1db0a047bf65b06e7f27174e44398fdf48f4aa5", func := "spigot/spigotlaw01.CheckedProducts", spec := "checkedProducts", inPlace := ["math/bits.Add64"], named := ["math/bits.divideError", "math/bits.overflowError"], apart := false }
def CheckedProductsSaid : Prop := checkedProductsRow.holds Try.pinned (OpenSpec.ofChange checkedProductsSpec)

/-- ITS FALSE NEIGHBOUR: 'it returns false'. Refute it at one input. -/
def checkedProductsWrong : ChangeSpec := { name := "checkedProducts", fn := fun _ => fun
  | [d1, d2] => { results := [.lit (.bool false)], args := [d1, d2] }
  | _ => none }
def CheckedProductsWrongFalsely : Prop := checkedProductsRow.holds Try.pinned (OpenSpec.ofChange checkedProductsWrong)

/-- 'spigotlaw25.FlowTargets': WHATEVER THE INPUT: true; the input reads as it did. -/
def flowTargetsSpec : ChangeSpec := { name := "flowTargets", fn := fun _ => fun
  | [d1, d2, d3] => { results := [.lit (.bool true)], args := [d1, d2, d3] }
  | _ => none }
def flowTargetsRow : OpenClaim := { program := "ytbeadogignmpiaa", sum := "cae17fd215e4a3a2e51ba68be1db0a047bf65b06e7f27174e44398fdf48f4aa5", func := "spigot/spigotlaw25.FlowTargets", spec := "flowTargets", inPlace := ["math/bits.Add64"], named := ["math/bits.divideError", "math/bits.overflowError"], apart := false }
def FlowTargetsSaid : Prop := flowTargetsRow.holds Try.pinned (OpenSpec.ofChange flowTargetsSpec)

/-- ITS FALSE NEIGHBOUR: 'it returns false'. Refute it at one input. -/
def flowTargetsWrong : ChangeSpec := { name := "flowTargets", fn := fun _ => fun
  | [d1, d2, d3] => { results := [.lit (.bool false)], args := [d1, d2, d3] }
  | _ => none }
def FlowTargetsWrongFalsely : Prop := flowTargetsRow.holds Try.pinned (OpenSpec.ofChange flowTargetsWrong)

/-- 'spigotlaw01.CheckedSums': WHATEVER THE INPUT: true; the input reads as it did. -/
def checkedSumsSpec : ChangeSpec := { name := "checkedSums", fn := fun _ => fun
  | [d1, d2] => { results := [.lit (.bool true)], args := [d1, d2] }
  | _ => none }
def checkedSumsRow : OpenClaim := { program := "ytbeadogignmpiaa", sum := "cae17fd215e4a3a2e51ba68be1db0a047bf65b06e7f27174e44398fdf48f4aa5", func := "spigot/spigotlaw01.CheckedSums", spec := "checkedSums", inPlace := ["math/bits.Add64"], named := ["math/bits.divideError", "math/bits.overflowError"], apart := false }
def CheckedSumsSaid : Prop := checkedSumsRow.holds Try.pinned (OpenSpec.ofChange checkedSumsSpec)

/-- ITS FALSE NEIGHBOUR: 'it returns false'. Refute it at one input. -/
def checkedSumsWrong : ChangeSpec := { name := "checkedSums", fn := fun _ => fun
  | [d1, d2] => { results := [.lit (.bool false)], args := [d1, d2] }
  | _ => none }
def CheckedSumsWrongFalsely : Prop := checkedSumsRow.holds Try.pinned (OpenSpec.ofChange checkedSumsWrong)

/-- 'spigotlaw01.CheckedUndone': WHATEVER THE INPUT: true; the input reads as it did. -/
def checkedUndoneSpec : ChangeSpec := { name := "checkedUndone", fn := fun _ => fun
  | [d1, d2] => { results := [.lit (.bool true)], args := [d1, d2] }
  | _ => none }
def checkedUndoneRow : OpenClaim := { program := "ytbeadogignmpiaa", sum := "cae17fd215e4a3a2e51ba68be1db0a047bf65b06e7f27174e44398fdf48f4aa5", func := "spigot/spigotlaw01.CheckedUndone", spec := "checkedUndone", inPlace := ["math/bits.Add64"], named := ["math/bits.divideError", "math/bits.overflowError"], apart := false }
def CheckedUndoneSaid : Prop := checkedUndoneRow.holds Try.pinned (OpenSpec.ofChange checkedUndoneSpec)

/-- ITS FALSE NEIGHBOUR: 'it returns false'. Refute it at one input. -/
def checkedUndoneWrong : ChangeSpec := { name := "checkedUndone", fn := fun _ => fun
  | [d1, d2] => { results := [.lit (.bool false)], args := [d1, d2] }
  | _ => none }
def CheckedUndoneWrongFalsely : Prop := checkedUndoneRow.holds Try.pinned (OpenSpec.ofChange checkedUndoneWrong)

/-- 'spigotlaw01.CheckedLess': WHATEVER THE INPUT: true; the input reads as it did. -/
def checkedLessSpec : ChangeSpec := { name := "checkedLess", fn := fun _ => fun
  | [d] => { results := [.lit (.bool true)], args := [d] }
  | _ => none }
def checkedLessRow : OpenClaim := { program := "ytbeadogignmpiaa", sum := "cae17fd215e4a3a2e51ba68be1db0a047bf65b06e7f27174e44398fdf48f4aa5", func := "spigot/spigotlaw01.CheckedLess", spec := "checkedLess", inPlace := ["math/bits.Add64"], named := ["math/bits.divideError", "math/bits.overflowError"], apart := false }
def CheckedLessSaid : Prop := checkedLessRow.holds Try.pinned (OpenSpec.ofChange checkedLessSpec)

/-- ITS FALSE NEIGHBOUR: 'it returns false'. Refute it at one input. -/
def checkedLessWrong : ChangeSpec := { name := "checkedLess", fn := fun _ => fun
  | [d] => { results := [.lit (.bool false)], args := [d] }
  | _ => none }
def CheckedLessWrongFalsely : Prop := checkedLessRow.holds Try.pinned (OpenSpec.ofChange checkedLessWrong)

/-- 'spigotlaw25.FlowRises': WHATEVER THE INPUT: true; the input reads as it did. -/
def flowRisesSpec : ChangeSpec := { name := "flowRises", fn := fun _ => fun
  | [d1, d2, d3] => { results := [.lit (.bool true)], args := [d1, d2, d3] }
  | _ => none }
def flowRisesRow : OpenClaim := { program := "ytbeadogignmpiaa", sum := "cae17fd215e4a3a2e51ba68be1db0a047bf65b06e7f27174e44398fdf48f4aa5", func := "spigot/spigotlaw25.FlowRises", spec := "flowRises", inPlace := ["math/bits.Add64"], named := ["math/bits.divideError", "math/bits.overflowError"], apart := false }
def FlowRisesSaid : Prop := flowRisesRow.holds Try.pinned (OpenSpec.ofChange flowRisesSpec)

/-- ITS FALSE NEIGHBOUR: 'it returns false'. Refute it at one input. -/
def flowRisesWrong : ChangeSpec := { name := "flowRises", fn := fun _ => fun
  | [d1, d2, d3] => { results := [.lit (.bool false)], args := [d1, d2, d3] }
  | _ => none }
def FlowRisesWrongFalsely : Prop := flowRisesRow.holds Try.pinned (OpenSpec.ofChange flowRisesWrong)

/-- 'spigotlaw25.FlowNone': WHATEVER THE INPUT: true; the input reads as it did. -/
def flowNoneSpec : ChangeSpec := { name := "flowNone", fn := fun _ => fun
  | [d] => { results := [.lit (.bool true)], args := [d] }
  | _ => none }
def flowNoneRow : OpenClaim := { program := "ytbeadogignmpiaa", sum := "cae17fd215e4a3a2e51ba68be1db0a047bf65b06e7f27174e44398fdf48f4aa5", func := "spigot/spigotlaw25.FlowNone", spec := "flowNone", inPlace := ["math/bits.Add64"], named := ["math/bits.divideError", "math/bits.overflowError"], apart := false }
def FlowNoneSaid : Prop := flowNoneRow.holds Try.pinned (OpenSpec.ofChange flowNoneSpec)

/-- ITS FALSE NEIGHBOUR: 'it returns false'. Refute it at one input. -/
def flowNoneWrong : ChangeSpec := { name := "flowNone", fn := fun _ => fun
  | [d] => { results := [.lit (.bool false)], args := [d] }
  | _ => none }
def FlowNoneWrongFalsely : Prop := flowNoneRow.holds Try.pinned (OpenSpec.ofChange flowNoneWrong)

/-- 'spigotlaw25.FlowPlays': WHATEVER THE INPUT: true; the input reads as it did. -/
def flowPlaysSpec : ChangeSpec := { name := "flowPlays", fn := fun _ => fun
  | [d1, d2] => { results := [.lit (.bool true)], args := [d1, d2] }
  | _ => none }
def flowPlaysRow : OpenClaim := { program := "ytbeadogignmpiaa", sum := "cae17fd215e4a3a2e51ba68be1db0a047bf65b06e7f27174e44398fdf48f4aa5", func := "spigot/spigotlaw25.FlowPlays", spec := "flowPlays", inPlace := ["math/bits.Add64"], named := ["math/bits.divideError", "math/bits.overflowError"], apart := false }
def FlowPlaysSaid : Prop := flowPlaysRow.holds Try.pinned (OpenSpec.ofChange flowPlaysSpec)

/-- ITS FALSE NEIGHBOUR: 'it returns false'. Refute it at one input. -/
def flowPlaysWrong : ChangeSpec := { name := "flowPlays", fn := fun _ => fun
  | [d1, d2] => { results := [.lit (.bool false)], args := [d1, d2] }
  | _ => none }
def FlowPlaysWrongFalsely : Prop := flowPlaysRow.holds Try.pinned (OpenSpec.ofChange flowPlaysWrong)

/-- 'spigotlaw01.CheckedTotals': WHATEVER THE INPUT: true; the input reads as it did. -/
def checkedTotalsSpec : ChangeSpec := { name := "checkedTotals", fn := fun _ => fun
  | [d] => { results := [.lit (.bool true)], args := [d] }
  | _ => none }
def checkedTotalsRow : OpenClaim := { program := "ytbeadogignmpiaa", sum := "cae17fd215e4a3a2e51ba68be1db0a047bf65b06e7f27174e44398fdf48f4aa5", func := "spigot/spigotlaw01.CheckedTotals", spec := "checkedTotals", inPlace := ["math/bits.Add64", "math/bits.Sub64"], named := ["math/bits.divideError", "math/bits.overflowError"], apart := false }
def CheckedTotalsSaid : Prop := checkedTotalsRow.holds Try.pinned (OpenSpec.ofChange checkedTotalsSpec)

/-- ITS FALSE NEIGHBOUR: 'it returns false'. Refute it at one input. -/
def checkedTotalsWrong : ChangeSpec := { name := "checkedTotals", fn := fun _ => fun
  | [d] => { results := [.lit (.bool false)], args := [d] }
  | _ => none }
def CheckedTotalsWrongFalsely : Prop := checkedTotalsRow.holds Try.pinned (OpenSpec.ofChange checkedTotalsWrong)

/- THE SECOND FORM. 'bulk': how many values and letters a reading holds, each counted each time it is reached (what is shared counts as often as it is met; a slice's spare places count too). A statement '..UptoSaid' is the law's where the arguments, and the package variables that the reading takes, are together of bulk at most 1048576: NARROWER than '..Said'. Prove '..Said' where nothing that the law and all that it calls make is longer than what came in: it says more and counts as full. Else prove '..UptoSaid'. A law counts once. -/
mutual
def uptoBulk {H : Type} : DataW H → Nat
  | .lit (.string bytes) => bytes.length + 1
  | .lit _ => 1
  | .nil => 1
  | .ptr d => uptoBulk d + 1
  | .slice elems spare => uptoBulkAll elems + uptoBulkAll spare + 1
  | .agg parts => uptoBulkAll parts + 1
  | .iface _ d => uptoBulk d + 1
  | .map entries => uptoBulkEntries entries + 1
  | .held _ => 1
def uptoBulkAll {H : Type} : List (DataW H) → Nat
  | [] => 0
  | d :: r => uptoBulk d + uptoBulkAll r
def uptoBulkEntries {H : Type} : List (Lit × DataW H) → Nat
  | [] => 0
  | x :: r => uptoBulkEntry x + uptoBulkEntries r
def uptoBulkEntry {H : Type} : Lit × DataW H → Nat
  | (.string bytes, d) => bytes.length + uptoBulk d + 1
  | (_, d) => uptoBulk d + 1
 end
def uptoSmall : (H : Type) → List (DataW H) → Bool := fun _ ds => decide (uptoBulkAll ds ≤ 1048576)
def OpenSpec.upto (s : _root_.Go.ChangeSpec) : _root_.Go.OpenSpec := { _root_.Go.OpenSpec.ofChange s with cond := some uptoSmall }

/-- 'spigotlaw01.CheckedFractions', WHERE WHAT IT READS IS OF BULK AT MOST 1048576: true; the input reads as it did. -/
def checkedFractionsUptoRow : OpenClaim := { program := "ytbeadogignmpiaa", sum := "cae17fd215e4a3a2e51ba68be1db0a047bf65b06e7f27174e44398fdf48f4aa5", func := "spigot/spigotlaw01.CheckedFractions", spec := "checkedFractions", inPlace := ["math/bits.Add64"], named := ["math/bits.divideError", "math/bits.overflowError"], apart := false, narrowed := true }
def CheckedFractionsUptoSaid : Prop := checkedFractionsUptoRow.holds Try.pinned (OpenSpec.upto checkedFractionsSpec)

/-- 'spigotlaw01.CheckedNext', WHERE WHAT IT READS IS OF BULK AT MOST 1048576: true; the input reads as it did. -/
def checkedNextUptoRow : OpenClaim := { program := "ytbeadogignmpiaa", sum := "cae17fd215e4a3a2e51ba68be1db0a047bf65b06e7f27174e44398fdf48f4aa5", func := "spigot/spigotlaw01.CheckedNext", spec := "checkedNext", inPlace := ["math/bits.Add64"], named := ["math/bits.divideError", "math/bits.overflowError"], apart := false, narrowed := true }
def CheckedNextUptoSaid : Prop := checkedNextUptoRow.holds Try.pinned (OpenSpec.upto checkedNextSpec)

/-- 'spigotlaw01.CheckedShares', WHERE WHAT IT READS IS OF BULK AT MOST 1048576: true; the input reads as it did. -/
def checkedSharesUptoRow : OpenClaim := { program := "ytbeadogignmpiaa", sum := "cae17fd215e4a3a2e51ba68be1db0a047bf65b06e7f27174e44398fdf48f4aa5", func := "spigot/spigotlaw01.CheckedShares", spec := "checkedShares", inPlace := ["math/bits.Add64"], named := ["math/bits.divideError", "math/bits.overflowError"], apart := false, narrowed := true }
def CheckedSharesUptoSaid : Prop := checkedSharesUptoRow.holds Try.pinned (OpenSpec.upto checkedSharesSpec)

/-- 'spigotlaw01.CheckedProducts', WHERE WHAT IT READS IS OF BULK AT MOST 1048576: true; the input reads as it did. -/
def checkedProductsUptoRow : OpenClaim := { program := "ytbeadogignmpiaa", sum := "cae17fd215e4a3a2e51ba68be1db0a047bf65b06e7f27174e44398fdf48f4aa5", func := "spigot/spigotlaw01.CheckedProducts", spec := "checkedProducts", inPlace := ["math/bits.Add64"], named := ["math/bits.divideError", "math/bits.overflowError"], apart := false, narrowed := true }
def CheckedProductsUptoSaid : Prop := checkedProductsUptoRow.holds Try.pinned (OpenSpec.upto checkedProductsSpec)

/-- 'spigotlaw25.FlowTargets', WHERE WHAT IT READS IS OF BULK AT MOST 1048576: true; the input reads as it did. -/
def flowTargetsUptoRow : OpenClaim := { program := "ytbeadogignmpiaa", sum := "cae17fd215e4a3a2e51ba68be1db0a047bf65b06e7f27174e44398fdf48f4aa5", func := "spigot/spigotlaw25.FlowTargets", spec := "flowTargets", inPlace := ["math/bits.Add64"], named := ["math/bits.divideError", "math/bits.overflowError"], apart := false, narrowed := true }
def FlowTargetsUptoSaid : Prop := flowTargetsUptoRow.holds Try.pinned (OpenSpec.upto flowTargetsSpec)

/-- 'spigotlaw01.CheckedSums', WHERE WHAT IT READS IS OF BULK AT MOST 1048576: true; the input reads as it did. -/
def checkedSumsUptoRow : OpenClaim := { program := "ytbeadogignmpiaa", sum := "cae17fd215e4a3a2e51ba68be1db0a047bf65b06e7f27174e44398fdf48f4aa5", func := "spigot/spigotlaw01.CheckedSums", spec := "checkedSums", inPlace := ["math/bits.Add64"], named := ["math/bits.divideError", "math/bits.overflowError"], apart := false, narrowed := true }
def CheckedSumsUptoSaid : Prop := checkedSumsUptoRow.holds Try.pinned (OpenSpec.upto checkedSumsSpec)

/-- 'spigotlaw01.CheckedUndone', WHERE WHAT IT READS IS OF BULK AT MOST 1048576: true; the input reads as it did. -/
def checkedUndoneUptoRow : OpenClaim := { program := "ytbeadogignmpiaa", sum := "cae17fd215e4a3a2e51ba68be1db0a047bf65b06e7f27174e44398fdf48f4aa5", func := "spigot/spigotlaw01.CheckedUndone", spec := "checkedUndone", inPlace := ["math/bits.Add64"], named := ["math/bits.divideError", "math/bits.overflowError"], apart := false, narrowed := true }
def CheckedUndoneUptoSaid : Prop := checkedUndoneUptoRow.holds Try.pinned (OpenSpec.upto checkedUndoneSpec)

/-- 'spigotlaw01.CheckedLess', WHERE WHAT IT READS IS OF BULK AT MOST 1048576: true; the input reads as it did. -/
def checkedLessUptoRow : OpenClaim := { program := "ytbeadogignmpiaa", sum := "cae17fd215e4a3a2e51ba68be1db0a047bf65b06e7f27174e44398fdf48f4aa5", func := "spigot/spigotlaw01.CheckedLess", spec := "checkedLess", inPlace := ["math/bits.Add64"], named := ["math/bits.divideError", "math/bits.overflowError"], apart := false, narrowed := true }
def CheckedLessUptoSaid : Prop := checkedLessUptoRow.holds Try.pinned (OpenSpec.upto checkedLessSpec)

/-- 'spigotlaw25.FlowRises', WHERE WHAT IT READS IS OF BULK AT MOST 1048576: true; the input reads as it did. -/
def flowRisesUptoRow : OpenClaim := { program := "ytbeadogignmpiaa", sum := "cae17fd215e4a3a2e51ba68be1db0a047bf65b06e7f27174e44398fdf48f4aa5", func := "spigot/spigotlaw25.FlowRises", spec := "flowRises", inPlace := ["math/bits.Add64"], named := ["math/bits.divideError", "math/bits.overflowError"], apart := false, narrowed := true }
def FlowRisesUptoSaid : Prop := flowRisesUptoRow.holds Try.pinned (OpenSpec.upto flowRisesSpec)

/-- 'spigotlaw25.FlowNone', WHERE WHAT IT READS IS OF BULK AT MOST 1048576: true; the input reads as it did. -/
def flowNoneUptoRow : OpenClaim := { program := "ytbeadogignmpiaa", sum := "cae17fd215e4a3a2e51ba68be1db0a047bf65b06e7f27174e44398fdf48f4aa5", func := "spigot/spigotlaw25.FlowNone", spec := "flowNone", inPlace := ["math/bits.Add64"], named := ["math/bits.divideError", "math/bits.overflowError"], apart := false, narrowed := true }
def FlowNoneUptoSaid : Prop := flowNoneUptoRow.holds Try.pinned (OpenSpec.upto flowNoneSpec)

/-- 'spigotlaw25.FlowPlays', WHERE WHAT IT READS IS OF BULK AT MOST 1048576: true; the input reads as it did. -/
def flowPlaysUptoRow : OpenClaim := { program := "ytbeadogignmpiaa", sum := "cae17fd215e4a3a2e51ba68be1db0a047bf65b06e7f27174e44398fdf48f4aa5", func := "spigot/spigotlaw25.FlowPlays", spec := "flowPlays", inPlace := ["math/bits.Add64"], named := ["math/bits.divideError", "math/bits.overflowError"], apart := false, narrowed := true }
def FlowPlaysUptoSaid : Prop := flowPlaysUptoRow.holds Try.pinned (OpenSpec.upto flowPlaysSpec)

/-- 'spigotlaw01.CheckedTotals', WHERE WHAT IT READS IS OF BULK AT MOST 1048576: true; the input reads as it did. -/
def checkedTotalsUptoRow : OpenClaim := { program := "ytbeadogignmpiaa", sum := "cae17fd215e4a3a2e51ba68be1db0a047bf65b06e7f27174e44398fdf48f4aa5", func := "spigot/spigotlaw01.CheckedTotals", spec := "checkedTotals", inPlace := ["math/bits.Add64", "math/bits.Sub64"], named := ["math/bits.divideError", "math/bits.overflowError"], apart := false, narrowed := true }
def CheckedTotalsUptoSaid : Prop := checkedTotalsUptoRow.holds Try.pinned (OpenSpec.upto checkedTotalsSpec)

end Rows
end Go.Proofs.Ytbeadogignmpiaa
