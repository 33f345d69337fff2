/-
  No cell of these rows narrows 'for every input' (looked for: loops, veiled, ifaces, maps, wideKeys, modest, calm, conditions, laid).
  DERIVED. THE GIVEN ROWS OF THIS SEAT. 12 by the template 'for every input the law returns true; each argument reads behind the call as it read before'; 0 by the template 'total and deterministic' (their statements: YthnmpnilcdnimaaTotals.lean).
  GIVEN WITH THE SEED: the statements are not yours to turn. If you find one false, say at which input.
  Laid BY PROGRAM, IN A SANDBOX (cutbox-rows.mjs): the forced cells as the released guide's own fill.sh prints them over the translation 9bdf8ad880b9c278… (all of the seat's roots in one cut). By AI agents, Wed Nov 11 2026. No macro, syntax, notation, axiom, sorry.
-/
import Derived.Test.YthnmpnilcdnimaaChecked
import GoSem.Claim
import GoSem.ClaimJoined
import GoSem.ClaimMapViews
import Derived.JoinedTies
import Derived.KernelRfl
namespace Go.Proofs.Ythnmpnilcdnimaa
/- THE CELL 'sum', in the pinned program and in every row, IS THE sha256 OF THE DUMP (.gsa) THAT YthnmpnilcdnimaaProg.lean LOADS. Nothing in Lean hashes anything: it is a label: what it is worth is what the hold of that sum in a sandbox is worth. -/
noncomputable def Try.pinned : Pinned := { name := "ythnmpnilcdnimaa", sum := "9bdf8ad880b9c27807d1c6bd096b35ec87d21bc21fae4db4f75be7d5309dc7d5", checked := Try.checked }
namespace Rows
def none {H : Type} : Left H := { results := [], args := [] }

/-- 'spigotlaw18.PositionPlays': WHATEVER THE INPUT: true; the input reads as it did. -/
def positionPlaysSpec : ChangeSpec := { name := "positionPlays", fn := fun _ => fun
  | [d1, d2, d3] => { results := [.lit (.bool true)], args := [d1, d2, d3] }
  | _ => none }
def positionPlaysRow : OpenClaim := { program := "ythnmpnilcdnimaa", sum := "9bdf8ad880b9c27807d1c6bd096b35ec87d21bc21fae4db4f75be7d5309dc7d5", func := "spigot/spigotlaw18.PositionPlays", spec := "positionPlays", apart := false }
def PositionPlaysSaid : Prop := positionPlaysRow.holds Try.pinned (OpenSpec.ofChange positionPlaysSpec)

/-- ITS FALSE NEIGHBOUR: 'it returns false'. Refute it at one input. -/
def positionPlaysWrong : ChangeSpec := { name := "positionPlays", fn := fun _ => fun
  | [d1, d2, d3] => { results := [.lit (.bool false)], args := [d1, d2, d3] }
  | _ => none }
def PositionPlaysWrongFalsely : Prop := positionPlaysRow.holds Try.pinned (OpenSpec.ofChange positionPlaysWrong)

/-- 'spigotlaw18.PositionNone': WHATEVER THE INPUT: true; the input reads as it did. -/
def positionNoneSpec : ChangeSpec := { name := "positionNone", fn := fun _ => fun
  | [d] => { results := [.lit (.bool true)], args := [d] }
  | _ => none }
def positionNoneRow : OpenClaim := { program := "ythnmpnilcdnimaa", sum := "9bdf8ad880b9c27807d1c6bd096b35ec87d21bc21fae4db4f75be7d5309dc7d5", func := "spigot/spigotlaw18.PositionNone", spec := "positionNone", apart := false }
def PositionNoneSaid : Prop := positionNoneRow.holds Try.pinned (OpenSpec.ofChange positionNoneSpec)

/-- ITS FALSE NEIGHBOUR: 'it returns false'. Refute it at one input. -/
def positionNoneWrong : ChangeSpec := { name := "positionNone", fn := fun _ => fun
  | [d] => { results := [.lit (.bool false)], args := [d] }
  | _ => none }
def PositionNoneWrongFalsely : Prop := positionNoneRow.holds Try.pinned (OpenSpec.ofChange positionNoneWrong)

/-- 'spigotlaw18.PositionTurned': WHATEVER THE INPUT: true; the input reads as it did. -/
def positionTurnedSpec : ChangeSpec := { name := "positionTurned", fn := fun _ => fun
  | [d1, d2] => { results := [.lit (.bool true)], args := [d1, d2] }
  | _ => none }
def positionTurnedRow : OpenClaim := { program := "ythnmpnilcdnimaa", sum := "9bdf8ad880b9c27807d1c6bd096b35ec87d21bc21fae4db4f75be7d5309dc7d5", func := "spigot/spigotlaw18.PositionTurned", spec := "positionTurned", apart := false }
def PositionTurnedSaid : Prop := positionTurnedRow.holds Try.pinned (OpenSpec.ofChange positionTurnedSpec)

/-- ITS FALSE NEIGHBOUR: 'it returns false'. Refute it at one input. -/
def positionTurnedWrong : ChangeSpec := { name := "positionTurned", fn := fun _ => fun
  | [d1, d2] => { results := [.lit (.bool false)], args := [d1, d2] }
  | _ => none }
def PositionTurnedWrongFalsely : Prop := positionTurnedRow.holds Try.pinned (OpenSpec.ofChange positionTurnedWrong)

/-- 'spigotlaw26.BergTargets': WHATEVER THE INPUT: true; the input reads as it did. -/
def bergTargetsSpec : ChangeSpec := { name := "bergTargets", fn := fun _ => fun
  | [d1, d2, d3] => { results := [.lit (.bool true)], args := [d1, d2, d3] }
  | _ => none }
def bergTargetsRow : OpenClaim := { program := "ythnmpnilcdnimaa", sum := "9bdf8ad880b9c27807d1c6bd096b35ec87d21bc21fae4db4f75be7d5309dc7d5", func := "spigot/spigotlaw26.BergTargets", spec := "bergTargets", inPlace := ["math/bits.Add64"], named := ["math/bits.divideError", "math/bits.overflowError"], apart := false }
def BergTargetsSaid : Prop := bergTargetsRow.holds Try.pinned (OpenSpec.ofChange bergTargetsSpec)

/-- ITS FALSE NEIGHBOUR: 'it returns false'. Refute it at one input. -/
def bergTargetsWrong : ChangeSpec := { name := "bergTargets", fn := fun _ => fun
  | [d1, d2, d3] => { results := [.lit (.bool false)], args := [d1, d2, d3] }
  | _ => none }
def BergTargetsWrongFalsely : Prop := bergTargetsRow.holds Try.pinned (OpenSpec.ofChange bergTargetsWrong)

/-- 'spigotlaw26.BergMelts': WHATEVER THE INPUT: true; the input reads as it did. -/
def bergMeltsSpec : ChangeSpec := { name := "bergMelts", fn := fun _ => fun
  | [d1, d2] => { results := [.lit (.bool true)], args := [d1, d2] }
  | _ => none }
def bergMeltsRow : OpenClaim := { program := "ythnmpnilcdnimaa", sum := "9bdf8ad880b9c27807d1c6bd096b35ec87d21bc21fae4db4f75be7d5309dc7d5", func := "spigot/spigotlaw26.BergMelts", spec := "bergMelts", inPlace := ["math/bits.Add64"], named := ["math/bits.divideError", "math/bits.overflowError"], apart := false }
def BergMeltsSaid : Prop := bergMeltsRow.holds Try.pinned (OpenSpec.ofChange bergMeltsSpec)

/-- ITS FALSE NEIGHBOUR: 'it returns false'. Refute it at one input. -/
def bergMeltsWrong : ChangeSpec := { name := "bergMelts", fn := fun _ => fun
  | [d1, d2] => { results := [.lit (.bool false)], args := [d1, d2] }
  | _ => none }
def BergMeltsWrongFalsely : Prop := bergMeltsRow.holds Try.pinned (OpenSpec.ofChange bergMeltsWrong)

/-- 'spigotlaw02.GrainBands': WHATEVER THE INPUT: true; the input reads as it did. -/
def grainBandsSpec : ChangeSpec := { name := "grainBands", fn := fun _ => fun
  | [d1, d2, d3] => { results := [.lit (.bool true)], args := [d1, d2, d3] }
  | _ => none }
def grainBandsRow : OpenClaim := { program := "ythnmpnilcdnimaa", sum := "9bdf8ad880b9c27807d1c6bd096b35ec87d21bc21fae4db4f75be7d5309dc7d5", func := "spigot/spigotlaw02.GrainBands", spec := "grainBands", inPlace := ["math/bits.Add64"], unfollowed := true, recurses := true, named := ["math/bits.divideError", "math/bits.overflowError"], apart := false }
def GrainBandsSaid : Prop := grainBandsRow.holds Try.pinned (OpenSpec.ofChange grainBandsSpec)

/-- ITS FALSE NEIGHBOUR: 'it returns false'. Refute it at one input. -/
def grainBandsWrong : ChangeSpec := { name := "grainBands", fn := fun _ => fun
  | [d1, d2, d3] => { results := [.lit (.bool false)], args := [d1, d2, d3] }
  | _ => none }
def GrainBandsWrongFalsely : Prop := grainBandsRow.holds Try.pinned (OpenSpec.ofChange grainBandsWrong)

/-- 'spigotlaw02.GrainSteps': WHATEVER THE INPUT: true; the input reads as it did. -/
def grainStepsSpec : ChangeSpec := { name := "grainSteps", fn := fun _ => fun
  | [d1, d2] => { results := [.lit (.bool true)], args := [d1, d2] }
  | _ => none }
def grainStepsRow : OpenClaim := { program := "ythnmpnilcdnimaa", sum := "9bdf8ad880b9c27807d1c6bd096b35ec87d21bc21fae4db4f75be7d5309dc7d5", func := "spigot/spigotlaw02.GrainSteps", spec := "grainSteps", inPlace := ["math/bits.Add64"], unfollowed := true, recurses := true, named := ["math/bits.divideError", "math/bits.overflowError"], apart := false }
def GrainStepsSaid : Prop := grainStepsRow.holds Try.pinned (OpenSpec.ofChange grainStepsSpec)

/-- ITS FALSE NEIGHBOUR: 'it returns false'. Refute it at one input. -/
def grainStepsWrong : ChangeSpec := { name := "grainSteps", fn := fun _ => fun
  | [d1, d2] => { results := [.lit (.bool false)], args := [d1, d2] }
  | _ => none }
def GrainStepsWrongFalsely : Prop := grainStepsRow.holds Try.pinned (OpenSpec.ofChange grainStepsWrong)

/-- 'spigotlaw02.GrainNear': WHATEVER THE INPUT: true; the input reads as it did. -/
def grainNearSpec : ChangeSpec := { name := "grainNear", fn := fun _ => fun
  | [d1, d2] => { results := [.lit (.bool true)], args := [d1, d2] }
  | _ => none }
def grainNearRow : OpenClaim := { program := "ythnmpnilcdnimaa", sum := "9bdf8ad880b9c27807d1c6bd096b35ec87d21bc21fae4db4f75be7d5309dc7d5", func := "spigot/spigotlaw02.GrainNear", spec := "grainNear", inPlace := ["math/bits.Add64"], unfollowed := true, recurses := true, named := ["math/bits.divideError", "math/bits.overflowError"], apart := false }
def GrainNearSaid : Prop := grainNearRow.holds Try.pinned (OpenSpec.ofChange grainNearSpec)

/-- ITS FALSE NEIGHBOUR: 'it returns false'. Refute it at one input. -/
def grainNearWrong : ChangeSpec := { name := "grainNear", fn := fun _ => fun
  | [d1, d2] => { results := [.lit (.bool false)], args := [d1, d2] }
  | _ => none }
def GrainNearWrongFalsely : Prop := grainNearRow.holds Try.pinned (OpenSpec.ofChange grainNearWrong)

/-- 'spigotlaw02.GrainInside': WHATEVER THE INPUT: true; the input reads as it did. -/
def grainInsideSpec : ChangeSpec := { name := "grainInside", fn := fun _ => fun
  | [d1, d2, d3] => { results := [.lit (.bool true)], args := [d1, d2, d3] }
  | _ => none }
def grainInsideRow : OpenClaim := { program := "ythnmpnilcdnimaa", sum := "9bdf8ad880b9c27807d1c6bd096b35ec87d21bc21fae4db4f75be7d5309dc7d5", func := "spigot/spigotlaw02.GrainInside", spec := "grainInside", inPlace := ["math/bits.Add64"], unfollowed := true, recurses := true, named := ["math/bits.divideError", "math/bits.overflowError"], apart := false }
def GrainInsideSaid : Prop := grainInsideRow.holds Try.pinned (OpenSpec.ofChange grainInsideSpec)

/-- ITS FALSE NEIGHBOUR: 'it returns false'. Refute it at one input. -/
def grainInsideWrong : ChangeSpec := { name := "grainInside", fn := fun _ => fun
  | [d1, d2, d3] => { results := [.lit (.bool false)], args := [d1, d2, d3] }
  | _ => none }
def GrainInsideWrongFalsely : Prop := grainInsideRow.holds Try.pinned (OpenSpec.ofChange grainInsideWrong)

/-- 'spigotlaw02.GrainWorth': WHATEVER THE INPUT: true; the input reads as it did. -/
def grainWorthSpec : ChangeSpec := { name := "grainWorth", fn := fun _ => fun
  | [d1, d2] => { results := [.lit (.bool true)], args := [d1, d2] }
  | _ => none }
def grainWorthRow : OpenClaim := { program := "ythnmpnilcdnimaa", sum := "9bdf8ad880b9c27807d1c6bd096b35ec87d21bc21fae4db4f75be7d5309dc7d5", func := "spigot/spigotlaw02.GrainWorth", spec := "grainWorth", inPlace := ["math/bits.Add64"], unfollowed := true, recurses := true, named := ["math/bits.divideError", "math/bits.overflowError"], apart := false }
def GrainWorthSaid : Prop := grainWorthRow.holds Try.pinned (OpenSpec.ofChange grainWorthSpec)

/-- ITS FALSE NEIGHBOUR: 'it returns false'. Refute it at one input. -/
def grainWorthWrong : ChangeSpec := { name := "grainWorth", fn := fun _ => fun
  | [d1, d2] => { results := [.lit (.bool false)], args := [d1, d2] }
  | _ => none }
def GrainWorthWrongFalsely : Prop := grainWorthRow.holds Try.pinned (OpenSpec.ofChange grainWorthWrong)

/-- 'spigotlaw02.GrainGood': WHATEVER THE INPUT: true; the input reads as it did. -/
def grainGoodSpec : ChangeSpec := { name := "grainGood", fn := fun _ => fun
  | [d] => { results := [.lit (.bool true)], args := [d] }
  | _ => none }
def grainGoodRow : OpenClaim := { program := "ythnmpnilcdnimaa", sum := "9bdf8ad880b9c27807d1c6bd096b35ec87d21bc21fae4db4f75be7d5309dc7d5", func := "spigot/spigotlaw02.GrainGood", spec := "grainGood", inPlace := ["math/bits.Add64"], unfollowed := true, recurses := true, named := ["math/bits.divideError", "math/bits.overflowError"], apart := false }
def GrainGoodSaid : Prop := grainGoodRow.holds Try.pinned (OpenSpec.ofChange grainGoodSpec)

/-- ITS FALSE NEIGHBOUR: 'it returns false'. Refute it at one input. -/
def grainGoodWrong : ChangeSpec := { name := "grainGood", fn := fun _ => fun
  | [d] => { results := [.lit (.bool false)], args := [d] }
  | _ => none }
def GrainGoodWrongFalsely : Prop := grainGoodRow.holds Try.pinned (OpenSpec.ofChange grainGoodWrong)

/-- 'spigotlaw02.GrainMost': WHATEVER THE INPUT: true; the input reads as it did. -/
def grainMostSpec : ChangeSpec := { name := "grainMost", fn := fun _ => fun
  | [d1, d2] => { results := [.lit (.bool true)], args := [d1, d2] }
  | _ => none }
def grainMostRow : OpenClaim := { program := "ythnmpnilcdnimaa", sum := "9bdf8ad880b9c27807d1c6bd096b35ec87d21bc21fae4db4f75be7d5309dc7d5", func := "spigot/spigotlaw02.GrainMost", spec := "grainMost", inPlace := ["math/bits.Add64"], unfollowed := true, recurses := true, named := ["math/bits.divideError", "math/bits.overflowError"], apart := false }
def GrainMostSaid : Prop := grainMostRow.holds Try.pinned (OpenSpec.ofChange grainMostSpec)

/-- ITS FALSE NEIGHBOUR: 'it returns false'. Refute it at one input. -/
def grainMostWrong : ChangeSpec := { name := "grainMost", fn := fun _ => fun
  | [d1, d2] => { results := [.lit (.bool false)], args := [d1, d2] }
  | _ => none }
def GrainMostWrongFalsely : Prop := grainMostRow.holds Try.pinned (OpenSpec.ofChange grainMostWrong)

/- THE SECOND FORM. 'bulk': how many values and letters a reading holds, each counted each time it is reached (what is shared counts as often as it is met; a slice's spare places count too). A statement '..UptoSaid' is the law's where the arguments, and the package variables that the reading takes, are together of bulk at most 1048576: NARROWER than '..Said'. Prove '..Said' where nothing that the law and all that it calls make is longer than what came in: it says more and counts as full. Else prove '..UptoSaid'. A law counts once. -/
mutual
def uptoBulk {H : Type} : DataW H → Nat
  | .lit (.string bytes) => bytes.length + 1
  | .lit _ => 1
  | .nil => 1
  | .ptr d => uptoBulk d + 1
  | .slice elems spare => uptoBulkAll elems + uptoBulkAll spare + 1
  | .agg parts => uptoBulkAll parts + 1
  | .iface _ d => uptoBulk d + 1
  | .map entries => uptoBulkEntries entries + 1
  | .held _ => 1
def uptoBulkAll {H : Type} : List (DataW H) → Nat
  | [] => 0
  | d :: r => uptoBulk d + uptoBulkAll r
def uptoBulkEntries {H : Type} : List (Lit × DataW H) → Nat
  | [] => 0
  | x :: r => uptoBulkEntry x + uptoBulkEntries r
def uptoBulkEntry {H : Type} : Lit × DataW H → Nat
  | (.string bytes, d) => bytes.length + uptoBulk d + 1
  | (_, d) => uptoBulk d + 1
 end
def uptoSmall : (H : Type) → List (DataW H) → Bool := fun _ ds => decide (uptoBulkAll ds ≤ 1048576)
def OpenSpec.upto (s : _root_.Go.ChangeSpec) : _root_.Go.OpenSpec := { _root_.Go.OpenSpec.ofChange s with cond := some uptoSmall }

/-- 'spigotlaw18.PositionPlays', WHERE WHAT IT READS IS OF BULK AT MOST 1048576: true; the input reads as it did. -/
def positionPlaysUptoRow : OpenClaim := { program := "ythnmpnilcdnimaa", sum := "9bdf8ad880b9c27807d1c6bd096b35ec87d21bc21fae4db4f75be7d5309dc7d5", func := "spigot/spigotlaw18.PositionPlays", spec := "positionPlays", apart := false, narrowed := true }
def PositionPlaysUptoSaid : Prop := positionPlaysUptoRow.holds Try.pinned (OpenSpec.upto positionPlaysSpec)

/-- 'spigotlaw18.PositionNone', WHERE WHAT IT READS IS OF BULK AT MOST 1048576: true; the input reads as it did. -/
def positionNoneUptoRow : OpenClaim := { program := "ythnmpnilcdnimaa", sum := "9bdf8ad880b9c27807d1c6bd096b35ec87d21bc21fae4db4f75be7d5309dc7d5", func := "spigot/spigotlaw18.PositionNone", spec := "positionNone", apart := false, narrowed := true }
def PositionNoneUptoSaid : Prop := positionNoneUptoRow.holds Try.pinned (OpenSpec.upto positionNoneSpec)

/-- 'spigotlaw18.PositionTurned', WHERE WHAT IT READS IS OF BULK AT MOST 1048576: true; the input reads as it did. -/
def positionTurnedUptoRow : OpenClaim := { program := "ythnmpnilcdnimaa", sum := "9bdf8ad880b9c27807d1c6bd096b35ec87d21bc21fae4db4f75be7d5309dc7d5", func := "spigot/spigotlaw18.PositionTurned", spec := "positionTurned", apart := false, narrowed := true }
def PositionTurnedUptoSaid : Prop := positionTurnedUptoRow.holds Try.pinned (OpenSpec.upto positionTurnedSpec)

/-- 'spigotlaw26.BergTargets', WHERE WHAT IT READS IS OF BULK AT MOST 1048576: true; the input reads as it did. -/
def bergTargetsUptoRow : OpenClaim := { program := "ythnmpnilcdnimaa", sum := "9bdf8ad880b9c27807d1c6bd096b35ec87d21bc21fae4db4f75be7d5309dc7d5", func := "spigot/spigotlaw26.BergTargets", spec := "bergTargets", inPlace := ["math/bits.Add64"], named := ["math/bits.divideError", "math/bits.overflowError"], apart := false, narrowed := true }
def BergTargetsUptoSaid : Prop := bergTargetsUptoRow.holds Try.pinned (OpenSpec.upto bergTargetsSpec)

/-- 'spigotlaw26.BergMelts', WHERE WHAT IT READS IS OF BULK AT MOST 1048576: true; the input reads as it did. -/
def bergMeltsUptoRow : OpenClaim := { program := "ythnmpnilcdnimaa", sum := "9bdf8ad880b9c27807d1c6bd096b35ec87d21bc21fae4db4f75be7d5309dc7d5", func := "spigot/spigotlaw26.BergMelts", spec := "bergMelts", inPlace := ["math/bits.Add64"], named := ["math/bits.divideError", "math/bits.overflowError"], apart := false, narrowed := true }
def BergMeltsUptoSaid : Prop := bergMeltsUptoRow.holds Try.pinned (OpenSpec.upto bergMeltsSpec)

/-- 'spigotlaw02.GrainBands', WHERE WHAT IT READS IS OF BULK AT MOST 1048576: true; the input reads as it did. -/
def grainBandsUptoRow : OpenClaim := { program := "ythnmpnilcdnimaa", sum := "9bdf8ad880b9c27807d1c6bd096b35ec87d21bc21fae4db4f75be7d5309dc7d5", func := "spigot/spigotlaw02.GrainBands", spec := "grainBands", inPlace := ["math/bits.Add64"], unfollowed := true, recurses := true, named := ["math/bits.divideError", "math/bits.overflowError"], apart := false, narrowed := true }
def GrainBandsUptoSaid : Prop := grainBandsUptoRow.holds Try.pinned (OpenSpec.upto grainBandsSpec)

/-- 'spigotlaw02.GrainSteps', WHERE WHAT IT READS IS OF BULK AT MOST 1048576: true; the input reads as it did. -/
def grainStepsUptoRow : OpenClaim := { program := "ythnmpnilcdnimaa", sum := "9bdf8ad880b9c27807d1c6bd096b35ec87d21bc21fae4db4f75be7d5309dc7d5", func := "spigot/spigotlaw02.GrainSteps", spec := "grainSteps", inPlace := ["math/bits.Add64"], unfollowed := true, recurses := true, named := ["math/bits.divideError", "math/bits.overflowError"], apart := false, narrowed := true }
def GrainStepsUptoSaid : Prop := grainStepsUptoRow.holds Try.pinned (OpenSpec.upto grainStepsSpec)

/-- 'spigotlaw02.GrainNear', WHERE WHAT IT READS IS OF BULK AT MOST 1048576: true; the input reads as it did. -/
def grainNearUptoRow : OpenClaim := { program := "ythnmpnilcdnimaa", sum := "9bdf8ad880b9c27807d1c6bd096b35ec87d21bc21fae4db4f75be7d5309dc7d5", func := "spigot/spigotlaw02.GrainNear", spec := "grainNear", inPlace := ["math/bits.Add64"], unfollowed := true, recurses := true, named := ["math/bits.divideError", "math/bits.overflowError"], apart := false, narrowed := true }
def GrainNearUptoSaid : Prop := grainNearUptoRow.holds Try.pinned (OpenSpec.upto grainNearSpec)

/-- 'spigotlaw02.GrainInside', WHERE WHAT IT READS IS OF BULK AT MOST 1048576: true; the input reads as it did. -/
def grainInsideUptoRow : OpenClaim := { program := "ythnmpnilcdnimaa", sum := "9bdf8ad880b9c27807d1c6bd096b35ec87d21bc21fae4db4f75be7d5309dc7d5", func := "spigot/spigotlaw02.GrainInside", spec := "grainInside", inPlace := ["math/bits.Add64"], unfollowed := true, recurses := true, named := ["math/bits.divideError", "math/bits.overflowError"], apart := false, narrowed := true }
def GrainInsideUptoSaid : Prop := grainInsideUptoRow.holds Try.pinned (OpenSpec.upto grainInsideSpec)

/-- 'spigotlaw02.GrainWorth', WHERE WHAT IT READS IS OF BULK AT MOST 1048576: true; the input reads as it did. -/
def grainWorthUptoRow : OpenClaim := { program := "ythnmpnilcdnimaa", sum := "9bdf8ad880b9c27807d1c6bd096b35ec87d21bc21fae4db4f75be7d5309dc7d5", func := "spigot/spigotlaw02.GrainWorth", spec := "grainWorth", inPlace := ["math/bits.Add64"], unfollowed := true, recurses := true, named := ["math/bits.divideError", "math/bits.overflowError"], apart := false, narrowed := true }
def GrainWorthUptoSaid : Prop := grainWorthUptoRow.holds Try.pinned (OpenSpec.upto grainWorthSpec)

/-- 'spigotlaw02.GrainGood', WHERE WHAT IT READS IS OF BULK AT MOST 1048576: true; the input reads as it did. -/
def grainGoodUptoRow : OpenClaim := { program := "ythnmpnilcdnimaa", sum := "9bdf8ad880b9c27807d1c6bd096b35ec87d21bc21fae4db4f75be7d5309dc7d5", func := "spigot/spigotlaw02.GrainGood", spec := "grainGood", inPlace := ["math/bits.Add64"], unfollowed := true, recurses := true, named := ["math/bits.divideError", "math/bits.overflowError"], apart := false, narrowed := true }
def GrainGoodUptoSaid : Prop := grainGoodUptoRow.holds Try.pinned (OpenSpec.upto grainGoodSpec)

/-- 'spigotlaw02.GrainMost', WHERE WHAT IT READS IS OF BULK AT MOST 1048576: true; the input reads as it did. -/
def grainMostUptoRow : OpenClaim := { program := "ythnmpnilcdnimaa", sum := "9bdf8ad880b9c27807d1c6bd096b35ec87d21bc21fae4db4f75be7d5309dc7d5", func := "spigot/spigotlaw02.GrainMost", spec := "grainMost", inPlace := ["math/bits.Add64"], unfollowed := true, recurses := true, named := ["math/bits.divideError", "math/bits.overflowError"], apart := false, narrowed := true }
def GrainMostUptoSaid : Prop := grainMostUptoRow.holds Try.pinned (OpenSpec.upto grainMostSpec)

end Rows
end Go.Proofs.Ythnmpnilcdnimaa
