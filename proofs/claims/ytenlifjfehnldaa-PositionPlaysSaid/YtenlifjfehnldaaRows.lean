/-
  No cell of these rows narrows 'for every input' (looked for: loops, veiled, ifaces, maps, wideKeys, modest, calm, conditions, laid).
  DERIVED. THE GIVEN ROWS OF THIS SEAT. 3 by the template 'for every input the law returns true; each argument reads behind the call as it read before'; 0 by the template 'total and deterministic' (their statements: YtenlifjfehnldaaTotals.lean).
  GIVEN WITH THE SEED: the statements are not yours to turn. If you find one false, say at which input.
  Laid BY PROGRAM, IN A SANDBOX (cutbox-rows.mjs): the forced cells as the released guide's own fill.sh prints them over the translation b8bfc2915e551cfa… (all of the seat's roots in one cut). By AI agents, Wed Nov 11 2026. No macro, syntax, notation, axiom, sorry.
-/
import Derived.Test.YtenlifjfehnldaaChecked
import GoSem.Claim
import GoSem.ClaimJoined
import GoSem.ClaimMapViews
import Derived.JoinedTies
import Derived.KernelRfl
namespace Go.Proofs.Ytenlifjfehnldaa
/- THE CELL 'sum', in the pinned program and in every row, IS THE sha256 OF THE DUMP (.gsa) THAT YtenlifjfehnldaaProg.lean LOADS. Nothing in Lean hashes anything: it is a label: what it is worth is what the hold of that sum in a sandbox is worth. -/
noncomputable def Try.pinned : Pinned := { name := "ytenlifjfehnldaa", sum := "b8bfc2915e551cfac22bdbbd9f8f9a4b1d992cbb77b64d5f3b138459c78bdb06", checked := Try.checked }
namespace Rows
def none {H : Type} : Left H := { results := [], args := [] }

/-- 'spigotlaw18.PositionPlays': WHATEVER THE INPUT: true; the input reads as it did. -/
def positionPlaysSpec : ChangeSpec := { name := "positionPlays", fn := fun _ => fun
  | [d1, d2, d3] => { results := [.lit (.bool true)], args := [d1, d2, d3] }
  | _ => none }
def positionPlaysRow : OpenClaim := { program := "ytenlifjfehnldaa", sum := "b8bfc2915e551cfac22bdbbd9f8f9a4b1d992cbb77b64d5f3b138459c78bdb06", func := "spigot/spigotlaw18.PositionPlays", spec := "positionPlays", apart := false }
def PositionPlaysSaid : Prop := positionPlaysRow.holds Try.pinned (OpenSpec.ofChange positionPlaysSpec)

/-- ITS FALSE NEIGHBOUR: 'it returns false'. Refute it at one input. -/
def positionPlaysWrong : ChangeSpec := { name := "positionPlays", fn := fun _ => fun
  | [d1, d2, d3] => { results := [.lit (.bool false)], args := [d1, d2, d3] }
  | _ => none }
def PositionPlaysWrongFalsely : Prop := positionPlaysRow.holds Try.pinned (OpenSpec.ofChange positionPlaysWrong)

/-- 'spigotlaw18.PositionTurned': WHATEVER THE INPUT: true; the input reads as it did. -/
def positionTurnedSpec : ChangeSpec := { name := "positionTurned", fn := fun _ => fun
  | [d1, d2] => { results := [.lit (.bool true)], args := [d1, d2] }
  | _ => none }
def positionTurnedRow : OpenClaim := { program := "ytenlifjfehnldaa", sum := "b8bfc2915e551cfac22bdbbd9f8f9a4b1d992cbb77b64d5f3b138459c78bdb06", func := "spigot/spigotlaw18.PositionTurned", spec := "positionTurned", apart := false }
def PositionTurnedSaid : Prop := positionTurnedRow.holds Try.pinned (OpenSpec.ofChange positionTurnedSpec)

/-- ITS FALSE NEIGHBOUR: 'it returns false'. Refute it at one input. -/
def positionTurnedWrong : ChangeSpec := { name := "positionTurned", fn := fun _ => fun
  | [d1, d2] => { results := [.lit (.bool false)], args := [d1, d2] }
  | _ => none }
def PositionTurnedWrongFalsely : Prop := positionTurnedRow.holds Try.pinned (OpenSpec.ofChange positionTurnedWrong)

/-- 'spigotlaw02.GrainWorth': WHATEVER THE INPUT: true; the input reads as it did. -/
def grainWorthSpec : ChangeSpec := { name := "grainWorth", fn := fun _ => fun
  | [d1, d2] => { results := [.lit (.bool true)], args := [d1, d2] }
  | _ => none }
def grainWorthRow : OpenClaim := { program := "ytenlifjfehnldaa", sum := "b8bfc2915e551cfac22bdbbd9f8f9a4b1d992cbb77b64d5f3b138459c78bdb06", func := "spigot/spigotlaw02.GrainWorth", spec := "grainWorth", inPlace := ["math/bits.Add64"], unfollowed := true, recurses := true, named := ["math/bits.divideError", "math/bits.overflowError"], apart := false }
def GrainWorthSaid : Prop := grainWorthRow.holds Try.pinned (OpenSpec.ofChange grainWorthSpec)

/-- ITS FALSE NEIGHBOUR: 'it returns false'. Refute it at one input. -/
def grainWorthWrong : ChangeSpec := { name := "grainWorth", fn := fun _ => fun
  | [d1, d2] => { results := [.lit (.bool false)], args := [d1, d2] }
  | _ => none }
def GrainWorthWrongFalsely : Prop := grainWorthRow.holds Try.pinned (OpenSpec.ofChange grainWorthWrong)

/- THE SECOND FORM. 'bulk': how many values and letters a reading holds, each counted each time it is reached (what is shared counts as often as it is met; a slice's spare places count too). A statement '..UptoSaid' is the law's where the arguments, and the package variables that the reading takes, are together of bulk at most 1048576: NARROWER than '..Said'. Prove '..Said' where nothing that the law and all that it calls make is longer than what came in: it says more and counts as full. Else prove '..UptoSaid'. A law counts once. -/
mutual
def uptoBulk {H : Type} : DataW H → Nat
  | .lit (.string bytes) => bytes.length + 1
  | .lit _ => 1
  | .nil => 1
  | .ptr d => uptoBulk d + 1
  | .slice elems spare => uptoBulkAll elems + uptoBulkAll spare + 1
  | .agg parts => uptoBulkAll parts + 1
  | .iface _ d => uptoBulk d + 1
  | .map entries => uptoBulkEntries entries + 1
  | .held _ => 1
def uptoBulkAll {H : Type} : List (DataW H) → Nat
  | [] => 0
  | d :: r => uptoBulk d + uptoBulkAll r
def uptoBulkEntries {H : Type} : List (Lit × DataW H) → Nat
  | [] => 0
  | x :: r => uptoBulkEntry x + uptoBulkEntries r
def uptoBulkEntry {H : Type} : Lit × DataW H → Nat
  | (.string bytes, d) => bytes.length + uptoBulk d + 1
  | (_, d) => uptoBulk d + 1
 end
def uptoSmall : (H : Type) → List (DataW H) → Bool := fun _ ds => decide (uptoBulkAll ds ≤ 1048576)
def OpenSpec.upto (s : _root_.Go.ChangeSpec) : _root_.Go.OpenSpec := { _root_.Go.OpenSpec.ofChange s with cond := some uptoSmall }

/-- 'spigotlaw18.PositionPlays', WHERE WHAT IT READS IS OF BULK AT MOST 1048576: true; the input reads as it did. -/
def positionPlaysUptoRow : OpenClaim := { program := "ytenlifjfehnldaa", sum := "b8bfc2915e551cfac22bdbbd9f8f9a4b1d992cbb77b64d5f3b138459c78bdb06", func := "spigot/spigotlaw18.PositionPlays", spec := "positionPlays", apart := false, narrowed := true }
def PositionPlaysUptoSaid : Prop := positionPlaysUptoRow.holds Try.pinned (OpenSpec.upto positionPlaysSpec)

/-- 'spigotlaw18.PositionTurned', WHERE WHAT IT READS IS OF BULK AT MOST 1048576: true; the input reads as it did. -/
def positionTurnedUptoRow : OpenClaim := { program := "ytenlifjfehnldaa", sum := "b8bfc2915e551cfac22bdbbd9f8f9a4b1d992cbb77b64d5f3b138459c78bdb06", func := "spigot/spigotlaw18.PositionTurned", spec := "positionTurned", apart := false, narrowed := true }
def PositionTurnedUptoSaid : Prop := positionTurnedUptoRow.holds Try.pinned (OpenSpec.upto positionTurnedSpec)

/-- 'spigotlaw02.GrainWorth', WHERE WHAT IT READS IS OF BULK AT MOST 1048576: true; the input reads as it did. -/
def grainWorthUptoRow : OpenClaim := { program := "ytenlifjfehnldaa", sum := "b8bfc2915e551cfac22bdbbd9f8f9a4b1d992cbb77b64d5f3b138459c78bdb06", func := "spigot/spigotlaw02.GrainWorth", spec := "grainWorth", inPlace := ["math/bits.Add64"], unfollowed := true, recurses := true, named := ["math/bits.divideError", "math/bits.overflowError"], apart := false, narrowed := true }
def GrainWorthUptoSaid : Prop := grainWorthUptoRow.holds Try.pinned (OpenSpec.upto grainWorthSpec)

end Rows
end Go.Proofs.Ytenlifjfehnldaa
