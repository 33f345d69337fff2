/-
  No cell of these rows narrows 'for every input' (looked for: loops, veiled, ifaces, maps, wideKeys, modest, calm, conditions, laid).
  DERIVED. THE GIVEN ROWS OF THIS SEAT. 3 by the template 'for every input the law returns true; each argument reads behind the call as it read before'; 0 by the template 'total and deterministic' (their statements: YtapfidpfjbacgaaTotals.lean).
  GIVEN WITH THE SEED: the statements are not yours to turn. If you find one false, say at which input.
  Laid BY PROGRAM, IN A SANDBOX (cutbox-rows.mjs): the forced cells as the released guide's own fill.sh prints them over the translation 6a4ffe7c5e5562f4… (all of the seat's roots in one cut). By AI agents, Wed Nov 11 2026. No macro, syntax, notation, axiom, sorry.
-/
import Derived.Test.YtapfidpfjbacgaaChecked
import GoSem.Claim
import GoSem.ClaimJoined
import GoSem.ClaimMapViews
import Derived.JoinedTies
import Derived.KernelRfl
namespace Go.Proofs.Ytapfidpfjbacgaa
/- THE CELL 'sum', in the pinned program and in every row, IS THE sha256 OF THE DUMP (.gsa) THAT YtapfidpfjbacgaaProg.lean LOADS. Nothing in Lean hashes anything: it is a label: what it is worth is what the hold of that sum in a sandbox is worth. -/
noncomputable def Try.pinned : Pinned := { name := "ytapfidpfjbacgaa", sum := "6a4ffe7c5e5562f4693f3714f76248c18555b7a171a9394b8a3eed04e47328c1", checked := Try.checked }
namespace Rows
def none {H : Type} : Left H := { results := [], args := [] }

/-- 'spigotlaw27.SlicerRises': WHATEVER THE INPUT: true; the input reads as it did. -/
def slicerRisesSpec : ChangeSpec := { name := "slicerRises", fn := fun _ => fun
  | [d1, d2, d3] => { results := [.lit (.bool true)], args := [d1, d2, d3] }
  | _ => none }
def slicerRisesRow : OpenClaim := { program := "ytapfidpfjbacgaa", sum := "6a4ffe7c5e5562f4693f3714f76248c18555b7a171a9394b8a3eed04e47328c1", func := "spigot/spigotlaw27.SlicerRises", spec := "slicerRises", inPlace := ["math/bits.Add64"], unfollowed := true, recurses := true, named := ["math/bits.divideError", "math/bits.overflowError"], apart := false }
def SlicerRisesSaid : Prop := slicerRisesRow.holds Try.pinned (OpenSpec.ofChange slicerRisesSpec)

/-- ITS FALSE NEIGHBOUR: 'it returns false'. Refute it at one input. -/
def slicerRisesWrong : ChangeSpec := { name := "slicerRises", fn := fun _ => fun
  | [d1, d2, d3] => { results := [.lit (.bool false)], args := [d1, d2, d3] }
  | _ => none }
def SlicerRisesWrongFalsely : Prop := slicerRisesRow.holds Try.pinned (OpenSpec.ofChange slicerRisesWrong)

/-- 'spigotlaw27.SlicerPlays': WHATEVER THE INPUT: true; the input reads as it did. -/
def slicerPlaysSpec : ChangeSpec := { name := "slicerPlays", fn := fun _ => fun
  | [d1, d2, d3] => { results := [.lit (.bool true)], args := [d1, d2, d3] }
  | _ => none }
def slicerPlaysRow : OpenClaim := { program := "ytapfidpfjbacgaa", sum := "6a4ffe7c5e5562f4693f3714f76248c18555b7a171a9394b8a3eed04e47328c1", func := "spigot/spigotlaw27.SlicerPlays", spec := "slicerPlays", inPlace := ["math/bits.Add64"], unfollowed := true, recurses := true, named := ["math/bits.divideError", "math/bits.overflowError"], apart := false }
def SlicerPlaysSaid : Prop := slicerPlaysRow.holds Try.pinned (OpenSpec.ofChange slicerPlaysSpec)

/-- ITS FALSE NEIGHBOUR: 'it returns false'. Refute it at one input. -/
def slicerPlaysWrong : ChangeSpec := { name := "slicerPlays", fn := fun _ => fun
  | [d1, d2, d3] => { results := [.lit (.bool false)], args := [d1, d2, d3] }
  | _ => none }
def SlicerPlaysWrongFalsely : Prop := slicerPlaysRow.holds Try.pinned (OpenSpec.ofChange slicerPlaysWrong)

/-- 'spigotlaw27.SlicerNone': WHATEVER THE INPUT: true; the input reads as it did. -/
def slicerNoneSpec : ChangeSpec := { name := "slicerNone", fn := fun _ => fun
  | [d] => { results := [.lit (.bool true)], args := [d] }
  | _ => none }
def slicerNoneRow : OpenClaim := { program := "ytapfidpfjbacgaa", sum := "6a4ffe7c5e5562f4693f3714f76248c18555b7a171a9394b8a3eed04e47328c1", func := "spigot/spigotlaw27.SlicerNone", spec := "slicerNone", inPlace := ["math/bits.Add64"], unfollowed := true, recurses := true, named := ["math/bits.divideError", "math/bits.overflowError"], apart := false }
def SlicerNoneSaid : Prop := slicerNoneRow.holds Try.pinned (OpenSpec.ofChange slicerNoneSpec)

/-- ITS FALSE NEIGHBOUR: 'it returns false'. Refute it at one input. -/
def slicerNoneWrong : ChangeSpec := { name := "slicerNone", fn := fun _ => fun
  | [d] => { results := [.lit (.bool false)], args := [d] }
  | _ => none }
def SlicerNoneWrongFalsely : Prop := slicerNoneRow.holds Try.pinned (OpenSpec.ofChange slicerNoneWrong)

/- THE SECOND FORM. 'bulk': how many values and letters a reading holds, each counted each time it is reached (what is shared counts as often as it is met; a slice's spare places count too). A statement '..UptoSaid' is the law's where the arguments, and the package variables that the reading takes, are together of bulk at most 1048576: NARROWER than '..Said'. Prove '..Said' where nothing that the law and all that it calls make is longer than what came in: it says more and counts as full. Else prove '..UptoSaid'. A law counts once. -/
mutual
def uptoBulk {H : Type} : DataW H → Nat
  | .lit (.string bytes) => bytes.length + 1
  | .lit _ => 1
  | .nil => 1
  | .ptr d => uptoBulk d + 1
  | .slice elems spare => uptoBulkAll elems + uptoBulkAll spare + 1
  | .agg parts => uptoBulkAll parts + 1
  | .iface _ d => uptoBulk d + 1
  | .map entries => uptoBulkEntries entries + 1
  | .held _ => 1
def uptoBulkAll {H : Type} : List (DataW H) → Nat
  | [] => 0
  | d :: r => uptoBulk d + uptoBulkAll r
def uptoBulkEntries {H : Type} : List (Lit × DataW H) → Nat
  | [] => 0
  | x :: r => uptoBulkEntry x + uptoBulkEntries r
def uptoBulkEntry {H : Type} : Lit × DataW H → Nat
  | (.string bytes, d) => bytes.length + uptoBulk d + 1
  | (_, d) => uptoBulk d + 1
 end
def uptoSmall : (H : Type) → List (DataW H) → Bool := fun _ ds => decide (uptoBulkAll ds ≤ 1048576)
def OpenSpec.upto (s : _root_.Go.ChangeSpec) : _root_.Go.OpenSpec := { _root_.Go.OpenSpec.ofChange s with cond := some uptoSmall }

/-- 'spigotlaw27.SlicerRises', WHERE WHAT IT READS IS OF BULK AT MOST 1048576: true; the input reads as it did. -/
def slicerRisesUptoRow : OpenClaim := { program := "ytapfidpfjbacgaa", sum := "6a4ffe7c5e5562f4693f3714f76248c18555b7a171a9394b8a3eed04e47328c1", func := "spigot/spigotlaw27.SlicerRises", spec := "slicerRises", inPlace := ["math/bits.Add64"], unfollowed := true, recurses := true, named := ["math/bits.divideError", "math/bits.overflowError"], apart := false, narrowed := true }
def SlicerRisesUptoSaid : Prop := slicerRisesUptoRow.holds Try.pinned (OpenSpec.upto slicerRisesSpec)

/-- 'spigotlaw27.SlicerPlays', WHERE WHAT IT READS IS OF BULK AT MOST 1048576: true; the input reads as it did. -/
def slicerPlaysUptoRow : OpenClaim := { program := "ytapfidpfjbacgaa", sum := "6a4ffe7c5e5562f4693f3714f76248c18555b7a171a9394b8a3eed04e47328c1", func := "spigot/spigotlaw27.SlicerPlays", spec := "slicerPlays", inPlace := ["math/bits.Add64"], unfollowed := true, recurses := true, named := ["math/bits.divideError", "math/bits.overflowError"], apart := false, narrowed := true }
def SlicerPlaysUptoSaid : Prop := slicerPlaysUptoRow.holds Try.pinned (OpenSpec.upto slicerPlaysSpec)

/-- 'spigotlaw27.SlicerNone', WHERE WHAT IT READS IS OF BULK AT MOST 1048576: true; the input reads as it did. -/
def slicerNoneUptoRow : OpenClaim := { program := "ytapfidpfjbacgaa", sum := "6a4ffe7c5e5562f4693f3714f76248c18555b7a171a9394b8a3eed04e47328c1", func := "spigot/spigotlaw27.SlicerNone", spec := "slicerNone", inPlace := ["math/bits.Add64"], unfollowed := true, recurses := true, named := ["math/bits.divideError", "math/bits.overflowError"], apart := false, narrowed := true }
def SlicerNoneUptoSaid : Prop := slicerNoneUptoRow.holds Try.pinned (OpenSpec.upto slicerNoneSpec)

end Rows
end Go.Proofs.Ytapfidpfjbacgaa
