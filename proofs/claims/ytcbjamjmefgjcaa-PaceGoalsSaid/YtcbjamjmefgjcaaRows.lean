/-
  No cell of these rows narrows 'for every input' (looked for: loops, veiled, ifaces, maps, wideKeys, modest, calm, conditions, laid).
  DERIVED. THE GIVEN ROWS OF THIS SEAT. 5 by the template 'for every input the law returns true; each argument reads behind the call as it read before'; 0 by the template 'total and deterministic' (their statements: YtcbjamjmefgjcaaTotals.lean).
  GIVEN WITH THE SEED: the statements are not yours to turn. If you find one false, say at which input.
  Laid BY PROGRAM, IN A SANDBOX (cutbox-rows.mjs): the forced cells as the released guide's own fill.sh prints them over the translation a7d6687c95d90b9d… (all of the seat's roots in one cut). By AI agents, Wed Nov 11 2026. No macro, syntax, notation, axiom, sorry.
-/
import Derived.Test.YtcbjamjmefgjcaaChecked
import GoSem.Claim
import GoSem.ClaimJoined
import GoSem.ClaimMapViews
import Derived.JoinedTies
import Derived.KernelRfl
namespace Go.Proofs.Ytcbjamjmefgjcaa
/- THE CELL 'sum', in the pinned program and in every row, IS THE sha256 OF THE DUMP (.gsa) THAT YtcbjamjmefgjcaaProg.lean LOADS. Nothing in Lean hashes anything: it is a label: what it is worth is what the hold of that sum in a sandbox is worth. -/
noncomputable def Try.pinned : Pinned := { name := "ytcbjamjmefgjcaa", sum := "a7d6687c95d90b9d8cfbf54caec7d729872f67f09d9d1e31c66841230efac959", checked := Try.checked }
namespace Rows
def none {H : Type} : Left H := { results := [], args := [] }

/-- 'spigotlaw24.PaceTwaps': WHATEVER THE INPUT: true; the input reads as it did. -/
def paceTwapsSpec : ChangeSpec := { name := "paceTwaps", fn := fun _ => fun
  | [d1, d2] => { results := [.lit (.bool true)], args := [d1, d2] }
  | _ => none }
def paceTwapsRow : OpenClaim := { program := "ytcbjamjmefgjcaa", sum := "a7d6687c95d90b9d8cfbf54caec7d729872f67f09d9d1e31c66841230efac959", func := "spigot/spigotlaw24.PaceTwaps", spec := "paceTwaps", inPlace := ["math/bits.Add64"], unfollowed := true, recurses := true, named := ["math/bits.divideError", "math/bits.overflowError"], apart := false }
def PaceTwapsSaid : Prop := paceTwapsRow.holds Try.pinned (OpenSpec.ofChange paceTwapsSpec)

/-- ITS FALSE NEIGHBOUR: 'it returns false'. Refute it at one input. -/
def paceTwapsWrong : ChangeSpec := { name := "paceTwaps", fn := fun _ => fun
  | [d1, d2] => { results := [.lit (.bool false)], args := [d1, d2] }
  | _ => none }
def PaceTwapsWrongFalsely : Prop := paceTwapsRow.holds Try.pinned (OpenSpec.ofChange paceTwapsWrong)

/-- 'spigotlaw24.PaceVwaps': WHATEVER THE INPUT: true; the input reads as it did. -/
def paceVwapsSpec : ChangeSpec := { name := "paceVwaps", fn := fun _ => fun
  | [d1, d2, d3] => { results := [.lit (.bool true)], args := [d1, d2, d3] }
  | _ => none }
def paceVwapsRow : OpenClaim := { program := "ytcbjamjmefgjcaa", sum := "a7d6687c95d90b9d8cfbf54caec7d729872f67f09d9d1e31c66841230efac959", func := "spigot/spigotlaw24.PaceVwaps", spec := "paceVwaps", inPlace := ["math/bits.Add64"], unfollowed := true, recurses := true, named := ["math/bits.divideError", "math/bits.overflowError"], apart := false }
def PaceVwapsSaid : Prop := paceVwapsRow.holds Try.pinned (OpenSpec.ofChange paceVwapsSpec)

/-- ITS FALSE NEIGHBOUR: 'it returns false'. Refute it at one input. -/
def paceVwapsWrong : ChangeSpec := { name := "paceVwaps", fn := fun _ => fun
  | [d1, d2, d3] => { results := [.lit (.bool false)], args := [d1, d2, d3] }
  | _ => none }
def PaceVwapsWrongFalsely : Prop := paceVwapsRow.holds Try.pinned (OpenSpec.ofChange paceVwapsWrong)

/-- 'spigotlaw24.PaceGoals': WHATEVER THE INPUT: true; the input reads as it did. -/
def paceGoalsSpec : ChangeSpec := { name := "paceGoals", fn := fun _ => fun
  | [d1, d2, d3] => { results := [.lit (.bool true)], args := [d1, d2, d3] }
  | _ => none }
def paceGoalsRow : OpenClaim := { program := "ytcbjamjmefgjcaa", sum := "a7d6687c95d90b9d8cfbf54caec7d729872f67f09d9d1e31c66841230efac959", func := "spigot/spigotlaw24.PaceGoals", spec := "paceGoals", inPlace := ["math/bits.Add64"], unfollowed := true, recurses := true, named := ["math/bits.divideError", "math/bits.overflowError"], apart := false }
def PaceGoalsSaid : Prop := paceGoalsRow.holds Try.pinned (OpenSpec.ofChange paceGoalsSpec)

/-- ITS FALSE NEIGHBOUR: 'it returns false'. Refute it at one input. -/
def paceGoalsWrong : ChangeSpec := { name := "paceGoals", fn := fun _ => fun
  | [d1, d2, d3] => { results := [.lit (.bool false)], args := [d1, d2, d3] }
  | _ => none }
def PaceGoalsWrongFalsely : Prop := paceGoalsRow.holds Try.pinned (OpenSpec.ofChange paceGoalsWrong)

/-- 'spigotlaw24.PaceRises': WHATEVER THE INPUT: true; the input reads as it did. -/
def paceRisesSpec : ChangeSpec := { name := "paceRises", fn := fun _ => fun
  | [d1, d2, d3] => { results := [.lit (.bool true)], args := [d1, d2, d3] }
  | _ => none }
def paceRisesRow : OpenClaim := { program := "ytcbjamjmefgjcaa", sum := "a7d6687c95d90b9d8cfbf54caec7d729872f67f09d9d1e31c66841230efac959", func := "spigot/spigotlaw24.PaceRises", spec := "paceRises", inPlace := ["math/bits.Add64"], unfollowed := true, recurses := true, named := ["math/bits.divideError", "math/bits.overflowError"], apart := false }
def PaceRisesSaid : Prop := paceRisesRow.holds Try.pinned (OpenSpec.ofChange paceRisesSpec)

/-- ITS FALSE NEIGHBOUR: 'it returns false'. Refute it at one input. -/
def paceRisesWrong : ChangeSpec := { name := "paceRises", fn := fun _ => fun
  | [d1, d2, d3] => { results := [.lit (.bool false)], args := [d1, d2, d3] }
  | _ => none }
def PaceRisesWrongFalsely : Prop := paceRisesRow.holds Try.pinned (OpenSpec.ofChange paceRisesWrong)

/-- 'spigotlaw24.PaceNear': WHATEVER THE INPUT: true; the input reads as it did. -/
def paceNearSpec : ChangeSpec := { name := "paceNear", fn := fun _ => fun
  | [d1, d2, d3] => { results := [.lit (.bool true)], args := [d1, d2, d3] }
  | _ => none }
def paceNearRow : OpenClaim := { program := "ytcbjamjmefgjcaa", sum := "a7d6687c95d90b9d8cfbf54caec7d729872f67f09d9d1e31c66841230efac959", func := "spigot/spigotlaw24.PaceNear", spec := "paceNear", inPlace := ["math/bits.Add64"], unfollowed := true, recurses := true, named := ["math/bits.divideError", "math/bits.overflowError"], apart := false }
def PaceNearSaid : Prop := paceNearRow.holds Try.pinned (OpenSpec.ofChange paceNearSpec)

/-- ITS FALSE NEIGHBOUR: 'it returns false'. Refute it at one input. -/
def paceNearWrong : ChangeSpec := { name := "paceNear", fn := fun _ => fun
  | [d1, d2, d3] => { results := [.lit (.bool false)], args := [d1, d2, d3] }
  | _ => none }
def PaceNearWrongFalsely : Prop := paceNearRow.holds Try.pinned (OpenSpec.ofChange paceNearWrong)

/- THE SECOND FORM. 'bulk': how many values and letters a reading holds, each counted each time it is reached (what is shared counts as often as it is met; a slice's spare places count too). A statement '..UptoSaid' is the law's where the arguments, and the package variables that the reading takes, are together of bulk at most 1048576: NARROWER than '..Said'. Prove '..Said' where nothing that the law and all that it calls make is longer than what came in: it says more and counts as full. Else prove '..UptoSaid'. A law counts once. -/
mutual
def uptoBulk {H : Type} : DataW H → Nat
  | .lit (.string bytes) => bytes.length + 1
  | .lit _ => 1
  | .nil => 1
  | .ptr d => uptoBulk d + 1
  | .slice elems spare => uptoBulkAll elems + uptoBulkAll spare + 1
  | .agg parts => uptoBulkAll parts + 1
  | .iface _ d => uptoBulk d + 1
  | .map entries => uptoBulkEntries entries + 1
  | .held _ => 1
def uptoBulkAll {H : Type} : List (DataW H) → Nat
  | [] => 0
  | d :: r => uptoBulk d + uptoBulkAll r
def uptoBulkEntries {H : Type} : List (Lit × DataW H) → Nat
  | [] => 0
  | x :: r => uptoBulkEntry x + uptoBulkEntries r
def uptoBulkEntry {H : Type} : Lit × DataW H → Nat
  | (.string bytes, d) => bytes.length + uptoBulk d + 1
  | (_, d) => uptoBulk d + 1
 end
def uptoSmall : (H : Type) → List (DataW H) → Bool := fun _ ds => decide (uptoBulkAll ds ≤ 1048576)
def OpenSpec.upto (s : _root_.Go.ChangeSpec) : _root_.Go.OpenSpec := { _root_.Go.OpenSpec.ofChange s with cond := some uptoSmall }

/-- 'spigotlaw24.PaceTwaps', WHERE WHAT IT READS IS OF BULK AT MOST 1048576: true; the input reads as it did. -/
def paceTwapsUptoRow : OpenClaim := { program := "ytcbjamjmefgjcaa", sum := "a7d6687c95d90b9d8cfbf54caec7d729872f67f09d9d1e31c66841230efac959", func := "spigot/spigotlaw24.PaceTwaps", spec := "paceTwaps", inPlace := ["math/bits.Add64"], unfollowed := true, recurses := true, named := ["math/bits.divideError", "math/bits.overflowError"], apart := false, narrowed := true }
def PaceTwapsUptoSaid : Prop := paceTwapsUptoRow.holds Try.pinned (OpenSpec.upto paceTwapsSpec)

/-- 'spigotlaw24.PaceVwaps', WHERE WHAT IT READS IS OF BULK AT MOST 1048576: true; the input reads as it did. -/
def paceVwapsUptoRow : OpenClaim := { program := "ytcbjamjmefgjcaa", sum := "a7d6687c95d90b9d8cfbf54caec7d729872f67f09d9d1e31c66841230efac959", func := "spigot/spigotlaw24.PaceVwaps", spec := "paceVwaps", inPlace := ["math/bits.Add64"], unfollowed := true, recurses := true, named := ["math/bits.divideError", "math/bits.overflowError"], apart := false, narrowed := true }
def PaceVwapsUptoSaid : Prop := paceVwapsUptoRow.holds Try.pinned (OpenSpec.upto paceVwapsSpec)

/-- 'spigotlaw24.PaceGoals', WHERE WHAT IT READS IS OF BULK AT MOST 1048576: true; the input reads as it did. -/
def paceGoalsUptoRow : OpenClaim := { program := "ytcbjamjmefgjcaa", sum := "a7d6687c95d90b9d8cfbf54caec7d729872f67f09d9d1e31c66841230efac959", func := "spigot/spigotlaw24.PaceGoals", spec := "paceGoals", inPlace := ["math/bits.Add64"], unfollowed := true, recurses := true, named := ["math/bits.divideError", "math/bits.overflowError"], apart := false, narrowed := true }
def PaceGoalsUptoSaid : Prop := paceGoalsUptoRow.holds Try.pinned (OpenSpec.upto paceGoalsSpec)

/-- 'spigotlaw24.PaceRises', WHERE WHAT IT READS IS OF BULK AT MOST 1048576: true; the input reads as it did. -/
def paceRisesUptoRow : OpenClaim := { program := "ytcbjamjmefgjcaa", sum := "a7d6687c95d90b9d8cfbf54caec7d729872f67f09d9d1e31c66841230efac959", func := "spigot/spigotlaw24.PaceRises", spec := "paceRises", inPlace := ["math/bits.Add64"], unfollowed := true, recurses := true, named := ["math/bits.divideError", "math/bits.overflowError"], apart := false, narrowed := true }
def PaceRisesUptoSaid : Prop := paceRisesUptoRow.holds Try.pinned (OpenSpec.upto paceRisesSpec)

/-- 'spigotlaw24.PaceNear', WHERE WHAT IT READS IS OF BULK AT MOST 1048576: true; the input reads as it did. -/
def paceNearUptoRow : OpenClaim := { program := "ytcbjamjmefgjcaa", sum := "a7d6687c95d90b9d8cfbf54caec7d729872f67f09d9d1e31c66841230efac959", func := "spigot/spigotlaw24.PaceNear", spec := "paceNear", inPlace := ["math/bits.Add64"], unfollowed := true, recurses := true, named := ["math/bits.divideError", "math/bits.overflowError"], apart := false, narrowed := true }
def PaceNearUptoSaid : Prop := paceNearUptoRow.holds Try.pinned (OpenSpec.upto paceNearSpec)

end Rows
end Go.Proofs.Ytcbjamjmefgjcaa
