/-
  No cell of these rows narrows 'for every input' (looked for: loops, veiled, ifaces, maps, wideKeys, modest, calm, conditions, laid).
  DERIVED. THE GIVEN ROWS OF THIS SEAT. 5 by the template 'for every input the law returns true; each argument reads behind the call as it read before'; 0 by the template 'total and deterministic' (their statements: YtknmojjccfhchaaTotals.lean).
  GIVEN WITH THE SEED: the statements are not yours to turn. If you find one false, say at which input.
  Laid BY PROGRAM, IN A SANDBOX (cutbox-rows.mjs): the forced cells as the released guide's own fill.sh prints them over the translation b580bd2f6411f71e… (all of the seat's roots in one cut). By AI agents, Wed Nov 11 2026. No macro, syntax, notation, axiom, sorry.
-/
import Derived.Test.YtknmojjccfhchaaChecked
import GoSem.Claim
import GoSem.ClaimJoined
import GoSem.ClaimMapViews
import Derived.JoinedTies
import Derived.KernelRfl
namespace Go.Proofs.Ytknmojjccfhchaa
/- THE CELL 'sum', in the pinned program and in every row, IS THE sha256 OF THE DUMP (.gsa) THAT YtknmojjccfhchaaProg.lean LOADS. Nothing in Lean hashes anything: it is a label: what it is worth is what the hold of that sum in a sandbox is worth. -/
noncomputable def Try.pinned : Pinned := { name := "ytknmojjccfhchaa", sum := "b580bd2f6411f71ef8700217957156de5583f121152698b5ca816e22c22301a4", checked := Try.checked }
namespace Rows
def none {H : Type} : Left H := { results := [], args := [] }

/-- 'spigotlaw36.AllotShares': WHATEVER THE INPUT: true; the input reads as it did. -/
def allotSharesSpec : ChangeSpec := { name := "allotShares", fn := fun _ => fun
  | [d1, d2] => { results := [.lit (.bool true)], args := [d1, d2] }
  | _ => none }
def allotSharesRow : OpenClaim := { program := "ytknmojjccfhchaa", sum := "b580bd2f6411f71ef8700217957156de5583f121152698b5ca816e22c22301a4", func := "spigot/spigotlaw36.AllotShares", spec := "allotShares", inPlace := ["math/bits.Add64"], unfollowed := true, recurses := true, named := ["math/bits.divideError", "math/bits.overflowError"], apart := false }
def AllotSharesSaid : Prop := allotSharesRow.holds Try.pinned (OpenSpec.ofChange allotSharesSpec)

/-- ITS FALSE NEIGHBOUR: 'it returns false'. Refute it at one input. -/
def allotSharesWrong : ChangeSpec := { name := "allotShares", fn := fun _ => fun
  | [d1, d2] => { results := [.lit (.bool false)], args := [d1, d2] }
  | _ => none }
def AllotSharesWrongFalsely : Prop := allotSharesRow.holds Try.pinned (OpenSpec.ofChange allotSharesWrong)

/-- 'spigotlaw36.AllotLots': WHATEVER THE INPUT: true; the input reads as it did. -/
def allotLotsSpec : ChangeSpec := { name := "allotLots", fn := fun _ => fun
  | [d1, d2] => { results := [.lit (.bool true)], args := [d1, d2] }
  | _ => none }
def allotLotsRow : OpenClaim := { program := "ytknmojjccfhchaa", sum := "b580bd2f6411f71ef8700217957156de5583f121152698b5ca816e22c22301a4", func := "spigot/spigotlaw36.AllotLots", spec := "allotLots", inPlace := ["math/bits.Add64"], unfollowed := true, recurses := true, named := ["math/bits.divideError", "math/bits.overflowError"], apart := false }
def AllotLotsSaid : Prop := allotLotsRow.holds Try.pinned (OpenSpec.ofChange allotLotsSpec)

/-- ITS FALSE NEIGHBOUR: 'it returns false'. Refute it at one input. -/
def allotLotsWrong : ChangeSpec := { name := "allotLots", fn := fun _ => fun
  | [d1, d2] => { results := [.lit (.bool false)], args := [d1, d2] }
  | _ => none }
def AllotLotsWrongFalsely : Prop := allotLotsRow.holds Try.pinned (OpenSpec.ofChange allotLotsWrong)

/-- 'spigotlaw36.AllotWhole': WHATEVER THE INPUT: true; the input reads as it did. -/
def allotWholeSpec : ChangeSpec := { name := "allotWhole", fn := fun _ => fun
  | [d1, d2] => { results := [.lit (.bool true)], args := [d1, d2] }
  | _ => none }
def allotWholeRow : OpenClaim := { program := "ytknmojjccfhchaa", sum := "b580bd2f6411f71ef8700217957156de5583f121152698b5ca816e22c22301a4", func := "spigot/spigotlaw36.AllotWhole", spec := "allotWhole", inPlace := ["math/bits.Add64"], unfollowed := true, recurses := true, named := ["math/bits.divideError", "math/bits.overflowError"], apart := false }
def AllotWholeSaid : Prop := allotWholeRow.holds Try.pinned (OpenSpec.ofChange allotWholeSpec)

/-- ITS FALSE NEIGHBOUR: 'it returns false'. Refute it at one input. -/
def allotWholeWrong : ChangeSpec := { name := "allotWhole", fn := fun _ => fun
  | [d1, d2] => { results := [.lit (.bool false)], args := [d1, d2] }
  | _ => none }
def AllotWholeWrongFalsely : Prop := allotWholeRow.holds Try.pinned (OpenSpec.ofChange allotWholeWrong)

/-- 'spigotlaw36.AllotFits': WHATEVER THE INPUT: true; the input reads as it did. -/
def allotFitsSpec : ChangeSpec := { name := "allotFits", fn := fun _ => fun
  | [d1, d2] => { results := [.lit (.bool true)], args := [d1, d2] }
  | _ => none }
def allotFitsRow : OpenClaim := { program := "ytknmojjccfhchaa", sum := "b580bd2f6411f71ef8700217957156de5583f121152698b5ca816e22c22301a4", func := "spigot/spigotlaw36.AllotFits", spec := "allotFits", inPlace := ["math/bits.Add64"], unfollowed := true, recurses := true, named := ["math/bits.divideError", "math/bits.overflowError"], apart := false }
def AllotFitsSaid : Prop := allotFitsRow.holds Try.pinned (OpenSpec.ofChange allotFitsSpec)

/-- ITS FALSE NEIGHBOUR: 'it returns false'. Refute it at one input. -/
def allotFitsWrong : ChangeSpec := { name := "allotFits", fn := fun _ => fun
  | [d1, d2] => { results := [.lit (.bool false)], args := [d1, d2] }
  | _ => none }
def AllotFitsWrongFalsely : Prop := allotFitsRow.holds Try.pinned (OpenSpec.ofChange allotFitsWrong)

/-- 'spigotlaw36.AllotWorth': WHATEVER THE INPUT: true; the input reads as it did. -/
def allotWorthSpec : ChangeSpec := { name := "allotWorth", fn := fun _ => fun
  | [d1, d2] => { results := [.lit (.bool true)], args := [d1, d2] }
  | _ => none }
def allotWorthRow : OpenClaim := { program := "ytknmojjccfhchaa", sum := "b580bd2f6411f71ef8700217957156de5583f121152698b5ca816e22c22301a4", func := "spigot/spigotlaw36.AllotWorth", spec := "allotWorth", inPlace := ["math/bits.Add64"], unfollowed := true, recurses := true, named := ["math/bits.divideError", "math/bits.overflowError"], apart := false }
def AllotWorthSaid : Prop := allotWorthRow.holds Try.pinned (OpenSpec.ofChange allotWorthSpec)

/-- ITS FALSE NEIGHBOUR: 'it returns false'. Refute it at one input. -/
def allotWorthWrong : ChangeSpec := { name := "allotWorth", fn := fun _ => fun
  | [d1, d2] => { results := [.lit (.bool false)], args := [d1, d2] }
  | _ => none }
def AllotWorthWrongFalsely : Prop := allotWorthRow.holds Try.pinned (OpenSpec.ofChange allotWorthWrong)

/- THE SECOND FORM. 'bulk': how many values and letters a reading holds, each counted each time it is reached (what is shared counts as often as it is met; a slice's spare places count too). A statement '..UptoSaid' is the law's where the arguments, and the package variables that the reading takes, are together of bulk at most 1048576: NARROWER than '..Said'. Prove '..Said' where nothing that the law and all that it calls make is longer than what came in: it says more and counts as full. Else prove '..UptoSaid'. A law counts once. -/
mutual
def uptoBulk {H : Type} : DataW H → Nat
  | .lit (.string bytes) => bytes.length + 1
  | .lit _ => 1
  | .nil => 1
  | .ptr d => uptoBulk d + 1
  | .slice elems spare => uptoBulkAll elems + uptoBulkAll spare + 1
  | .agg parts => uptoBulkAll parts + 1
  | .iface _ d => uptoBulk d + 1
  | .map entries => uptoBulkEntries entries + 1
  | .held _ => 1
def uptoBulkAll {H : Type} : List (DataW H) → Nat
  | [] => 0
  | d :: r => uptoBulk d + uptoBulkAll r
def uptoBulkEntries {H : Type} : List (Lit × DataW H) → Nat
  | [] => 0
  | x :: r => uptoBulkEntry x + uptoBulkEntries r
def uptoBulkEntry {H : Type} : Lit × DataW H → Nat
  | (.string bytes, d) => bytes.length + uptoBulk d + 1
  | (_, d) => uptoBulk d + 1
 end
def uptoSmall : (H : Type) → List (DataW H) → Bool := fun _ ds => decide (uptoBulkAll ds ≤ 1048576)
def OpenSpec.upto (s : _root_.Go.ChangeSpec) : _root_.Go.OpenSpec := { _root_.Go.OpenSpec.ofChange s with cond := some uptoSmall }

/-- 'spigotlaw36.AllotShares', WHERE WHAT IT READS IS OF BULK AT MOST 1048576: true; the input reads as it did. -/
def allotSharesUptoRow : OpenClaim := { program := "ytknmojjccfhchaa", sum := "b580bd2f6411f71ef8700217957156de5583f121152698b5ca816e22c22301a4", func := "spigot/spigotlaw36.AllotShares", spec := "allotShares", inPlace := ["math/bits.Add64"], unfollowed := true, recurses := true, named := ["math/bits.divideError", "math/bits.overflowError"], apart := false, narrowed := true }
def AllotSharesUptoSaid : Prop := allotSharesUptoRow.holds Try.pinned (OpenSpec.upto allotSharesSpec)

/-- 'spigotlaw36.AllotLots', WHERE WHAT IT READS IS OF BULK AT MOST 1048576: true; the input reads as it did. -/
def allotLotsUptoRow : OpenClaim := { program := "ytknmojjccfhchaa", sum := "b580bd2f6411f71ef8700217957156de5583f121152698b5ca816e22c22301a4", func := "spigot/spigotlaw36.AllotLots", spec := "allotLots", inPlace := ["math/bits.Add64"], unfollowed := true, recurses := true, named := ["math/bits.divideError", "math/bits.overflowError"], apart := false, narrowed := true }
def AllotLotsUptoSaid : Prop := allotLotsUptoRow.holds Try.pinned (OpenSpec.upto allotLotsSpec)

/-- 'spigotlaw36.AllotWhole', WHERE WHAT IT READS IS OF BULK AT MOST 1048576: true; the input reads as it did. -/
def allotWholeUptoRow : OpenClaim := { program := "ytknmojjccfhchaa", sum := "b580bd2f6411f71ef8700217957156de5583f121152698b5ca816e22c22301a4", func := "spigot/spigotlaw36.AllotWhole", spec := "allotWhole", inPlace := ["math/bits.Add64"], unfollowed := true, recurses := true, named := ["math/bits.divideError", "math/bits.overflowError"], apart := false, narrowed := true }
def AllotWholeUptoSaid : Prop := allotWholeUptoRow.holds Try.pinned (OpenSpec.upto allotWholeSpec)

/-- 'spigotlaw36.AllotFits', WHERE WHAT IT READS IS OF BULK AT MOST 1048576: true; the input reads as it did. -/
def allotFitsUptoRow : OpenClaim := { program := "ytknmojjccfhchaa", sum := "b580bd2f6411f71ef8700217957156de5583f121152698b5ca816e22c22301a4", func := "spigot/spigotlaw36.AllotFits", spec := "allotFits", inPlace := ["math/bits.Add64"], unfollowed := true, recurses := true, named := ["math/bits.divideError", "math/bits.overflowError"], apart := false, narrowed := true }
def AllotFitsUptoSaid : Prop := allotFitsUptoRow.holds Try.pinned (OpenSpec.upto allotFitsSpec)

/-- 'spigotlaw36.AllotWorth', WHERE WHAT IT READS IS OF BULK AT MOST 1048576: true; the input reads as it did. -/
def allotWorthUptoRow : OpenClaim := { program := "ytknmojjccfhchaa", sum := "b580bd2f6411f71ef8700217957156de5583f121152698b5ca816e22c22301a4", func := "spigot/spigotlaw36.AllotWorth", spec := "allotWorth", inPlace := ["math/bits.Add64"], unfollowed := true, recurses := true, named := ["math/bits.divideError", "math/bits.overflowError"], apart := false, narrowed := true }
def AllotWorthUptoSaid : Prop := allotWorthUptoRow.holds Try.pinned (OpenSpec.upto allotWorthSpec)

end Rows
end Go.Proofs.Ytknmojjccfhchaa
