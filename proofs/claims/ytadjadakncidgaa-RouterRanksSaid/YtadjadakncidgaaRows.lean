/-
  No cell of these rows narrows 'for every input' (looked for: loops, veiled, ifaces, maps, wideKeys, modest, calm, conditions, laid).
  DERIVED. THE GIVEN ROWS OF THIS SEAT. 5 by the template 'for every input the law returns true; each argument reads behind the call as it read before'; 0 by the template 'total and deterministic' (their statements: YtadjadakncidgaaTotals.lean).
  GIVEN WITH THE SEED: the statements are not yours to turn. If you find one false, say at which input.
  Laid BY PROGRAM, IN A SANDBOX (cutbox-rows.mjs): the forced cells as the released guide's own fill.sh prints them over the translation 2903df3039e6e3bf… (all of the seat's roots in one cut). By AI agents, Wed Nov 11 2026. No macro, syntax, notation, axiom, sorry.
-/
import Derived.Test.YtadjadakncidgaaChecked
import GoSem.Claim
import GoSem.ClaimJoined
import GoSem.ClaimMapViews
import Derived.JoinedTies
import Derived.KernelRfl
namespace Go.Proofs.Ytadjadakncidgaa
/- THE CELL 'sum', in the pinned program and in every row, IS THE sha256 OF THE DUMP (.gsa) THAT YtadjadakncidgaaProg.lean LOADS. Nothing in Lean hashes anything: it is a label: what it is worth is what the hold of that sum in a sandbox is worth. -/
noncomputable def Try.pinned : Pinned := { name := "ytadjadakncidgaa", sum := "2903df3039e6e3bfb1eafb6373d744f89a3ec894eaedd4cff408d8fe0e438b3b", checked := Try.checked }
namespace Rows
def none {H : Type} : Left H := { results := [], args := [] }

/-- 'spigotlaw23.RouterSteps': WHATEVER THE INPUT: true; the input reads as it did. -/
def routerStepsSpec : ChangeSpec := { name := "routerSteps", fn := fun _ => fun
  | [d1, d2] => { results := [.lit (.bool true)], args := [d1, d2] }
  | _ => none }
def routerStepsRow : OpenClaim := { program := "ytadjadakncidgaa", sum := "2903df3039e6e3bfb1eafb6373d744f89a3ec894eaedd4cff408d8fe0e438b3b", func := "spigot/spigotlaw23.RouterSteps", spec := "routerSteps", inPlace := ["math/bits.Add64"], unfollowed := true, recurses := true, named := ["math/bits.divideError", "math/bits.overflowError"], apart := false }
def RouterStepsSaid : Prop := routerStepsRow.holds Try.pinned (OpenSpec.ofChange routerStepsSpec)

/-- ITS FALSE NEIGHBOUR: 'it returns false'. Refute it at one input. -/
def routerStepsWrong : ChangeSpec := { name := "routerSteps", fn := fun _ => fun
  | [d1, d2] => { results := [.lit (.bool false)], args := [d1, d2] }
  | _ => none }
def RouterStepsWrongFalsely : Prop := routerStepsRow.holds Try.pinned (OpenSpec.ofChange routerStepsWrong)

/-- 'spigotlaw23.RouterRanks': WHATEVER THE INPUT: true; the input reads as it did. -/
def routerRanksSpec : ChangeSpec := { name := "routerRanks", fn := fun _ => fun
  | [d] => { results := [.lit (.bool true)], args := [d] }
  | _ => none }
def routerRanksRow : OpenClaim := { program := "ytadjadakncidgaa", sum := "2903df3039e6e3bfb1eafb6373d744f89a3ec894eaedd4cff408d8fe0e438b3b", func := "spigot/spigotlaw23.RouterRanks", spec := "routerRanks", inPlace := ["math/bits.Add64"], unfollowed := true, recurses := true, named := ["math/bits.divideError", "math/bits.overflowError"], apart := false }
def RouterRanksSaid : Prop := routerRanksRow.holds Try.pinned (OpenSpec.ofChange routerRanksSpec)

/-- ITS FALSE NEIGHBOUR: 'it returns false'. Refute it at one input. -/
def routerRanksWrong : ChangeSpec := { name := "routerRanks", fn := fun _ => fun
  | [d] => { results := [.lit (.bool false)], args := [d] }
  | _ => none }
def RouterRanksWrongFalsely : Prop := routerRanksRow.holds Try.pinned (OpenSpec.ofChange routerRanksWrong)

/-- 'spigotlaw23.RouterSplits': WHATEVER THE INPUT: true; the input reads as it did. -/
def routerSplitsSpec : ChangeSpec := { name := "routerSplits", fn := fun _ => fun
  | [d1, d2, d3] => { results := [.lit (.bool true)], args := [d1, d2, d3] }
  | _ => none }
def routerSplitsRow : OpenClaim := { program := "ytadjadakncidgaa", sum := "2903df3039e6e3bfb1eafb6373d744f89a3ec894eaedd4cff408d8fe0e438b3b", func := "spigot/spigotlaw23.RouterSplits", spec := "routerSplits", inPlace := ["math/bits.Add64"], unfollowed := true, recurses := true, named := ["math/bits.divideError", "math/bits.overflowError"], apart := false }
def RouterSplitsSaid : Prop := routerSplitsRow.holds Try.pinned (OpenSpec.ofChange routerSplitsSpec)

/-- ITS FALSE NEIGHBOUR: 'it returns false'. Refute it at one input. -/
def routerSplitsWrong : ChangeSpec := { name := "routerSplits", fn := fun _ => fun
  | [d1, d2, d3] => { results := [.lit (.bool false)], args := [d1, d2, d3] }
  | _ => none }
def RouterSplitsWrongFalsely : Prop := routerSplitsRow.holds Try.pinned (OpenSpec.ofChange routerSplitsWrong)

/-- 'spigotlaw23.RouterWhole': WHATEVER THE INPUT: true; the input reads as it did. -/
def routerWholeSpec : ChangeSpec := { name := "routerWhole", fn := fun _ => fun
  | [d1, d2, d3] => { results := [.lit (.bool true)], args := [d1, d2, d3] }
  | _ => none }
def routerWholeRow : OpenClaim := { program := "ytadjadakncidgaa", sum := "2903df3039e6e3bfb1eafb6373d744f89a3ec894eaedd4cff408d8fe0e438b3b", func := "spigot/spigotlaw23.RouterWhole", spec := "routerWhole", inPlace := ["math/bits.Add64"], unfollowed := true, recurses := true, named := ["math/bits.divideError", "math/bits.overflowError"], apart := false }
def RouterWholeSaid : Prop := routerWholeRow.holds Try.pinned (OpenSpec.ofChange routerWholeSpec)

/-- ITS FALSE NEIGHBOUR: 'it returns false'. Refute it at one input. -/
def routerWholeWrong : ChangeSpec := { name := "routerWhole", fn := fun _ => fun
  | [d1, d2, d3] => { results := [.lit (.bool false)], args := [d1, d2, d3] }
  | _ => none }
def RouterWholeWrongFalsely : Prop := routerWholeRow.holds Try.pinned (OpenSpec.ofChange routerWholeWrong)

/-- 'spigotlaw23.RouterLeast': WHATEVER THE INPUT: true; the input reads as it did. -/
def routerLeastSpec : ChangeSpec := { name := "routerLeast", fn := fun _ => fun
  | [d1, d2] => { results := [.lit (.bool true)], args := [d1, d2] }
  | _ => none }
def routerLeastRow : OpenClaim := { program := "ytadjadakncidgaa", sum := "2903df3039e6e3bfb1eafb6373d744f89a3ec894eaedd4cff408d8fe0e438b3b", func := "spigot/spigotlaw23.RouterLeast", spec := "routerLeast", inPlace := ["math/bits.Add64"], unfollowed := true, recurses := true, named := ["math/bits.divideError", "math/bits.overflowError"], apart := false }
def RouterLeastSaid : Prop := routerLeastRow.holds Try.pinned (OpenSpec.ofChange routerLeastSpec)

/-- ITS FALSE NEIGHBOUR: 'it returns false'. Refute it at one input. -/
def routerLeastWrong : ChangeSpec := { name := "routerLeast", fn := fun _ => fun
  | [d1, d2] => { results := [.lit (.bool false)], args := [d1, d2] }
  | _ => none }
def RouterLeastWrongFalsely : Prop := routerLeastRow.holds Try.pinned (OpenSpec.ofChange routerLeastWrong)

/- THE SECOND FORM. 'bulk': how many values and letters a reading holds, each counted each time it is reached (what is shared counts as often as it is met; a slice's spare places count too). A statement '..UptoSaid' is the law's where the arguments, and the package variables that the reading takes, are together of bulk at most 1048576: NARROWER than '..Said'. Prove '..Said' where nothing that the law and all that it calls make is longer than what came in: it says more and counts as full. Else prove '..UptoSaid'. A law counts once. -/
mutual
def uptoBulk {H : Type} : DataW H → Nat
  | .lit (.string bytes) => bytes.length + 1
  | .lit _ => 1
  | .nil => 1
  | .ptr d => uptoBulk d + 1
  | .slice elems spare => uptoBulkAll elems + uptoBulkAll spare + 1
  | .agg parts => uptoBulkAll parts + 1
  | .iface _ d => uptoBulk d + 1
  | .map entries => uptoBulkEntries entries + 1
  | .held _ => 1
def uptoBulkAll {H : Type} : List (DataW H) → Nat
  | [] => 0
  | d :: r => uptoBulk d + uptoBulkAll r
def uptoBulkEntries {H : Type} : List (Lit × DataW H) → Nat
  | [] => 0
  | x :: r => uptoBulkEntry x + uptoBulkEntries r
def uptoBulkEntry {H : Type} : Lit × DataW H → Nat
  | (.string bytes, d) => bytes.length + uptoBulk d + 1
  | (_, d) => uptoBulk d + 1
 end
def uptoSmall : (H : Type) → List (DataW H) → Bool := fun _ ds => decide (uptoBulkAll ds ≤ 1048576)
def OpenSpec.upto (s : _root_.Go.ChangeSpec) : _root_.Go.OpenSpec := { _root_.Go.OpenSpec.ofChange s with cond := some uptoSmall }

/-- 'spigotlaw23.RouterSteps', WHERE WHAT IT READS IS OF BULK AT MOST 1048576: true; the input reads as it did. -/
def routerStepsUptoRow : OpenClaim := { program := "ytadjadakncidgaa", sum := "2903df3039e6e3bfb1eafb6373d744f89a3ec894eaedd4cff408d8fe0e438b3b", func := "spigot/spigotlaw23.RouterSteps", spec := "routerSteps", inPlace := ["math/bits.Add64"], unfollowed := true, recurses := true, named := ["math/bits.divideError", "math/bits.overflowError"], apart := false, narrowed := true }
def RouterStepsUptoSaid : Prop := routerStepsUptoRow.holds Try.pinned (OpenSpec.upto routerStepsSpec)

/-- 'spigotlaw23.RouterRanks', WHERE WHAT IT READS IS OF BULK AT MOST 1048576: true; the input reads as it did. -/
def routerRanksUptoRow : OpenClaim := { program := "ytadjadakncidgaa", sum := "2903df3039e6e3bfb1eafb6373d744f89a3ec894eaedd4cff408d8fe0e438b3b", func := "spigot/spigotlaw23.RouterRanks", spec := "routerRanks", inPlace := ["math/bits.Add64"], unfollowed := true, recurses := true, named := ["math/bits.divideError", "math/bits.overflowError"], apart := false, narrowed := true }
def RouterRanksUptoSaid : Prop := routerRanksUptoRow.holds Try.pinned (OpenSpec.upto routerRanksSpec)

/-- 'spigotlaw23.RouterSplits', WHERE WHAT IT READS IS OF BULK AT MOST 1048576: true; the input reads as it did. -/
def routerSplitsUptoRow : OpenClaim := { program := "ytadjadakncidgaa", sum := "2903df3039e6e3bfb1eafb6373d744f89a3ec894eaedd4cff408d8fe0e438b3b", func := "spigot/spigotlaw23.RouterSplits", spec := "routerSplits", inPlace := ["math/bits.Add64"], unfollowed := true, recurses := true, named := ["math/bits.divideError", "math/bits.overflowError"], apart := false, narrowed := true }
def RouterSplitsUptoSaid : Prop := routerSplitsUptoRow.holds Try.pinned (OpenSpec.upto routerSplitsSpec)

/-- 'spigotlaw23.RouterWhole', WHERE WHAT IT READS IS OF BULK AT MOST 1048576: true; the input reads as it did. -/
def routerWholeUptoRow : OpenClaim := { program := "ytadjadakncidgaa", sum := "2903df3039e6e3bfb1eafb6373d744f89a3ec894eaedd4cff408d8fe0e438b3b", func := "spigot/spigotlaw23.RouterWhole", spec := "routerWhole", inPlace := ["math/bits.Add64"], unfollowed := true, recurses := true, named := ["math/bits.divideError", "math/bits.overflowError"], apart := false, narrowed := true }
def RouterWholeUptoSaid : Prop := routerWholeUptoRow.holds Try.pinned (OpenSpec.upto routerWholeSpec)

/-- 'spigotlaw23.RouterLeast', WHERE WHAT IT READS IS OF BULK AT MOST 1048576: true; the input reads as it did. -/
def routerLeastUptoRow : OpenClaim := { program := "ytadjadakncidgaa", sum := "2903df3039e6e3bfb1eafb6373d744f89a3ec894eaedd4cff408d8fe0e438b3b", func := "spigot/spigotlaw23.RouterLeast", spec := "routerLeast", inPlace := ["math/bits.Add64"], unfollowed := true, recurses := true, named := ["math/bits.divideError", "math/bits.overflowError"], apart := false, narrowed := true }
def RouterLeastUptoSaid : Prop := routerLeastUptoRow.holds Try.pinned (OpenSpec.upto routerLeastSpec)

end Rows
end Go.Proofs.Ytadjadakncidgaa
