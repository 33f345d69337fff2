/-
  No cell of these rows narrows 'for every input' (looked for: loops, veiled, ifaces, maps, wideKeys, modest, calm, conditions, laid).
  DERIVED. THE GIVEN ROWS OF THIS SEAT. 3 by the template 'for every input the law returns true; each argument reads behind the call as it read before'; 0 by the template 'total and deterministic' (their statements: YtmeengcbfhhncaaTotals.lean).
  GIVEN WITH THE SEED: the statements are not yours to turn. If you find one false, say at which input.
  Laid BY PROGRAM, IN A SANDBOX (cutbox-rows.mjs): the forced cells as the released guide's own fill.sh prints them over the translation 763a6f9dad7b9d26… (all of the seat's roots in one cut). By AI agents, Wed Nov 11 2026. No macro, syntax, notation, axiom, sorry.
-/
import Derived.Test.YtmeengcbfhhncaaChecked
import GoSem.Claim
import GoSem.ClaimJoined
import GoSem.ClaimMapViews
import Derived.JoinedTies
import Derived.KernelRfl
namespace Go.Proofs.Ytmeengcbfhhncaa
/- THE CELL 'sum', in the pinned program and in every row, IS THE sha256 OF THE DUMP (.gsa) THAT YtmeengcbfhhncaaProg.lean LOADS. Nothing in Lean hashes anything: it is a label: what it is worth is what the hold of that sum in a sandbox is worth. -/
noncomputable def Try.pinned : Pinned := { name := "ytmeengcbfhhncaa", sum := "763a6f9dad7b9d2693ba5a5f17cad100fb4ec3fe13934e1c2c1ed800e00f12b0", checked := Try.checked }
namespace Rows
def none {H : Type} : Left H := { results := [], args := [] }

/-- 'spigotlaw16.GateChecks': WHATEVER THE INPUT: true; the input reads as it did. -/
def gateChecksSpec : ChangeSpec := { name := "gateChecks", fn := fun _ => fun
  | [d1, d2] => { results := [.lit (.bool true)], args := [d1, d2] }
  | _ => none }
def gateChecksRow : OpenClaim := { program := "ytmeengcbfhhncaa", sum := "763a6f9dad7b9d2693ba5a5f17cad100fb4ec3fe13934e1c2c1ed800e00f12b0", func := "spigot/spigotlaw16.GateChecks", spec := "gateChecks", inPlace := ["math/bits.Add64"], unfollowed := true, recurses := true, named := ["math/bits.divideError", "math/bits.overflowError"], apart := false }
def GateChecksSaid : Prop := gateChecksRow.holds Try.pinned (OpenSpec.ofChange gateChecksSpec)

/-- ITS FALSE NEIGHBOUR: 'it returns false'. Refute it at one input. -/
def gateChecksWrong : ChangeSpec := { name := "gateChecks", fn := fun _ => fun
  | [d1, d2] => { results := [.lit (.bool false)], args := [d1, d2] }
  | _ => none }
def GateChecksWrongFalsely : Prop := gateChecksRow.holds Try.pinned (OpenSpec.ofChange gateChecksWrong)

/-- 'spigotlaw16.GateFills': WHATEVER THE INPUT: true; the input reads as it did. -/
def gateFillsSpec : ChangeSpec := { name := "gateFills", fn := fun _ => fun
  | [d1, d2, d3] => { results := [.lit (.bool true)], args := [d1, d2, d3] }
  | _ => none }
def gateFillsRow : OpenClaim := { program := "ytmeengcbfhhncaa", sum := "763a6f9dad7b9d2693ba5a5f17cad100fb4ec3fe13934e1c2c1ed800e00f12b0", func := "spigot/spigotlaw16.GateFills", spec := "gateFills", inPlace := ["math/bits.Add64"], unfollowed := true, recurses := true, named := ["math/bits.divideError", "math/bits.overflowError"], apart := false }
def GateFillsSaid : Prop := gateFillsRow.holds Try.pinned (OpenSpec.ofChange gateFillsSpec)

/-- ITS FALSE NEIGHBOUR: 'it returns false'. Refute it at one input. -/
def gateFillsWrong : ChangeSpec := { name := "gateFills", fn := fun _ => fun
  | [d1, d2, d3] => { results := [.lit (.bool false)], args := [d1, d2, d3] }
  | _ => none }
def GateFillsWrongFalsely : Prop := gateFillsRow.holds Try.pinned (OpenSpec.ofChange gateFillsWrong)

/-- 'spigotlaw16.GateCovers': WHATEVER THE INPUT: true; the input reads as it did. -/
def gateCoversSpec : ChangeSpec := { name := "gateCovers", fn := fun _ => fun
  | [d1, d2, d3] => { results := [.lit (.bool true)], args := [d1, d2, d3] }
  | _ => none }
def gateCoversRow : OpenClaim := { program := "ytmeengcbfhhncaa", sum := "763a6f9dad7b9d2693ba5a5f17cad100fb4ec3fe13934e1c2c1ed800e00f12b0", func := "spigot/spigotlaw16.GateCovers", spec := "gateCovers", inPlace := ["math/bits.Add64"], unfollowed := true, recurses := true, named := ["math/bits.divideError", "math/bits.overflowError"], apart := false }
def GateCoversSaid : Prop := gateCoversRow.holds Try.pinned (OpenSpec.ofChange gateCoversSpec)

/-- ITS FALSE NEIGHBOUR: 'it returns false'. Refute it at one input. -/
def gateCoversWrong : ChangeSpec := { name := "gateCovers", fn := fun _ => fun
  | [d1, d2, d3] => { results := [.lit (.bool false)], args := [d1, d2, d3] }
  | _ => none }
def GateCoversWrongFalsely : Prop := gateCoversRow.holds Try.pinned (OpenSpec.ofChange gateCoversWrong)

/- THE SECOND FORM. 'bulk': how many values and letters a reading holds, each counted each time it is reached (what is shared counts as often as it is met; a slice's spare places count too). A statement '..UptoSaid' is the law's where the arguments, and the package variables that the reading takes, are together of bulk at most 1048576: NARROWER than '..Said'. Prove '..Said' where nothing that the law and all that it calls make is longer than what came in: it says more and counts as full. Else prove '..UptoSaid'. A law counts once. -/
mutual
def uptoBulk {H : Type} : DataW H → Nat
  | .lit (.string bytes) => bytes.length + 1
  | .lit _ => 1
  | .nil => 1
  | .ptr d => uptoBulk d + 1
  | .slice elems spare => uptoBulkAll elems + uptoBulkAll spare + 1
  | .agg parts => uptoBulkAll parts + 1
  | .iface _ d => uptoBulk d + 1
  | .map entries => uptoBulkEntries entries + 1
  | .held _ => 1
def uptoBulkAll {H : Type} : List (DataW H) → Nat
  | [] => 0
  | d :: r => uptoBulk d + uptoBulkAll r
def uptoBulkEntries {H : Type} : List (Lit × DataW H) → Nat
  | [] => 0
  | x :: r => uptoBulkEntry x + uptoBulkEntries r
def uptoBulkEntry {H : Type} : Lit × DataW H → Nat
  | (.string bytes, d) => bytes.length + uptoBulk d + 1
  | (_, d) => uptoBulk d + 1
 end
def uptoSmall : (H : Type) → List (DataW H) → Bool := fun _ ds => decide (uptoBulkAll ds ≤ 1048576)
def OpenSpec.upto (s : _root_.Go.ChangeSpec) : _root_.Go.OpenSpec := { _root_.Go.OpenSpec.ofChange s with cond := some uptoSmall }

/-- 'spigotlaw16.GateChecks', WHERE WHAT IT READS IS OF BULK AT MOST 1048576: true; the input reads as it did. -/
def gateChecksUptoRow : OpenClaim := { program := "ytmeengcbfhhncaa", sum := "763a6f9dad7b9d2693ba5a5f17cad100fb4ec3fe13934e1c2c1ed800e00f12b0", func := "spigot/spigotlaw16.GateChecks", spec := "gateChecks", inPlace := ["math/bits.Add64"], unfollowed := true, recurses := true, named := ["math/bits.divideError", "math/bits.overflowError"], apart := false, narrowed := true }
def GateChecksUptoSaid : Prop := gateChecksUptoRow.holds Try.pinned (OpenSpec.upto gateChecksSpec)

/-- 'spigotlaw16.GateFills', WHERE WHAT IT READS IS OF BULK AT MOST 1048576: true; the input reads as it did. -/
def gateFillsUptoRow : OpenClaim := { program := "ytmeengcbfhhncaa", sum := "763a6f9dad7b9d2693ba5a5f17cad100fb4ec3fe13934e1c2c1ed800e00f12b0", func := "spigot/spigotlaw16.GateFills", spec := "gateFills", inPlace := ["math/bits.Add64"], unfollowed := true, recurses := true, named := ["math/bits.divideError", "math/bits.overflowError"], apart := false, narrowed := true }
def GateFillsUptoSaid : Prop := gateFillsUptoRow.holds Try.pinned (OpenSpec.upto gateFillsSpec)

/-- 'spigotlaw16.GateCovers', WHERE WHAT IT READS IS OF BULK AT MOST 1048576: true; the input reads as it did. -/
def gateCoversUptoRow : OpenClaim := { program := "ytmeengcbfhhncaa", sum := "763a6f9dad7b9d2693ba5a5f17cad100fb4ec3fe13934e1c2c1ed800e00f12b0", func := "spigot/spigotlaw16.GateCovers", spec := "gateCovers", inPlace := ["math/bits.Add64"], unfollowed := true, recurses := true, named := ["math/bits.divideError", "math/bits.overflowError"], apart := false, narrowed := true }
def GateCoversUptoSaid : Prop := gateCoversUptoRow.holds Try.pinned (OpenSpec.upto gateCoversSpec)

end Rows
end Go.Proofs.Ytmeengcbfhhncaa
