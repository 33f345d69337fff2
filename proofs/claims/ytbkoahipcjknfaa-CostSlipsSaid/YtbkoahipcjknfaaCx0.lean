-- written by mp.py (my program over the kit's print)
import Derived.Test.YtbkoahipcjknfaaProg
import Derived.Below
import Derived.Deep.Draws
import Derived.Deep.AppendLies
import Derived.Maps.AppendAt
import Derived.OwnWalk
import Derived.Laws.BytesArg
import Derived.Laws.MakeOwn
import Derived.Laws.OwnMore
import Derived.Deep.OwnRows
import Derived.Tactics
import Derived.Lib.ConvBytes
import Derived.Laws.Slices
import Derived.WalkKit
import Derived.KernelRfl
import Derived.RowKit3
import Derived.Deep.LoopGhost
import Derived.Deep.QuietTactic
import Derived.BigQuiet
import Derived.WideLaws
import Derived.Deep.DeepCutAuto
import Derived.Deep.CutBlock
import Derived.Deep.RegionHeld3
import Derived.Laws.Rows
import Derived.Lib.AppendStr
import Derived.ArgAppend
import Derived.Laws.IdiomCopy
import Derived.OrdersHeld
import Derived.Laws.BitsLemmas
import Derived.RowKit
import Derived.Test.YtbkoahipcjknfaaWWords
import Derived.Test.YtbkoahipcjknfaaWLast
import Derived.Test.YtbkoahipcjknfaaWTab
import Derived.Test.YtbkoahipcjknfaaWFour
import Derived.Test.YtbkoahipcjknfaaWQPut
import Derived.Test.YtbkoahipcjknfaaWApart
import Derived.Test.YtbkoahipcjknfaaWArr
import Derived.Test.YtbkoahipcjknfaaWZeros
import Derived.Test.YtbkoahipcjknfaaWFoot
import Derived.Test.YtbkoahipcjknfaaWKept
import Derived.Test.YtbkoahipcjknfaaWShare
import Derived.Test.YtbkoahipcjknfaaWN
import Derived.Test.YtbkoahipcjknfaaWFootNe
import Derived.Test.YtbkoahipcjknfaaWAt
import Derived.Test.YtbkoahipcjknfaaWEqStruct
import Derived.Test.YtbkoahipcjknfaaWRepsOne
import Derived.Test.YtbkoahipcjknfaaWInv
import Derived.Test.YtbkoahipcjknfaaWInvWords
import Derived.Test.YtbkoahipcjknfaaWGuard
import Derived.Test.YtbkoahipcjknfaaWNEv
import Derived.Test.YtbkoahipcjknfaaWMore
import Derived.Test.YtbkoahipcjknfaaHandE
import Derived.Test.YtbkoahipcjknfaaAdd
import Derived.Test.YtbkoahipcjknfaaSumW
import Derived.Test.YtbkoahipcjknfaaHandI
namespace Go.Proofs.Ytbkoahipcjknfaa.C
open Go.RowKit Go.Proofs.Ytbkoahipcjknfaa.Hand Go.Proofs.YtbkoahipcjknfaaW.PrintWords Go.Proofs.YtbkoahipcjknfaaW.PrintLast Go.Proofs.YtbkoahipcjknfaaW.PrintMore
attribute [local go_sem] max2_int min2_int max_two min_two max_three min_three max_four min_four   -- for this text's walks alone
set_option linter.unusedVariables false
set_option linter.unusedSimpArgs false



def errW : Option Int → Value
  | none => .nilIface
  | some c => .iface 0 (.int .i64 c)
theorem errW_none : errW none = .nilIface := rfl
theorem errW_some (c : Int) : errW (some c) = .iface 0 (.int .i64 c) := rfl

theorem info3 : (Try.prog.info? 3).map (fun i => (i.zero, i.size, i.bytes)) = some (some (.int .i64 0), 1, 8) := by kernel_rfl
-- the values' own types
/-! #### struct type 75 -/
structure S75 where
  f0 : Int
  f1 : Int
def z75 : S75 := ⟨(0 : Int), (0 : Int)⟩
def k75 : Kd S75 := Kd.iso (Kd.pair (Kd.int .i64) (Kd.int .i64)) (fun x : S75 => (x.f0, x.f1))
theorem k75_open {w : World} {x : S75} {cs : List Value} (h : k75.K w x cs) : cs = [.int .i64 x.f0, .int .i64 x.f1] := by
  obtain ⟨_, _, rfl, rfl, rfl⟩ := h
  exact rfl
theorem k75_openM {w : World} {base : Nat} {ok : Nat → Prop} {x : S75} {cs : List Value} (h : k75.M w base ok x cs) : cs = [.int .i64 x.f0, .int .i64 x.f1] := by
  obtain ⟨_, _, rfl, rfl, rfl⟩ := h
  exact rfl
theorem k75_mk (w : World) (x : S75)  : k75.K w x [.int .i64 x.f0, .int .i64 x.f1] := ⟨[.int .i64 x.f0], [.int .i64 x.f1], rfl, rfl, rfl⟩
theorem k75_mkM (w : World) (base : Nat) (ok : Nat → Prop) (x : S75)  : k75.M w base ok x [.int .i64 x.f0, .int .i64 x.f1] := ⟨[.int .i64 x.f0], [.int .i64 x.f1], rfl, rfl, rfl⟩
def rd_T75 (xs : List S75) (i : Int) : S75 := xs.getD i.toNat z75
theorem at_T75 {w : World} {A : Option Addr} {n : Nat} {xs : List S75} (h : Kd.C k75 w A n xs) (i : Int) (h0 : 0 ≤ i) (h1 : i < n) : ∃ ad , A = some ad ∧ w.cell? (ad.add (i.toNat * 2)) = some (.int .i64 (rd_T75 xs i).f0) ∧ w.cell? ⟨(ad.add (i.toNat * 2)).block, (ad.add (i.toNat * 2)).off + 1, none⟩ = some (.int .i64 (rd_T75 xs i).f1) := by
  obtain ⟨ad, c, e, _, hK, hc0⟩ := Kd.C_get h z75 i h0 h1
  have hc : ∀ j u, c[j]? = some u → w.cell? (ad.add (i.toNat * 2 + j)) = some u := hc0
  obtain rfl := k75_open hK
  exact ⟨ad, e, hc 0 _ rfl, by rw [← add_field _ _ 1 (by omega)]; exact hc 1 _ rfl⟩

end Go.Proofs.Ytbkoahipcjknfaa.C
