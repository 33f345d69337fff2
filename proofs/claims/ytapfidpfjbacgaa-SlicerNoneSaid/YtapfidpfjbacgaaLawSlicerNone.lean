/- The row of SlicerNone, out of my own walk of it. -/
import Derived.Test.YtapfidpfjbacgaaRows
import Derived.Test.YtapfidpfjbacgaaWalkSlicerNone
import Derived.WalkKit
import Derived.ProofKit
import Derived.OpenShut
import Derived.ShutString
import Derived.ChangeOld
import Derived.Below
import Derived.SizedLaws
import Derived.Carry
import Derived.Deep.Slices
import Derived.Deep.Fields
import Derived.ChangeSame
import Derived.Lib.SmallJoins
import Derived.Test.YtapfidpfjbacgaaWSized
import Derived.Test.YtapfidpfjbacgaaRowKit
namespace Go.Proofs.Ytapfidpfjbacgaa.slicerNone
open Go.ChangeShapes Go.WideShapes Go.ChangeAt Go.RowKit Go.Deep Go.Proofs.Ytapfidpfjbacgaa.Row
open Go.ChangeMaps (open_string shut_string)
open Go.Proofs.YtapfidpfjbacgaaW.PrintWords
set_option linter.unusedVariables false
theorem own : ownKnob Try.prog.godebug = none := by kernel_rfl
theorem laidOut : laidOutB Try.prog = true := by kernel_rfl
set_option maxRecDepth 100000 in
theorem lifted (os : Os) (started : os.Started) (H : Type) (enc : TypeId × Value → H) :
    ReturnsInHanded {} Try.checked os 5 .any (Rows.slicerNoneSpec.pre6 enc Try.prog Try.f5 Rows.slicerNoneRow.domain false) (Rows.slicerNoneSpec.post enc Try.prog Try.f5 false true false false) := by
  refine returnsInHanded_of_change_sized (C := Try.checked) own started (by kernel_rfl) Try.func5
    (ChangeSpec.witness6 (enc := enc) (C := Try.checked) false ⟨#[], #[.agg #[.int .i64 0, .int .i64 0, .int .i64 0, .int .i64 0, .int .i64 0]], []⟩ 8 (by kernel_rfl) (by kernel_rfl) (by kernel_rfl) (by kernel_rfl)) ?_
  intro W base args ds gs before hval0 hW hcnd hsz0 _
  have hsz : (DataW.weightsEach Try.prog (Try.f5.params.toList ++ Rows.slicerNoneSpec.plain.varTypes Try.prog) (ds ++ gs)).all (· ≤ reachBytes) = true := hsz0
  have hval : ∀ (j : Nat) t v, Try.f5.params[j]? = some t → args[j]? = some v → Value.okWide Try.prog W .any base t v := hval0
  have hW' := hW
  obtain ⟨p, q, hA0, hV, rfl, hfz, hnd⟩ := hW
  have hA : DataW.TrodAll enc Try.prog W 0 (fun _ => true) true Try.f5.params.toList args.toList ds p := hA0
  rw [Try.params5] at hA hval hsz
  obtain ⟨v0, vs0, d0, ds0, p0, q0, hargs, rfl, rfl, h0, r0⟩ := trodAll_cons hA
  obtain ⟨rfl, rfl, rfl⟩ := trodAll_nil r0
  obtain rfl : args = #[v0] := by cases args; simp_all
  obtain ⟨rfl, rfl⟩ := trodVars_none hV
  have k0 := h0
  have lt0 : ∀ x ∈ p0, x.block < W.heap.size := by obtain ⟨m, hm⟩ := k0; exact DataW.trod_lt m _ _ _ hm
  obtain ⟨cs0, rfl, hsz0, hf0⟩ := open_aggs Try.underlying26 (by kernel_rfl) (by kernel_rfl) (hval 0 26 v0 rfl rfl) h0
  obtain ⟨l0⟩ := cs0
  obtain ⟨x0_0, x0_1, x0_2, x0_3, x0_4, rfl⟩ := list5 hsz0
  obtain ⟨c0_0, n0_0, y0_0, hc0_0, ht0_0⟩ := hf0 0 _ rfl
  obtain rfl : x0_0 = c0_0 := by simpa using hc0_0
  obtain ⟨a0_0, e0_0, rfl, w0_0⟩ := DataW.trod_int Try.underlying3 ht0_0
  cases e0_0
  obtain ⟨c0_1, n0_1, y0_1, hc0_1, ht0_1⟩ := hf0 1 _ rfl
  obtain rfl : x0_1 = c0_1 := by simpa using hc0_1
  obtain ⟨a0_1, e0_1, rfl, w0_1⟩ := DataW.trod_int Try.underlying3 ht0_1
  cases e0_1
  obtain ⟨c0_2, n0_2, y0_2, hc0_2, ht0_2⟩ := hf0 2 _ rfl
  obtain rfl : x0_2 = c0_2 := by simpa using hc0_2
  obtain ⟨a0_2, e0_2, rfl, w0_2⟩ := DataW.trod_int Try.underlying3 ht0_2
  cases e0_2
  obtain ⟨c0_3, n0_3, y0_3, hc0_3, ht0_3⟩ := hf0 3 _ rfl
  obtain rfl : x0_3 = c0_3 := by simpa using hc0_3
  obtain ⟨a0_3, e0_3, rfl, w0_3⟩ := DataW.trod_int Try.underlying3 ht0_3
  cases e0_3
  obtain ⟨c0_4, n0_4, y0_4, hc0_4, ht0_4⟩ := hf0 4 _ rfl
  obtain rfl : x0_4 = c0_4 := by simpa using hc0_4
  obtain ⟨a0_4, e0_4, rfl, w0_4⟩ := DataW.trod_int Try.underlying3 ht0_4
  cases e0_4
  clear hA0 hval0 hsz0 hsz
  refine (Walk.SlicerNone a0_0 a0_1 a0_2 a0_3 a0_4 W w0_0 w0_1 w0_2 w0_3 w0_4).mono fun e W' ⟨he, bel⟩ => ?_
  subst he
  exact ⟨_, rfl, _, _, _, [], _, [], hW', trodAll_mk1 (shut_bool Try.underlying4 _), (trodAll_cons_mk (Below.trod laidOut (by kernel_rfl) (of_decide_eq_true (by kernel_rfl)) k0 bel lt0) trodAll_mk0), rfl, bel.frame _, fun h => by cases h⟩
theorem over : Rows.slicerNoneRow.holds Try.pinned (OpenSpec.ofChange Rows.slicerNoneSpec) :=
  OpenClaim.holds_of_wide 5 Try.f5 rfl rfl rfl rfl rfl rfl rfl ⟨rfl, rfl, rfl, rfl, rfl⟩ rfl rfl rfl rfl rfl (by kernel_rfl) Try.func5 (by kernel_rfl)
    (of_decide_eq_true (by kernel_rfl)) (by unfold Func.isWrapper; first | (rw [if_pos (by decide +kernel)]; kernel_rfl) | (rw [if_neg (by decide +kernel)]; exact ⟨rfl, rfl⟩))
    (fun os started H enc _ => lifted os started H enc)
theorem proved : Rows.SlicerNoneSaid := over
#print axioms proved
end Go.Proofs.Ytapfidpfjbacgaa.slicerNone
namespace Go.Proofs.Ytapfidpfjbacgaa
/-- The row, under a short name, for the claim. -/
theorem slicerNone_holds : Rows.SlicerNoneSaid := slicerNone.proved
end Go.Proofs.Ytapfidpfjbacgaa
