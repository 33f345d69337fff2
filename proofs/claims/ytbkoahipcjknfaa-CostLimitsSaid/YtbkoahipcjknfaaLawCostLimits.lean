/- The row of CostLimits, out of my own walk of it. -/
import Derived.Test.YtbkoahipcjknfaaRows
import Derived.Test.YtbkoahipcjknfaaWalkCostLimits
import Derived.WalkKit
import Derived.ProofKit
import Derived.OpenShut
import Derived.ShutString
import Derived.ChangeOld
import Derived.Below
import Derived.SizedLaws
import Derived.Carry
import Derived.Deep.Slices
import Derived.Deep.Fields
import Derived.ChangeSame
import Derived.Lib.SmallJoins
import Derived.Test.YtbkoahipcjknfaaWSized
import Derived.Test.YtbkoahipcjknfaaRowKit
namespace Go.Proofs.Ytbkoahipcjknfaa.costLimits
open Go.ChangeShapes Go.WideShapes Go.ChangeAt Go.RowKit Go.Deep Go.Proofs.Ytbkoahipcjknfaa.Row
open Go.ChangeMaps (open_string shut_string)
open Go.Proofs.YtbkoahipcjknfaaW.PrintWords
set_option linter.unusedVariables false
theorem own : ownKnob Try.prog.godebug = none := by kernel_rfl
theorem laidOut : laidOutB Try.prog = true := by kernel_rfl
set_option maxRecDepth 100000 in
theorem lifted (os : Os) (started : os.Started) (H : Type) (enc : TypeId × Value → H) :
    ReturnsInHanded {} Try.checked os 14 .any (Rows.costLimitsSpec.pre6 enc Try.prog Try.f14 Rows.costLimitsRow.domain false) (Rows.costLimitsSpec.post enc Try.prog Try.f14 false true false false) := by
  refine returnsInHanded_of_change_sized (C := Try.checked) own started (by kernel_rfl) Try.func14
    (ChangeSpec.witness6 (enc := enc) (C := Try.checked) false ⟨#[], #[.int .i64 0, .int .i64 0, .slice none 0 0], []⟩ 8 (by kernel_rfl) (by kernel_rfl) (by kernel_rfl) (by kernel_rfl)) ?_
  intro W base args ds gs before hval0 hW hcnd hsz0 _
  have hsz : (DataW.weightsEach Try.prog (Try.f14.params.toList ++ Rows.costLimitsSpec.plain.varTypes Try.prog) (ds ++ gs)).all (· ≤ reachBytes) = true := hsz0
  have hval : ∀ (j : Nat) t v, Try.f14.params[j]? = some t → args[j]? = some v → Value.okWide Try.prog W .any base t v := hval0
  have hW' := hW
  obtain ⟨p, q, hA0, hV, rfl, hfz, hnd⟩ := hW
  have hA : DataW.TrodAll enc Try.prog W 0 (fun _ => true) true Try.f14.params.toList args.toList ds p := hA0
  rw [Try.params14] at hA hval hsz
  obtain ⟨v0, vs0, d0, ds0, p0, q0, hargs, rfl, rfl, h0, r0⟩ := trodAll_cons hA
  obtain ⟨v1, vs1, d1, ds1, p1, q1, rfl, rfl, rfl, h1, r1⟩ := trodAll_cons r0
  obtain ⟨v2, vs2, d2, ds2, p2, q2, rfl, rfl, rfl, h2, r2⟩ := trodAll_cons r1
  obtain ⟨rfl, rfl, rfl⟩ := trodAll_nil r2
  obtain rfl : args = #[v0, v1, v2] := by cases args; simp_all
  obtain ⟨rfl, rfl⟩ := trodVars_none hV
  have k0 := h0
  have lt0 : ∀ x ∈ p0, x.block < W.heap.size := by obtain ⟨m, hm⟩ := k0; exact DataW.trod_lt m _ _ _ hm
  obtain ⟨a0, rfl, rfl, rfl, w0⟩ := open_int Try.underlying3 (hval 0 3 v0 rfl rfl) h0
  have k1 := h1
  have lt1 : ∀ x ∈ p1, x.block < W.heap.size := by obtain ⟨m, hm⟩ := k1; exact DataW.trod_lt m _ _ _ hm
  obtain ⟨a1, rfl, rfl, rfl, w1⟩ := open_int Try.underlying3 (hval 1 3 v1 rfl rfl) h1
  have k2 := h2
  have lt2 : ∀ x ∈ p2, x.block < W.heap.size := by obtain ⟨m, hm⟩ := k2; exact DataW.trod_lt m _ _ _ hm
  obtain ⟨A2, n2, c2, rfl⟩ := okWide_slice Try.underlying73 (hval 2 73 v2 rfl rfl)
  obtain ⟨l2, rfl, w2⟩ : ∃ l2 : List (Int × Int), l2.length = n2 ∧ ((A2 = none ∧ c2 = 0 ∧ l2 = []) ∨ ∃ x, A2 = some x ∧ l2.length ≤ c2 ∧ c2 ≤ maxLen ∧ ∀ i (h : i < l2.length), W.cell? (x.add (i * 2 + 0)) = some (.int .i64 l2[i].1) ∧ W.cell? (x.add (i * 2 + 1)) = some (.int .i64 l2[i].2) ∧ (Lit.int .i64 l2[i].1).wf = true ∧ (Lit.int .i64 l2[i].2).wf = true) := by
    obtain ⟨fuel, hf⟩ := h2
    rcases open_slice_fields Try.underlying73 Try.underlying75 (by kernel_rfl) (by kernel_rfl) hf with ⟨hcs, _⟩ | ⟨x, l, c, m, D, Pl, hcs, _, hl, hm, hmm, _, hel⟩
    · simp [Value.cells] at hcs
      obtain ⟨rfl, rfl, rfl⟩ := hcs
      exact ⟨[], rfl, .inl ⟨rfl, rfl, rfl⟩⟩
    · simp [Value.cells] at hcs
      obtain ⟨rfl, rfl, rfl⟩ := hcs
      obtain ⟨ll, hll, hp⟩ := list_of (n := n2) (P := fun (i : Nat) (y : Int × Int) => W.cell? (x.add (i * 2 + 0)) = some (.int .i64 y.1) ∧ W.cell? (x.add (i * 2 + 1)) = some (.int .i64 y.2) ∧ (Lit.int .i64 y.1).wf = true ∧ (Lit.int .i64 y.2).wf = true) (by
        intro i hi
        obtain ⟨ys, q, _, _, _, hj⟩ := hel i (by rw [hmm]; simp; omega)
        obtain ⟨u0, q0, hcell0, _, hr0⟩ := hj 0 _ rfl
        obtain ⟨b0, eb0, rfl, hw0⟩ := DataW.trod_int Try.underlying3 hr0
        cases eb0
        obtain ⟨u1, q1, hcell1, _, hr1⟩ := hj 1 _ rfl
        obtain ⟨b1, eb1, rfl, hw1⟩ := DataW.trod_int Try.underlying3 hr1
        cases eb1
        exact ⟨(b0, b1), hcell0, hcell1, hw0, hw1⟩)
      subst hll
      exact ⟨ll, rfl, .inr ⟨x, rfl, hl, hm, hp⟩⟩
  clear hA0 hval0 hsz0 hsz
  refine (Walk.CostLimits a0 a1 A2 c2 l2 W w0 w1 w2).mono fun e W' ⟨he, bel⟩ => ?_
  subst he
  exact ⟨_, rfl, _, _, _, [], _, [], hW', trodAll_mk1 (shut_bool Try.underlying4 _), (trodAll_cons_mk (Below.trod laidOut (by kernel_rfl) (of_decide_eq_true (by kernel_rfl)) k0 bel lt0) (trodAll_cons_mk (Below.trod laidOut (by kernel_rfl) (of_decide_eq_true (by kernel_rfl)) k1 bel lt1) (trodAll_cons_mk (Below.trod laidOut (by kernel_rfl) (of_decide_eq_true (by kernel_rfl)) k2 bel lt2) trodAll_mk0))), rfl, bel.frame _, fun h => by cases h⟩
theorem over : Rows.costLimitsRow.holds Try.pinned (OpenSpec.ofChange Rows.costLimitsSpec) :=
  OpenClaim.holds_of_wide 14 Try.f14 rfl rfl rfl rfl rfl rfl rfl ⟨rfl, rfl, rfl, rfl, rfl⟩ rfl rfl rfl rfl rfl (by kernel_rfl) Try.func14 (by kernel_rfl)
    (of_decide_eq_true (by kernel_rfl)) (by unfold Func.isWrapper; first | (rw [if_pos (by decide +kernel)]; kernel_rfl) | (rw [if_neg (by decide +kernel)]; exact ⟨rfl, rfl⟩))
    (fun os started H enc _ => lifted os started H enc)
theorem proved : Rows.CostLimitsSaid := over
#print axioms proved
end Go.Proofs.Ytbkoahipcjknfaa.costLimits
namespace Go.Proofs.Ytbkoahipcjknfaa
/-- The row, under a short name, for the claim. -/
theorem costLimits_holds : Rows.CostLimitsSaid := costLimits.proved
end Go.Proofs.Ytbkoahipcjknfaa
