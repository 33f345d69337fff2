/- The row of PositionPlays, out of my own walk of it. -/
import Derived.Test.YtenlifjfehnldaaRows
import Derived.Test.YtenlifjfehnldaaWalkPositionPlays
import Derived.WalkKit
import Derived.ProofKit
import Derived.OpenShut
import Derived.ShutString
import Derived.ChangeOld
import Derived.Below
import Derived.SizedLaws
import Derived.Carry
import Derived.Deep.Slices
import Derived.Deep.Fields
import Derived.ChangeSame
import Derived.Lib.SmallJoins
import Derived.Test.YtenlifjfehnldaaWSized
import Derived.Test.YtenlifjfehnldaaRowKit
namespace Go.Proofs.Ytenlifjfehnldaa.positionPlays
open Go.ChangeShapes Go.WideShapes Go.ChangeAt Go.RowKit Go.Deep Go.Proofs.Ytenlifjfehnldaa.Row
open Go.ChangeMaps (open_string shut_string)
open Go.Proofs.YtenlifjfehnldaaW.PrintWords
set_option linter.unusedVariables false
theorem own : ownKnob Try.prog.godebug = none := by kernel_rfl
theorem laidOut : laidOutB Try.prog = true := by kernel_rfl
set_option maxRecDepth 100000 in
theorem lifted (os : Os) (started : os.Started) (H : Type) (enc : TypeId × Value → H) :
    ReturnsInHanded {} Try.checked os 3 .any (Rows.positionPlaysSpec.pre6 enc Try.prog Try.f3 Rows.positionPlaysRow.domain false) (Rows.positionPlaysSpec.post enc Try.prog Try.f3 false true false false) := by
  refine returnsInHanded_of_change_sized (C := Try.checked) own started (by kernel_rfl) Try.func3
    (ChangeSpec.witness6 (enc := enc) (C := Try.checked) false ⟨#[], #[.int .i64 0, .int .i64 0, .slice none 0 0], []⟩ 8 (by kernel_rfl) (by kernel_rfl) (by kernel_rfl) (by kernel_rfl)) ?_
  intro W base args ds gs before hval0 hW hcnd hsz0 _
  have hsz : (DataW.weightsEach Try.prog (Try.f3.params.toList ++ Rows.positionPlaysSpec.plain.varTypes Try.prog) (ds ++ gs)).all (· ≤ reachBytes) = true := hsz0
  have hval : ∀ (j : Nat) t v, Try.f3.params[j]? = some t → args[j]? = some v → Value.okWide Try.prog W .any base t v := hval0
  have hW' := hW
  obtain ⟨p, q, hA0, hV, rfl, hfz, hnd⟩ := hW
  have hA : DataW.TrodAll enc Try.prog W 0 (fun _ => true) true Try.f3.params.toList args.toList ds p := hA0
  rw [Try.params3] at hA hval hsz
  obtain ⟨v0, vs0, d0, ds0, p0, q0, hargs, rfl, rfl, h0, r0⟩ := trodAll_cons hA
  obtain ⟨v1, vs1, d1, ds1, p1, q1, rfl, rfl, rfl, h1, r1⟩ := trodAll_cons r0
  obtain ⟨v2, vs2, d2, ds2, p2, q2, rfl, rfl, rfl, h2, r2⟩ := trodAll_cons r1
  obtain ⟨rfl, rfl, rfl⟩ := trodAll_nil r2
  obtain rfl : args = #[v0, v1, v2] := by cases args; simp_all
  obtain ⟨rfl, rfl⟩ := trodVars_none hV
  have k0 := h0
  have lt0 : ∀ x ∈ p0, x.block < W.heap.size := by obtain ⟨m, hm⟩ := k0; exact DataW.trod_lt m _ _ _ hm
  obtain ⟨a0, rfl, rfl, rfl, w0⟩ := open_int Try.underlying3 (hval 0 3 v0 rfl rfl) h0
  have k1 := h1
  have lt1 : ∀ x ∈ p1, x.block < W.heap.size := by obtain ⟨m, hm⟩ := k1; exact DataW.trod_lt m _ _ _ hm
  obtain ⟨a1, rfl, rfl, rfl, w1⟩ := open_int Try.underlying3 (hval 1 3 v1 rfl rfl) h1
  have k2 := h2
  have lt2 : ∀ x ∈ p2, x.block < W.heap.size := by obtain ⟨m, hm⟩ := k2; exact DataW.trod_lt m _ _ _ hm
  obtain ⟨A2, n2, c2, rfl⟩ := okWide_slice Try.underlying22 (hval 2 22 v2 rfl rfl)
  obtain ⟨l2, rfl, w2⟩ : ∃ l2 : List (Int × Int × Int × Int × Int × Bool), l2.length = n2 ∧ ((A2 = none ∧ c2 = 0 ∧ l2 = []) ∨ ∃ x, A2 = some x ∧ l2.length ≤ c2 ∧ c2 ≤ maxLen ∧ ∀ i (h : i < l2.length), W.cell? (x.add (i * 6 + 0)) = some (.int .i64 l2[i].1) ∧ W.cell? (x.add (i * 6 + 1)) = some (.int .i64 l2[i].2.1) ∧ W.cell? (x.add (i * 6 + 2)) = some (.int .i64 l2[i].2.2.1) ∧ W.cell? (x.add (i * 6 + 3)) = some (.int .i64 l2[i].2.2.2.1) ∧ W.cell? (x.add (i * 6 + 4)) = some (.int .i64 l2[i].2.2.2.2.1) ∧ W.cell? (x.add (i * 6 + 5)) = some (.bool l2[i].2.2.2.2.2) ∧ (Lit.int .i64 l2[i].1).wf = true ∧ (Lit.int .i64 l2[i].2.1).wf = true ∧ (Lit.int .i64 l2[i].2.2.1).wf = true ∧ (Lit.int .i64 l2[i].2.2.2.1).wf = true ∧ (Lit.int .i64 l2[i].2.2.2.2.1).wf = true) := by
    obtain ⟨fuel, hf⟩ := h2
    rcases open_slice_fields Try.underlying22 Try.underlying30 (by kernel_rfl) (by kernel_rfl) hf with ⟨hcs, _⟩ | ⟨x, l, c, m, D, Pl, hcs, _, hl, hm, hmm, _, hel⟩
    · simp [Value.cells] at hcs
      obtain ⟨rfl, rfl, rfl⟩ := hcs
      exact ⟨[], rfl, .inl ⟨rfl, rfl, rfl⟩⟩
    · simp [Value.cells] at hcs
      obtain ⟨rfl, rfl, rfl⟩ := hcs
      obtain ⟨ll, hll, hp⟩ := list_of (n := n2) (P := fun (i : Nat) (y : Int × Int × Int × Int × Int × Bool) => W.cell? (x.add (i * 6 + 0)) = some (.int .i64 y.1) ∧ W.cell? (x.add (i * 6 + 1)) = some (.int .i64 y.2.1) ∧ W.cell? (x.add (i * 6 + 2)) = some (.int .i64 y.2.2.1) ∧ W.cell? (x.add (i * 6 + 3)) = some (.int .i64 y.2.2.2.1) ∧ W.cell? (x.add (i * 6 + 4)) = some (.int .i64 y.2.2.2.2.1) ∧ W.cell? (x.add (i * 6 + 5)) = some (.bool y.2.2.2.2.2) ∧ (Lit.int .i64 y.1).wf = true ∧ (Lit.int .i64 y.2.1).wf = true ∧ (Lit.int .i64 y.2.2.1).wf = true ∧ (Lit.int .i64 y.2.2.2.1).wf = true ∧ (Lit.int .i64 y.2.2.2.2.1).wf = true) (by
        intro i hi
        obtain ⟨ys, q, _, _, _, hj⟩ := hel i (by rw [hmm]; simp; omega)
        obtain ⟨u0, q0, hcell0, _, hr0⟩ := hj 0 _ rfl
        obtain ⟨b0, eb0, rfl, hw0⟩ := DataW.trod_int Try.underlying3 hr0
        cases eb0
        obtain ⟨u1, q1, hcell1, _, hr1⟩ := hj 1 _ rfl
        obtain ⟨b1, eb1, rfl, hw1⟩ := DataW.trod_int Try.underlying3 hr1
        cases eb1
        obtain ⟨u2, q2, hcell2, _, hr2⟩ := hj 2 _ rfl
        obtain ⟨b2, eb2, rfl, hw2⟩ := DataW.trod_int Try.underlying3 hr2
        cases eb2
        obtain ⟨u3, q3, hcell3, _, hr3⟩ := hj 3 _ rfl
        obtain ⟨b3, eb3, rfl, hw3⟩ := DataW.trod_int Try.underlying3 hr3
        cases eb3
        obtain ⟨u4, q4, hcell4, _, hr4⟩ := hj 4 _ rfl
        obtain ⟨b4, eb4, rfl, hw4⟩ := DataW.trod_int Try.underlying3 hr4
        cases eb4
        obtain ⟨u5, q5, hcell5, _, hr5⟩ := hj 5 _ rfl
        obtain ⟨b5, eb5, rfl⟩ := DataW.trod_bool Try.underlying4 hr5
        cases eb5
        exact ⟨(b0, b1, b2, b3, b4, b5), hcell0, hcell1, hcell2, hcell3, hcell4, hcell5, hw0, hw1, hw2, hw3, hw4⟩)
      subst hll
      exact ⟨ll, rfl, .inr ⟨x, rfl, hl, hm, hp⟩⟩
  clear hA0 hval0 hsz0 hsz
  refine (Walk.PositionPlays a0 a1 A2 c2 l2 W w0 w1 w2).mono fun e W' ⟨he, bel⟩ => ?_
  subst he
  exact ⟨_, rfl, _, _, _, [], _, [], hW', trodAll_mk1 (shut_bool Try.underlying4 _), (trodAll_cons_mk (Below.trod laidOut (by kernel_rfl) (of_decide_eq_true (by kernel_rfl)) k0 bel lt0) (trodAll_cons_mk (Below.trod laidOut (by kernel_rfl) (of_decide_eq_true (by kernel_rfl)) k1 bel lt1) (trodAll_cons_mk (Below.trod laidOut (by kernel_rfl) (of_decide_eq_true (by kernel_rfl)) k2 bel lt2) trodAll_mk0))), rfl, bel.frame _, fun h => by cases h⟩
theorem over : Rows.positionPlaysRow.holds Try.pinned (OpenSpec.ofChange Rows.positionPlaysSpec) :=
  OpenClaim.holds_of_wide 3 Try.f3 rfl rfl rfl rfl rfl rfl rfl ⟨rfl, rfl, rfl, rfl, rfl⟩ rfl rfl rfl rfl rfl (by kernel_rfl) Try.func3 (by kernel_rfl)
    (of_decide_eq_true (by kernel_rfl)) (by unfold Func.isWrapper; first | (rw [if_pos (by decide +kernel)]; kernel_rfl) | (rw [if_neg (by decide +kernel)]; exact ⟨rfl, rfl⟩))
    (fun os started H enc _ => lifted os started H enc)
theorem proved : Rows.PositionPlaysSaid := over
#print axioms proved
end Go.Proofs.Ytenlifjfehnldaa.positionPlays
namespace Go.Proofs.Ytenlifjfehnldaa
/-- The row, under a short name, for the claim. -/
theorem positionPlays_holds : Rows.PositionPlaysSaid := positionPlays.proved
end Go.Proofs.Ytenlifjfehnldaa
