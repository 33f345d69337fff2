/- The row of PositionTurned, out of my own walk of it. -/
import Derived.Test.YtenlifjfehnldaaRows
import Derived.Test.YtenlifjfehnldaaWalkPositionTurned
import Derived.WalkKit
import Derived.ProofKit
import Derived.OpenShut
import Derived.ShutString
import Derived.ChangeOld
import Derived.Below
import Derived.SizedLaws
import Derived.Carry
import Derived.Deep.Slices
import Derived.Deep.Fields
import Derived.ChangeSame
import Derived.Lib.SmallJoins
import Derived.Test.YtenlifjfehnldaaWSized
import Derived.Test.YtenlifjfehnldaaRowKit
namespace Go.Proofs.Ytenlifjfehnldaa.positionTurned
open Go.ChangeShapes Go.WideShapes Go.ChangeAt Go.RowKit Go.Deep Go.Proofs.Ytenlifjfehnldaa.Row
open Go.ChangeMaps (open_string shut_string)
open Go.Proofs.YtenlifjfehnldaaW.PrintWords
set_option linter.unusedVariables false
theorem own : ownKnob Try.prog.godebug = none := by kernel_rfl
theorem laidOut : laidOutB Try.prog = true := by kernel_rfl
set_option maxRecDepth 100000 in
theorem lifted (os : Os) (started : os.Started) (H : Type) (enc : TypeId × Value → H) :
    ReturnsInHanded {} Try.checked os 4 .any (Rows.positionTurnedSpec.pre6 enc Try.prog Try.f4 Rows.positionTurnedRow.domain false) (Rows.positionTurnedSpec.post enc Try.prog Try.f4 false true false false) := by
  refine returnsInHanded_of_change_sized (C := Try.checked) own started (by kernel_rfl) Try.func4
    (ChangeSpec.witness6 (enc := enc) (C := Try.checked) false ⟨#[], #[.slice none 0 0, .agg #[.int .i64 0, .int .i64 0, .int .i64 0, .int .i64 0, .int .i64 0, .bool false]], []⟩ 8 (by kernel_rfl) (by kernel_rfl) (by kernel_rfl) (by kernel_rfl)) ?_
  intro W base args ds gs before hval0 hW hcnd hsz0 _
  have hsz : (DataW.weightsEach Try.prog (Try.f4.params.toList ++ Rows.positionTurnedSpec.plain.varTypes Try.prog) (ds ++ gs)).all (· ≤ reachBytes) = true := hsz0
  have hval : ∀ (j : Nat) t v, Try.f4.params[j]? = some t → args[j]? = some v → Value.okWide Try.prog W .any base t v := hval0
  have hW' := hW
  obtain ⟨p, q, hA0, hV, rfl, hfz, hnd⟩ := hW
  have hA : DataW.TrodAll enc Try.prog W 0 (fun _ => true) true Try.f4.params.toList args.toList ds p := hA0
  rw [Try.params4] at hA hval hsz
  obtain ⟨v0, vs0, d0, ds0, p0, q0, hargs, rfl, rfl, h0, r0⟩ := trodAll_cons hA
  obtain ⟨v1, vs1, d1, ds1, p1, q1, rfl, rfl, rfl, h1, r1⟩ := trodAll_cons r0
  obtain ⟨rfl, rfl, rfl⟩ := trodAll_nil r1
  obtain rfl : args = #[v0, v1] := by cases args; simp_all
  obtain ⟨rfl, rfl⟩ := trodVars_none hV
  have k0 := h0
  have lt0 : ∀ x ∈ p0, x.block < W.heap.size := by obtain ⟨m, hm⟩ := k0; exact DataW.trod_lt m _ _ _ hm
  obtain ⟨A0, n0, c0, rfl⟩ := okWide_slice Try.underlying22 (hval 0 22 v0 rfl rfl)
  obtain ⟨l0, rfl, w0⟩ : ∃ l0 : List (Int × Int × Int × Int × Int × Bool), l0.length = n0 ∧ ((A0 = none ∧ c0 = 0 ∧ l0 = []) ∨ ∃ x, A0 = some x ∧ l0.length ≤ c0 ∧ c0 ≤ maxLen ∧ ∀ i (h : i < l0.length), W.cell? (x.add (i * 6 + 0)) = some (.int .i64 l0[i].1) ∧ W.cell? (x.add (i * 6 + 1)) = some (.int .i64 l0[i].2.1) ∧ W.cell? (x.add (i * 6 + 2)) = some (.int .i64 l0[i].2.2.1) ∧ W.cell? (x.add (i * 6 + 3)) = some (.int .i64 l0[i].2.2.2.1) ∧ W.cell? (x.add (i * 6 + 4)) = some (.int .i64 l0[i].2.2.2.2.1) ∧ W.cell? (x.add (i * 6 + 5)) = some (.bool l0[i].2.2.2.2.2) ∧ (Lit.int .i64 l0[i].1).wf = true ∧ (Lit.int .i64 l0[i].2.1).wf = true ∧ (Lit.int .i64 l0[i].2.2.1).wf = true ∧ (Lit.int .i64 l0[i].2.2.2.1).wf = true ∧ (Lit.int .i64 l0[i].2.2.2.2.1).wf = true) := by
    obtain ⟨fuel, hf⟩ := h0
    rcases open_slice_fields Try.underlying22 Try.underlying30 (by kernel_rfl) (by kernel_rfl) hf with ⟨hcs, _⟩ | ⟨x, l, c, m, D, Pl, hcs, _, hl, hm, hmm, _, hel⟩
    · simp [Value.cells] at hcs
      obtain ⟨rfl, rfl, rfl⟩ := hcs
      exact ⟨[], rfl, .inl ⟨rfl, rfl, rfl⟩⟩
    · simp [Value.cells] at hcs
      obtain ⟨rfl, rfl, rfl⟩ := hcs
      obtain ⟨ll, hll, hp⟩ := list_of (n := n0) (P := fun (i : Nat) (y : Int × Int × Int × Int × Int × Bool) => W.cell? (x.add (i * 6 + 0)) = some (.int .i64 y.1) ∧ W.cell? (x.add (i * 6 + 1)) = some (.int .i64 y.2.1) ∧ W.cell? (x.add (i * 6 + 2)) = some (.int .i64 y.2.2.1) ∧ W.cell? (x.add (i * 6 + 3)) = some (.int .i64 y.2.2.2.1) ∧ W.cell? (x.add (i * 6 + 4)) = some (.int .i64 y.2.2.2.2.1) ∧ W.cell? (x.add (i * 6 + 5)) = some (.bool y.2.2.2.2.2) ∧ (Lit.int .i64 y.1).wf = true ∧ (Lit.int .i64 y.2.1).wf = true ∧ (Lit.int .i64 y.2.2.1).wf = true ∧ (Lit.int .i64 y.2.2.2.1).wf = true ∧ (Lit.int .i64 y.2.2.2.2.1).wf = true) (by
        intro i hi
        obtain ⟨ys, q, _, _, _, hj⟩ := hel i (by rw [hmm]; simp; omega)
        obtain ⟨u0, q0, hcell0, _, hr0⟩ := hj 0 _ rfl
        obtain ⟨b0, eb0, rfl, hw0⟩ := DataW.trod_int Try.underlying3 hr0
        cases eb0
        obtain ⟨u1, q1, hcell1, _, hr1⟩ := hj 1 _ rfl
        obtain ⟨b1, eb1, rfl, hw1⟩ := DataW.trod_int Try.underlying3 hr1
        cases eb1
        obtain ⟨u2, q2, hcell2, _, hr2⟩ := hj 2 _ rfl
        obtain ⟨b2, eb2, rfl, hw2⟩ := DataW.trod_int Try.underlying3 hr2
        cases eb2
        obtain ⟨u3, q3, hcell3, _, hr3⟩ := hj 3 _ rfl
        obtain ⟨b3, eb3, rfl, hw3⟩ := DataW.trod_int Try.underlying3 hr3
        cases eb3
        obtain ⟨u4, q4, hcell4, _, hr4⟩ := hj 4 _ rfl
        obtain ⟨b4, eb4, rfl, hw4⟩ := DataW.trod_int Try.underlying3 hr4
        cases eb4
        obtain ⟨u5, q5, hcell5, _, hr5⟩ := hj 5 _ rfl
        obtain ⟨b5, eb5, rfl⟩ := DataW.trod_bool Try.underlying4 hr5
        cases eb5
        exact ⟨(b0, b1, b2, b3, b4, b5), hcell0, hcell1, hcell2, hcell3, hcell4, hcell5, hw0, hw1, hw2, hw3, hw4⟩)
      subst hll
      exact ⟨ll, rfl, .inr ⟨x, rfl, hl, hm, hp⟩⟩
  have k1 := h1
  have lt1 : ∀ x ∈ p1, x.block < W.heap.size := by obtain ⟨m, hm⟩ := k1; exact DataW.trod_lt m _ _ _ hm
  obtain ⟨cs1, rfl, hsz1, hf1⟩ := open_aggs Try.underlying30 (by kernel_rfl) (by kernel_rfl) (hval 1 30 v1 rfl rfl) h1
  obtain ⟨l1⟩ := cs1
  obtain ⟨x1_0, x1_1, x1_2, x1_3, x1_4, x1_5, rfl⟩ := list6 hsz1
  obtain ⟨c1_0, n1_0, y1_0, hc1_0, ht1_0⟩ := hf1 0 _ rfl
  obtain rfl : x1_0 = c1_0 := by simpa using hc1_0
  obtain ⟨a1_0, e1_0, rfl, w1_0⟩ := DataW.trod_int Try.underlying3 ht1_0
  cases e1_0
  obtain ⟨c1_1, n1_1, y1_1, hc1_1, ht1_1⟩ := hf1 1 _ rfl
  obtain rfl : x1_1 = c1_1 := by simpa using hc1_1
  obtain ⟨a1_1, e1_1, rfl, w1_1⟩ := DataW.trod_int Try.underlying3 ht1_1
  cases e1_1
  obtain ⟨c1_2, n1_2, y1_2, hc1_2, ht1_2⟩ := hf1 2 _ rfl
  obtain rfl : x1_2 = c1_2 := by simpa using hc1_2
  obtain ⟨a1_2, e1_2, rfl, w1_2⟩ := DataW.trod_int Try.underlying3 ht1_2
  cases e1_2
  obtain ⟨c1_3, n1_3, y1_3, hc1_3, ht1_3⟩ := hf1 3 _ rfl
  obtain rfl : x1_3 = c1_3 := by simpa using hc1_3
  obtain ⟨a1_3, e1_3, rfl, w1_3⟩ := DataW.trod_int Try.underlying3 ht1_3
  cases e1_3
  obtain ⟨c1_4, n1_4, y1_4, hc1_4, ht1_4⟩ := hf1 4 _ rfl
  obtain rfl : x1_4 = c1_4 := by simpa using hc1_4
  obtain ⟨a1_4, e1_4, rfl, w1_4⟩ := DataW.trod_int Try.underlying3 ht1_4
  cases e1_4
  obtain ⟨c1_5, n1_5, y1_5, hc1_5, ht1_5⟩ := hf1 5 _ rfl
  obtain rfl : x1_5 = c1_5 := by simpa using hc1_5
  obtain ⟨a1_5, e1_5, rfl⟩ := DataW.trod_bool Try.underlying4 ht1_5
  cases e1_5
  clear hA0 hval0 hsz0 hsz
  refine (Walk.PositionTurned A0 c0 l0 a1_0 a1_1 a1_2 a1_3 a1_4 a1_5 W w0 w1_0 w1_1 w1_2 w1_3 w1_4).mono fun e W' ⟨he, bel⟩ => ?_
  subst he
  exact ⟨_, rfl, _, _, _, [], _, [], hW', trodAll_mk1 (shut_bool Try.underlying4 _), (trodAll_cons_mk (Below.trod laidOut (by kernel_rfl) (of_decide_eq_true (by kernel_rfl)) k0 bel lt0) (trodAll_cons_mk (Below.trod laidOut (by kernel_rfl) (of_decide_eq_true (by kernel_rfl)) k1 bel lt1) trodAll_mk0)), rfl, bel.frame _, fun h => by cases h⟩
theorem over : Rows.positionTurnedRow.holds Try.pinned (OpenSpec.ofChange Rows.positionTurnedSpec) :=
  OpenClaim.holds_of_wide 4 Try.f4 rfl rfl rfl rfl rfl rfl rfl ⟨rfl, rfl, rfl, rfl, rfl⟩ rfl rfl rfl rfl rfl (by kernel_rfl) Try.func4 (by kernel_rfl)
    (of_decide_eq_true (by kernel_rfl)) (by unfold Func.isWrapper; first | (rw [if_pos (by decide +kernel)]; kernel_rfl) | (rw [if_neg (by decide +kernel)]; exact ⟨rfl, rfl⟩))
    (fun os started H enc _ => lifted os started H enc)
theorem proved : Rows.PositionTurnedSaid := over
#print axioms proved
end Go.Proofs.Ytenlifjfehnldaa.positionTurned
namespace Go.Proofs.Ytenlifjfehnldaa
/-- The row, under a short name, for the claim. -/
theorem positionTurned_holds : Rows.PositionTurnedSaid := positionTurned.proved
end Go.Proofs.Ytenlifjfehnldaa
