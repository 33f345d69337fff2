/- The row of SlicerPlays, out of my own walk of it. -/
import Derived.Test.YtapfidpfjbacgaaRows
import Derived.Test.YtapfidpfjbacgaaWalkSlicerPlays
import Derived.WalkKit
import Derived.ProofKit
import Derived.OpenShut
import Derived.ShutString
import Derived.ChangeOld
import Derived.Below
import Derived.SizedLaws
import Derived.Carry
import Derived.Deep.Slices
import Derived.Deep.Fields
import Derived.ChangeSame
import Derived.Lib.SmallJoins
import Derived.Test.YtapfidpfjbacgaaWSized
import Derived.Test.YtapfidpfjbacgaaRowKit
namespace Go.Proofs.Ytapfidpfjbacgaa.slicerPlays
open Go.ChangeShapes Go.WideShapes Go.ChangeAt Go.RowKit Go.Deep Go.Proofs.Ytapfidpfjbacgaa.Row
open Go.ChangeMaps (open_string shut_string)
open Go.Proofs.YtapfidpfjbacgaaW.PrintWords
set_option linter.unusedVariables false
theorem own : ownKnob Try.prog.godebug = none := by kernel_rfl
theorem laidOut : laidOutB Try.prog = true := by kernel_rfl
theorem list14 {α : Type} {l : List α} (h : l.length = 14) : ∃ a0 a1 a2 a3 a4 a5 a6 a7 a8 a9 a10 a11 a12 a13, l = [a0, a1, a2, a3, a4, a5, a6, a7, a8, a9, a10, a11, a12, a13] := match l, h with | [a0, a1, a2, a3, a4, a5, a6, a7, a8, a9, a10, a11, a12, a13], _ => ⟨a0, a1, a2, a3, a4, a5, a6, a7, a8, a9, a10, a11, a12, a13, rfl⟩
set_option maxRecDepth 100000 in
theorem lifted (os : Os) (started : os.Started) (H : Type) (enc : TypeId × Value → H) :
    ReturnsInHanded {} Try.checked os 4 .any (Rows.slicerPlaysSpec.pre6 enc Try.prog Try.f4 Rows.slicerPlaysRow.domain false) (Rows.slicerPlaysSpec.post enc Try.prog Try.f4 false true false false) := by
  refine returnsInHanded_of_change_sized (C := Try.checked) own started (by kernel_rfl) Try.func4
    (ChangeSpec.witness6 (enc := enc) (C := Try.checked) false ⟨#[], #[.agg #[.int .i64 0, .string ByteArray.empty, .string ByteArray.empty, .string ByteArray.empty, .string ByteArray.empty, .int .i64 0, .int .i64 0, .int .i64 0, .int .i64 0, .int .i64 0, .int .i64 0, .int .i64 0, .int .i64 0, .slice none 0 0], .int .i64 0, .slice none 0 0], []⟩ 8 (by kernel_rfl) (by kernel_rfl) (by kernel_rfl) (by kernel_rfl)) ?_
  intro W base args ds gs before hval0 hW hcnd hsz0 _
  have hsz : (DataW.weightsEach Try.prog (Try.f4.params.toList ++ Rows.slicerPlaysSpec.plain.varTypes Try.prog) (ds ++ gs)).all (· ≤ reachBytes) = true := hsz0
  have hval : ∀ (j : Nat) t v, Try.f4.params[j]? = some t → args[j]? = some v → Value.okWide Try.prog W .any base t v := hval0
  have hW' := hW
  obtain ⟨p, q, hA0, hV, rfl, hfz, hnd⟩ := hW
  have hA : DataW.TrodAll enc Try.prog W 0 (fun _ => true) true Try.f4.params.toList args.toList ds p := hA0
  rw [Try.params4] at hA hval hsz
  obtain ⟨v0, vs0, d0, ds0, p0, q0, hargs, rfl, rfl, h0, r0⟩ := trodAll_cons hA
  obtain ⟨v1, vs1, d1, ds1, p1, q1, rfl, rfl, rfl, h1, r1⟩ := trodAll_cons r0
  obtain ⟨v2, vs2, d2, ds2, p2, q2, rfl, rfl, rfl, h2, r2⟩ := trodAll_cons r1
  obtain ⟨rfl, rfl, rfl⟩ := trodAll_nil r2
  obtain rfl : args = #[v0, v1, v2] := by cases args; simp_all
  obtain ⟨rfl, rfl⟩ := trodVars_none hV
  have k0 := h0
  have lt0 : ∀ x ∈ p0, x.block < W.heap.size := by obtain ⟨m, hm⟩ := k0; exact DataW.trod_lt m _ _ _ hm
  obtain ⟨cs0, rfl, hsz0, hf0⟩ := open_aggs Try.underlying24 (by kernel_rfl) (by kernel_rfl) (hval 0 24 v0 rfl rfl) h0
  obtain ⟨l0⟩ := cs0
  obtain ⟨x0_0, x0_1, x0_2, x0_3, x0_4, x0_5, x0_6, x0_7, x0_8, x0_9, x0_10, x0_11, x0_12, x0_13, rfl⟩ := list14 hsz0
  obtain ⟨c0_0, n0_0, y0_0, hc0_0, ht0_0⟩ := hf0 0 _ rfl
  obtain rfl : x0_0 = c0_0 := by simpa using hc0_0
  obtain ⟨a0_0, e0_0, rfl, w0_0⟩ := DataW.trod_int Try.underlying3 ht0_0
  cases e0_0
  obtain ⟨c0_1, n0_1, y0_1, hc0_1, ht0_1⟩ := hf0 1 _ rfl
  obtain rfl : x0_1 = c0_1 := by simpa using hc0_1
  obtain ⟨a0_1, e0_1, rfl, w0_1⟩ := DataW.trod_string Try.underlying9 ht0_1
  cases e0_1
  obtain ⟨c0_2, n0_2, y0_2, hc0_2, ht0_2⟩ := hf0 2 _ rfl
  obtain rfl : x0_2 = c0_2 := by simpa using hc0_2
  obtain ⟨a0_2, e0_2, rfl, w0_2⟩ := DataW.trod_string Try.underlying9 ht0_2
  cases e0_2
  obtain ⟨c0_3, n0_3, y0_3, hc0_3, ht0_3⟩ := hf0 3 _ rfl
  obtain rfl : x0_3 = c0_3 := by simpa using hc0_3
  obtain ⟨a0_3, e0_3, rfl, w0_3⟩ := DataW.trod_string Try.underlying9 ht0_3
  cases e0_3
  obtain ⟨c0_4, n0_4, y0_4, hc0_4, ht0_4⟩ := hf0 4 _ rfl
  obtain rfl : x0_4 = c0_4 := by simpa using hc0_4
  obtain ⟨a0_4, e0_4, rfl, w0_4⟩ := DataW.trod_string Try.underlying9 ht0_4
  cases e0_4
  obtain ⟨c0_5, n0_5, y0_5, hc0_5, ht0_5⟩ := hf0 5 _ rfl
  obtain rfl : x0_5 = c0_5 := by simpa using hc0_5
  obtain ⟨a0_5, e0_5, rfl, w0_5⟩ := DataW.trod_int Try.underlying3 ht0_5
  cases e0_5
  obtain ⟨c0_6, n0_6, y0_6, hc0_6, ht0_6⟩ := hf0 6 _ rfl
  obtain rfl : x0_6 = c0_6 := by simpa using hc0_6
  obtain ⟨a0_6, e0_6, rfl, w0_6⟩ := DataW.trod_int Try.underlying3 ht0_6
  cases e0_6
  obtain ⟨c0_7, n0_7, y0_7, hc0_7, ht0_7⟩ := hf0 7 _ rfl
  obtain rfl : x0_7 = c0_7 := by simpa using hc0_7
  obtain ⟨a0_7, e0_7, rfl, w0_7⟩ := DataW.trod_int Try.underlying3 ht0_7
  cases e0_7
  obtain ⟨c0_8, n0_8, y0_8, hc0_8, ht0_8⟩ := hf0 8 _ rfl
  obtain rfl : x0_8 = c0_8 := by simpa using hc0_8
  obtain ⟨a0_8, e0_8, rfl, w0_8⟩ := DataW.trod_int Try.underlying3 ht0_8
  cases e0_8
  obtain ⟨c0_9, n0_9, y0_9, hc0_9, ht0_9⟩ := hf0 9 _ rfl
  obtain rfl : x0_9 = c0_9 := by simpa using hc0_9
  obtain ⟨a0_9, e0_9, rfl, w0_9⟩ := DataW.trod_int Try.underlying3 ht0_9
  cases e0_9
  obtain ⟨c0_10, n0_10, y0_10, hc0_10, ht0_10⟩ := hf0 10 _ rfl
  obtain rfl : x0_10 = c0_10 := by simpa using hc0_10
  obtain ⟨a0_10, e0_10, rfl, w0_10⟩ := DataW.trod_int Try.underlying3 ht0_10
  cases e0_10
  obtain ⟨c0_11, n0_11, y0_11, hc0_11, ht0_11⟩ := hf0 11 _ rfl
  obtain rfl : x0_11 = c0_11 := by simpa using hc0_11
  obtain ⟨a0_11, e0_11, rfl, w0_11⟩ := DataW.trod_int Try.underlying3 ht0_11
  cases e0_11
  obtain ⟨c0_12, n0_12, y0_12, hc0_12, ht0_12⟩ := hf0 12 _ rfl
  obtain rfl : x0_12 = c0_12 := by simpa using hc0_12
  obtain ⟨a0_12, e0_12, rfl, w0_12⟩ := DataW.trod_int Try.underlying3 ht0_12
  cases e0_12
  obtain ⟨c0_13, n0_13, y0_13, hc0_13, ht0_13⟩ := hf0 13 _ rfl
  obtain rfl : x0_13 = c0_13 := by simpa using hc0_13
  obtain ⟨A0_13, n0_13, k0_13, z0_13, rfl, w0_13⟩ : ∃ A n k zs, x0_13 = .slice A n k ∧ IntRow .i64 W A n k zs := by
    rcases open_ints Try.underlying22 Try.underlying3 (by kernel_rfl) ht0_13 with ⟨hcs, _⟩ | ⟨x, l, c, zs, hcs, _, hl, hm, hz, _, hcell, hwz⟩
    · exact ⟨none, 0, 0, [], by simpa using hcs, .inl ⟨rfl, rfl, rfl, rfl⟩⟩
    · exact ⟨_, _, _, zs, by simpa using hcs, .inr ⟨_, rfl, hl, hm, by simpa using hz, hcell, hwz⟩⟩
  have e0_13 : True := trivial
  cases e0_13
  have k1 := h1
  have lt1 : ∀ x ∈ p1, x.block < W.heap.size := by obtain ⟨m, hm⟩ := k1; exact DataW.trod_lt m _ _ _ hm
  obtain ⟨a1, rfl, rfl, rfl, w1⟩ := open_int Try.underlying3 (hval 1 3 v1 rfl rfl) h1
  have k2 := h2
  have lt2 : ∀ x ∈ p2, x.block < W.heap.size := by obtain ⟨m, hm⟩ := k2; exact DataW.trod_lt m _ _ _ hm
  obtain ⟨A2, n2, c2, rfl⟩ := okWide_slice Try.underlying38 (hval 2 38 v2 rfl rfl)
  obtain ⟨l2, rfl, w2⟩ : ∃ l2 : List (Int × Int × Int × Int × Int), l2.length = n2 ∧ ((A2 = none ∧ c2 = 0 ∧ l2 = []) ∨ ∃ x, A2 = some x ∧ l2.length ≤ c2 ∧ c2 ≤ maxLen ∧ ∀ i (h : i < l2.length), W.cell? (x.add (i * 5 + 0)) = some (.int .i64 l2[i].1) ∧ W.cell? (x.add (i * 5 + 1)) = some (.int .i64 l2[i].2.1) ∧ W.cell? (x.add (i * 5 + 2)) = some (.int .i64 l2[i].2.2.1) ∧ W.cell? (x.add (i * 5 + 3)) = some (.int .i64 l2[i].2.2.2.1) ∧ W.cell? (x.add (i * 5 + 4)) = some (.int .i64 l2[i].2.2.2.2) ∧ (Lit.int .i64 l2[i].1).wf = true ∧ (Lit.int .i64 l2[i].2.1).wf = true ∧ (Lit.int .i64 l2[i].2.2.1).wf = true ∧ (Lit.int .i64 l2[i].2.2.2.1).wf = true ∧ (Lit.int .i64 l2[i].2.2.2.2).wf = true) := by
    obtain ⟨fuel, hf⟩ := h2
    rcases open_slice_fields Try.underlying38 Try.underlying26 (by kernel_rfl) (by kernel_rfl) hf with ⟨hcs, _⟩ | ⟨x, l, c, m, D, Pl, hcs, _, hl, hm, hmm, _, hel⟩
    · simp [Value.cells] at hcs
      obtain ⟨rfl, rfl, rfl⟩ := hcs
      exact ⟨[], rfl, .inl ⟨rfl, rfl, rfl⟩⟩
    · simp [Value.cells] at hcs
      obtain ⟨rfl, rfl, rfl⟩ := hcs
      obtain ⟨ll, hll, hp⟩ := list_of (n := n2) (P := fun (i : Nat) (y : Int × Int × Int × Int × Int) => W.cell? (x.add (i * 5 + 0)) = some (.int .i64 y.1) ∧ W.cell? (x.add (i * 5 + 1)) = some (.int .i64 y.2.1) ∧ W.cell? (x.add (i * 5 + 2)) = some (.int .i64 y.2.2.1) ∧ W.cell? (x.add (i * 5 + 3)) = some (.int .i64 y.2.2.2.1) ∧ W.cell? (x.add (i * 5 + 4)) = some (.int .i64 y.2.2.2.2) ∧ (Lit.int .i64 y.1).wf = true ∧ (Lit.int .i64 y.2.1).wf = true ∧ (Lit.int .i64 y.2.2.1).wf = true ∧ (Lit.int .i64 y.2.2.2.1).wf = true ∧ (Lit.int .i64 y.2.2.2.2).wf = true) (by
        intro i hi
        obtain ⟨ys, q, _, _, _, hj⟩ := hel i (by rw [hmm]; simp; omega)
        obtain ⟨u0, q0, hcell0, _, hr0⟩ := hj 0 _ rfl
        obtain ⟨b0, eb0, rfl, hw0⟩ := DataW.trod_int Try.underlying3 hr0
        cases eb0
        obtain ⟨u1, q1, hcell1, _, hr1⟩ := hj 1 _ rfl
        obtain ⟨b1, eb1, rfl, hw1⟩ := DataW.trod_int Try.underlying3 hr1
        cases eb1
        obtain ⟨u2, q2, hcell2, _, hr2⟩ := hj 2 _ rfl
        obtain ⟨b2, eb2, rfl, hw2⟩ := DataW.trod_int Try.underlying3 hr2
        cases eb2
        obtain ⟨u3, q3, hcell3, _, hr3⟩ := hj 3 _ rfl
        obtain ⟨b3, eb3, rfl, hw3⟩ := DataW.trod_int Try.underlying3 hr3
        cases eb3
        obtain ⟨u4, q4, hcell4, _, hr4⟩ := hj 4 _ rfl
        obtain ⟨b4, eb4, rfl, hw4⟩ := DataW.trod_int Try.underlying3 hr4
        cases eb4
        exact ⟨(b0, b1, b2, b3, b4), hcell0, hcell1, hcell2, hcell3, hcell4, hw0, hw1, hw2, hw3, hw4⟩)
      subst hll
      exact ⟨ll, rfl, .inr ⟨x, rfl, hl, hm, hp⟩⟩
  clear hA0 hval0 hsz0 hsz
  refine (Walk.SlicerPlays a0_0 a0_1 a0_2 a0_3 a0_4 a0_5 a0_6 a0_7 a0_8 a0_9 a0_10 a0_11 a0_12 A0_13 n0_13 k0_13 z0_13 a1 A2 c2 l2 W w0_0 w0_1 w0_2 w0_3 w0_4 w0_5 w0_6 w0_7 w0_8 w0_9 w0_10 w0_11 w0_12 w0_13 w1 w2).mono fun e W' ⟨he, bel⟩ => ?_
  subst he
  exact ⟨_, rfl, _, _, _, [], _, [], hW', trodAll_mk1 (shut_bool Try.underlying4 _), (trodAll_cons_mk (Below.trod laidOut (by kernel_rfl) (of_decide_eq_true (by kernel_rfl)) k0 bel lt0) (trodAll_cons_mk (Below.trod laidOut (by kernel_rfl) (of_decide_eq_true (by kernel_rfl)) k1 bel lt1) (trodAll_cons_mk (Below.trod laidOut (by kernel_rfl) (of_decide_eq_true (by kernel_rfl)) k2 bel lt2) trodAll_mk0))), rfl, bel.frame _, fun h => by cases h⟩
theorem over : Rows.slicerPlaysRow.holds Try.pinned (OpenSpec.ofChange Rows.slicerPlaysSpec) :=
  OpenClaim.holds_of_wide 4 Try.f4 rfl rfl rfl rfl rfl rfl rfl ⟨rfl, rfl, rfl, rfl, rfl⟩ rfl rfl rfl rfl rfl (by kernel_rfl) Try.func4 (by kernel_rfl)
    (of_decide_eq_true (by kernel_rfl)) (by unfold Func.isWrapper; first | (rw [if_pos (by decide +kernel)]; kernel_rfl) | (rw [if_neg (by decide +kernel)]; exact ⟨rfl, rfl⟩))
    (fun os started H enc _ => lifted os started H enc)
theorem proved : Rows.SlicerPlaysSaid := over
#print axioms proved
end Go.Proofs.Ytapfidpfjbacgaa.slicerPlays
namespace Go.Proofs.Ytapfidpfjbacgaa
/-- The row, under a short name, for the claim. -/
theorem slicerPlays_holds : Rows.SlicerPlaysSaid := slicerPlays.proved
end Go.Proofs.Ytapfidpfjbacgaa
