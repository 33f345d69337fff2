/- The row of RulesFinds, out of my own walk of it. -/
import Derived.Test.YtbhbnefifgdioaaRows
import Derived.Test.YtbhbnefifgdioaaWRF
import Derived.WalkKit
import Derived.ProofKit
import Derived.OpenShut
import Derived.ShutString
import Derived.ChangeOld
import Derived.Below
import Derived.SizedLaws
import Derived.Carry
import Derived.Deep.Slices
import Derived.Deep.Fields
import Derived.ChangeSame
import Derived.Lib.SmallJoins
import Derived.Test.YtbhbnefifgdioaaWSized
import Derived.Test.YtbhbnefifgdioaaRowKit
namespace Go.Proofs.Ytbhbnefifgdioaa.rulesFinds
open Go.ChangeShapes Go.WideShapes Go.ChangeAt Go.RowKit Go.Deep Go.Proofs.Ytbhbnefifgdioaa.Row
open Go.ChangeMaps (open_string shut_string)
open Go.Proofs.YtbhbnefifgdioaaW.PrintWords
set_option linter.unusedVariables false
theorem own : ownKnob Try.prog.godebug = none := by kernel_rfl
theorem laidOut : laidOutB Try.prog = true := by kernel_rfl
set_option maxRecDepth 100000 in
theorem lifted (os : Os) (started : os.Started) (H : Type) (enc : TypeId × Value → H) :
    ReturnsInHanded {} Try.checked os 4 .any (Rows.rulesFindsSpec.pre6 enc Try.prog Try.f4 Rows.rulesFindsRow.domain false) (Rows.rulesFindsSpec.post enc Try.prog Try.f4 false true false false) := by
  refine returnsInHanded_of_change_sized (C := Try.checked) own started (by kernel_rfl) Try.func4
    (ChangeSpec.witness6 (enc := enc) (C := Try.checked) false ⟨#[], #[.agg #[.slice none 0 0, .slice none 0 0, .slice none 0 0, .int .i64 0, .int .i64 0, .int .i64 0, .int .i64 0, .int .i64 0, .int .i64 0], .string ByteArray.empty, .int .i64 0], []⟩ 8 (by kernel_rfl) (by kernel_rfl) (by kernel_rfl) (by kernel_rfl)) ?_
  intro W base args ds gs before hval0 hW hcnd hsz0 _
  have hsz : (DataW.weightsEach Try.prog (Try.f4.params.toList ++ Rows.rulesFindsSpec.plain.varTypes Try.prog) (ds ++ gs)).all (· ≤ reachBytes) = true := hsz0
  have hval : ∀ (j : Nat) t v, Try.f4.params[j]? = some t → args[j]? = some v → Value.okWide Try.prog W .any base t v := hval0
  have hW' := hW
  obtain ⟨p, q, hA0, hV, rfl, hfz, hnd⟩ := hW
  have hA : DataW.TrodAll enc Try.prog W 0 (fun _ => true) true Try.f4.params.toList args.toList ds p := hA0
  rw [Try.params4] at hA hval hsz
  obtain ⟨v0, vs0, d0, ds0, p0, q0, hargs, rfl, rfl, h0, r0⟩ := trodAll_cons hA
  obtain ⟨v1, vs1, d1, ds1, p1, q1, rfl, rfl, rfl, h1, r1⟩ := trodAll_cons r0
  obtain ⟨v2, vs2, d2, ds2, p2, q2, rfl, rfl, rfl, h2, r2⟩ := trodAll_cons r1
  obtain ⟨rfl, rfl, rfl⟩ := trodAll_nil r2
  obtain rfl : args = #[v0, v1, v2] := by cases args; simp_all
  obtain ⟨rfl, rfl⟩ := trodVars_none hV
  have k0 := h0
  have lt0 : ∀ x ∈ p0, x.block < W.heap.size := by obtain ⟨m, hm⟩ := k0; exact DataW.trod_lt m _ _ _ hm
  obtain ⟨cs0, rfl, hsz0, hf0⟩ := open_aggs Try.underlying26 (by kernel_rfl) (by kernel_rfl) (hval 0 26 v0 rfl rfl) h0
  obtain ⟨l0⟩ := cs0
  obtain ⟨x0_0, x0_1, x0_2, x0_3, x0_4, x0_5, x0_6, x0_7, x0_8, rfl⟩ := list9 hsz0
  obtain ⟨c0_0, n0_0, y0_0, hc0_0, ht0_0⟩ := hf0 0 _ rfl
  obtain rfl : x0_0 = c0_0 := by simpa using hc0_0
  obtain ⟨A0_0, k0_0, l0_0, rfl, w0_0⟩ : ∃ A k l, x0_0 = .slice A l.length k ∧ ((A = none ∧ k = 0 ∧ l = ([] : List (ByteArray × Int))) ∨ ∃ x, A = some x ∧ l.length ≤ k ∧ k ≤ maxLen ∧ ∀ i (h : i < l.length), W.cell? (x.add (i * 2 + 0)) = some (.string l[i].1) ∧ W.cell? (x.add (i * 2 + 1)) = some (.int .i64 l[i].2) ∧ (Lit.int .i64 l[i].2).wf = true ∧ l[i].1.size ≤ maxLen) := by
    rcases open_slice_fields Try.underlying22 Try.underlying60 (by kernel_rfl) (by kernel_rfl) ht0_0 with ⟨hcs, _⟩ | ⟨x, l, c, m, D, Pl, hcs, _, hl, hm, hmm, _, hel⟩
    · exact ⟨none, 0, [], by simpa using hcs, .inl ⟨rfl, rfl, rfl⟩⟩
    · obtain ⟨ll, hll, hp⟩ := list_of (n := l) (P := fun (i : Nat) (y : ByteArray × Int) => W.cell? (x.add (i * 2 + 0)) = some (.string y.1) ∧ W.cell? (x.add (i * 2 + 1)) = some (.int .i64 y.2) ∧ (Lit.int .i64 y.2).wf = true ∧ y.1.size ≤ maxLen) (by
        intro i hi
        obtain ⟨ys, q, _, _, _, hj⟩ := hel i (by rw [hmm]; split <;> omega)
        obtain ⟨u0, q0, hcell0, _, hr0⟩ := hj 0 _ rfl
        obtain ⟨b0, eb0, rfl, hw0⟩ := DataW.trod_string Try.underlying9 hr0
        cases eb0
        obtain ⟨u1, q1, hcell1, _, hr1⟩ := hj 1 _ rfl
        obtain ⟨b1, eb1, rfl, hw1⟩ := DataW.trod_int Try.underlying3 hr1
        cases eb1
        exact ⟨(b0, b1), hcell0, hcell1, hw1, hw0⟩)
      subst hll
      exact ⟨some x, c, ll, by simpa using hcs, .inr ⟨x, rfl, hl, hm, hp⟩⟩
  have e0_0 : True := trivial
  cases e0_0
  obtain ⟨c0_1, n0_1, y0_1, hc0_1, ht0_1⟩ := hf0 1 _ rfl
  obtain rfl : x0_1 = c0_1 := by simpa using hc0_1
  obtain ⟨A0_1, k0_1, l0_1, rfl, w0_1⟩ : ∃ A k l, x0_1 = .slice A l.length k ∧ ((A = none ∧ k = 0 ∧ l = ([] : List (ByteArray × Int × Int × Int × Int × Int × Int))) ∨ ∃ x, A = some x ∧ l.length ≤ k ∧ k ≤ maxLen ∧ ∀ i (h : i < l.length), W.cell? (x.add (i * 7 + 0)) = some (.string l[i].1) ∧ W.cell? (x.add (i * 7 + 1)) = some (.int .i64 l[i].2.1) ∧ W.cell? (x.add (i * 7 + 2)) = some (.int .i64 l[i].2.2.1) ∧ W.cell? (x.add (i * 7 + 3)) = some (.int .i64 l[i].2.2.2.1) ∧ W.cell? (x.add (i * 7 + 4)) = some (.int .i64 l[i].2.2.2.2.1) ∧ W.cell? (x.add (i * 7 + 5)) = some (.int .i64 l[i].2.2.2.2.2.1) ∧ W.cell? (x.add (i * 7 + 6)) = some (.int .i64 l[i].2.2.2.2.2.2) ∧ (Lit.int .i64 l[i].2.1).wf = true ∧ (Lit.int .i64 l[i].2.2.1).wf = true ∧ (Lit.int .i64 l[i].2.2.2.1).wf = true ∧ (Lit.int .i64 l[i].2.2.2.2.1).wf = true ∧ (Lit.int .i64 l[i].2.2.2.2.2.1).wf = true ∧ (Lit.int .i64 l[i].2.2.2.2.2.2).wf = true ∧ l[i].1.size ≤ maxLen) := by
    rcases open_slice_fields Try.underlying23 Try.underlying41 (by kernel_rfl) (by kernel_rfl) ht0_1 with ⟨hcs, _⟩ | ⟨x, l, c, m, D, Pl, hcs, _, hl, hm, hmm, _, hel⟩
    · exact ⟨none, 0, [], by simpa using hcs, .inl ⟨rfl, rfl, rfl⟩⟩
    · obtain ⟨ll, hll, hp⟩ := list_of (n := l) (P := fun (i : Nat) (y : ByteArray × Int × Int × Int × Int × Int × Int) => W.cell? (x.add (i * 7 + 0)) = some (.string y.1) ∧ W.cell? (x.add (i * 7 + 1)) = some (.int .i64 y.2.1) ∧ W.cell? (x.add (i * 7 + 2)) = some (.int .i64 y.2.2.1) ∧ W.cell? (x.add (i * 7 + 3)) = some (.int .i64 y.2.2.2.1) ∧ W.cell? (x.add (i * 7 + 4)) = some (.int .i64 y.2.2.2.2.1) ∧ W.cell? (x.add (i * 7 + 5)) = some (.int .i64 y.2.2.2.2.2.1) ∧ W.cell? (x.add (i * 7 + 6)) = some (.int .i64 y.2.2.2.2.2.2) ∧ (Lit.int .i64 y.2.1).wf = true ∧ (Lit.int .i64 y.2.2.1).wf = true ∧ (Lit.int .i64 y.2.2.2.1).wf = true ∧ (Lit.int .i64 y.2.2.2.2.1).wf = true ∧ (Lit.int .i64 y.2.2.2.2.2.1).wf = true ∧ (Lit.int .i64 y.2.2.2.2.2.2).wf = true ∧ y.1.size ≤ maxLen) (by
        intro i hi
        obtain ⟨ys, q, _, _, _, hj⟩ := hel i (by rw [hmm]; split <;> omega)
        obtain ⟨u0, q0, hcell0, _, hr0⟩ := hj 0 _ rfl
        obtain ⟨b0, eb0, rfl, hw0⟩ := DataW.trod_string Try.underlying9 hr0
        cases eb0
        obtain ⟨u1, q1, hcell1, _, hr1⟩ := hj 1 _ rfl
        obtain ⟨b1, eb1, rfl, hw1⟩ := DataW.trod_int Try.underlying3 hr1
        cases eb1
        obtain ⟨u2, q2, hcell2, _, hr2⟩ := hj 2 _ rfl
        obtain ⟨b2, eb2, rfl, hw2⟩ := DataW.trod_int Try.underlying3 hr2
        cases eb2
        obtain ⟨u3, q3, hcell3, _, hr3⟩ := hj 3 _ rfl
        obtain ⟨b3, eb3, rfl, hw3⟩ := DataW.trod_int Try.underlying3 hr3
        cases eb3
        obtain ⟨u4, q4, hcell4, _, hr4⟩ := hj 4 _ rfl
        obtain ⟨b4, eb4, rfl, hw4⟩ := DataW.trod_int Try.underlying3 hr4
        cases eb4
        obtain ⟨u5, q5, hcell5, _, hr5⟩ := hj 5 _ rfl
        obtain ⟨b5, eb5, rfl, hw5⟩ := DataW.trod_int Try.underlying3 hr5
        cases eb5
        obtain ⟨u6, q6, hcell6, _, hr6⟩ := hj 6 _ rfl
        obtain ⟨b6, eb6, rfl, hw6⟩ := DataW.trod_int Try.underlying3 hr6
        cases eb6
        exact ⟨(b0, b1, b2, b3, b4, b5, b6), hcell0, hcell1, hcell2, hcell3, hcell4, hcell5, hcell6, hw1, hw2, hw3, hw4, hw5, hw6, hw0⟩)
      subst hll
      exact ⟨some x, c, ll, by simpa using hcs, .inr ⟨x, rfl, hl, hm, hp⟩⟩
  have e0_1 : True := trivial
  cases e0_1
  obtain ⟨c0_2, n0_2, y0_2, hc0_2, ht0_2⟩ := hf0 2 _ rfl
  obtain rfl : x0_2 = c0_2 := by simpa using hc0_2
  obtain ⟨A0_2, k0_2, l0_2, rfl, w0_2⟩ : ∃ A k l, x0_2 = .slice A l.length k ∧ ((A = none ∧ k = 0 ∧ l = ([] : List (ByteArray × Int × Int × Int × Bool))) ∨ ∃ x, A = some x ∧ l.length ≤ k ∧ k ≤ maxLen ∧ ∀ i (h : i < l.length), W.cell? (x.add (i * 5 + 0)) = some (.string l[i].1) ∧ W.cell? (x.add (i * 5 + 1)) = some (.int .i64 l[i].2.1) ∧ W.cell? (x.add (i * 5 + 2)) = some (.int .i64 l[i].2.2.1) ∧ W.cell? (x.add (i * 5 + 3)) = some (.int .i64 l[i].2.2.2.1) ∧ W.cell? (x.add (i * 5 + 4)) = some (.bool l[i].2.2.2.2) ∧ (Lit.int .i64 l[i].2.1).wf = true ∧ (Lit.int .i64 l[i].2.2.1).wf = true ∧ (Lit.int .i64 l[i].2.2.2.1).wf = true ∧ l[i].1.size ≤ maxLen) := by
    rcases open_slice_fields Try.underlying24 Try.underlying62 (by kernel_rfl) (by kernel_rfl) ht0_2 with ⟨hcs, _⟩ | ⟨x, l, c, m, D, Pl, hcs, _, hl, hm, hmm, _, hel⟩
    · exact ⟨none, 0, [], by simpa using hcs, .inl ⟨rfl, rfl, rfl⟩⟩
    · obtain ⟨ll, hll, hp⟩ := list_of (n := l) (P := fun (i : Nat) (y : ByteArray × Int × Int × Int × Bool) => W.cell? (x.add (i * 5 + 0)) = some (.string y.1) ∧ W.cell? (x.add (i * 5 + 1)) = some (.int .i64 y.2.1) ∧ W.cell? (x.add (i * 5 + 2)) = some (.int .i64 y.2.2.1) ∧ W.cell? (x.add (i * 5 + 3)) = some (.int .i64 y.2.2.2.1) ∧ W.cell? (x.add (i * 5 + 4)) = some (.bool y.2.2.2.2) ∧ (Lit.int .i64 y.2.1).wf = true ∧ (Lit.int .i64 y.2.2.1).wf = true ∧ (Lit.int .i64 y.2.2.2.1).wf = true ∧ y.1.size ≤ maxLen) (by
        intro i hi
        obtain ⟨ys, q, _, _, _, hj⟩ := hel i (by rw [hmm]; split <;> omega)
        obtain ⟨u0, q0, hcell0, _, hr0⟩ := hj 0 _ rfl
        obtain ⟨b0, eb0, rfl, hw0⟩ := DataW.trod_string Try.underlying9 hr0
        cases eb0
        obtain ⟨u1, q1, hcell1, _, hr1⟩ := hj 1 _ rfl
        obtain ⟨b1, eb1, rfl, hw1⟩ := DataW.trod_int Try.underlying3 hr1
        cases eb1
        obtain ⟨u2, q2, hcell2, _, hr2⟩ := hj 2 _ rfl
        obtain ⟨b2, eb2, rfl, hw2⟩ := DataW.trod_int Try.underlying3 hr2
        cases eb2
        obtain ⟨u3, q3, hcell3, _, hr3⟩ := hj 3 _ rfl
        obtain ⟨b3, eb3, rfl, hw3⟩ := DataW.trod_int Try.underlying3 hr3
        cases eb3
        obtain ⟨u4, q4, hcell4, _, hr4⟩ := hj 4 _ rfl
        obtain ⟨b4, eb4, rfl⟩ := DataW.trod_bool Try.underlying4 hr4
        cases eb4
        exact ⟨(b0, b1, b2, b3, b4), hcell0, hcell1, hcell2, hcell3, hcell4, hw1, hw2, hw3, hw0⟩)
      subst hll
      exact ⟨some x, c, ll, by simpa using hcs, .inr ⟨x, rfl, hl, hm, hp⟩⟩
  have e0_2 : True := trivial
  cases e0_2
  obtain ⟨c0_3, n0_3, y0_3, hc0_3, ht0_3⟩ := hf0 3 _ rfl
  obtain rfl : x0_3 = c0_3 := by simpa using hc0_3
  obtain ⟨a0_3, e0_3, rfl, w0_3⟩ := DataW.trod_int Try.underlying3 ht0_3
  cases e0_3
  obtain ⟨c0_4, n0_4, y0_4, hc0_4, ht0_4⟩ := hf0 4 _ rfl
  obtain rfl : x0_4 = c0_4 := by simpa using hc0_4
  obtain ⟨a0_4, e0_4, rfl, w0_4⟩ := DataW.trod_int Try.underlying3 ht0_4
  cases e0_4
  obtain ⟨c0_5, n0_5, y0_5, hc0_5, ht0_5⟩ := hf0 5 _ rfl
  obtain rfl : x0_5 = c0_5 := by simpa using hc0_5
  obtain ⟨a0_5, e0_5, rfl, w0_5⟩ := DataW.trod_int Try.underlying3 ht0_5
  cases e0_5
  obtain ⟨c0_6, n0_6, y0_6, hc0_6, ht0_6⟩ := hf0 6 _ rfl
  obtain rfl : x0_6 = c0_6 := by simpa using hc0_6
  obtain ⟨a0_6, e0_6, rfl, w0_6⟩ := DataW.trod_int Try.underlying3 ht0_6
  cases e0_6
  obtain ⟨c0_7, n0_7, y0_7, hc0_7, ht0_7⟩ := hf0 7 _ rfl
  obtain rfl : x0_7 = c0_7 := by simpa using hc0_7
  obtain ⟨a0_7, e0_7, rfl, w0_7⟩ := DataW.trod_int Try.underlying3 ht0_7
  cases e0_7
  obtain ⟨c0_8, n0_8, y0_8, hc0_8, ht0_8⟩ := hf0 8 _ rfl
  obtain rfl : x0_8 = c0_8 := by simpa using hc0_8
  obtain ⟨a0_8, e0_8, rfl, w0_8⟩ := DataW.trod_int Try.underlying3 ht0_8
  cases e0_8
  have k1 := h1
  have lt1 : ∀ x ∈ p1, x.block < W.heap.size := by obtain ⟨m, hm⟩ := k1; exact DataW.trod_lt m _ _ _ hm
  obtain ⟨a1, rfl, rfl, rfl, y1⟩ := open_string Try.underlying9 (hval 1 9 v1 rfl rfl) h1
  have w1 : a1.size ≤ 140737488351232 := by
    have z := sized_string hsz (j := 1) (t := 9) rfl rfl
    rw [Array.length_toList] at z
    exact z
  have k2 := h2
  have lt2 : ∀ x ∈ p2, x.block < W.heap.size := by obtain ⟨m, hm⟩ := k2; exact DataW.trod_lt m _ _ _ hm
  obtain ⟨a2, rfl, rfl, rfl, w2⟩ := open_int Try.underlying3 (hval 2 3 v2 rfl rfl) h2
  clear hA0 hval0 hsz0 hsz
  refine (Walk.RulesFinds A0_0 k0_0 l0_0 A0_1 k0_1 l0_1 A0_2 k0_2 l0_2 a0_3 a0_4 a0_5 a0_6 a0_7 a0_8 a1 a2 W w0_0 w0_1 w0_2 w0_3 w0_4 w0_5 w0_6 w0_7 w0_8 w1 w2).mono fun e W' ⟨he, bel⟩ => ?_
  subst he
  exact ⟨_, rfl, _, _, _, [], _, [], hW', trodAll_mk1 (shut_bool Try.underlying4 _), (trodAll_cons_mk (Below.trod laidOut (by kernel_rfl) (of_decide_eq_true (by kernel_rfl)) k0 bel lt0) (trodAll_cons_mk (Below.trod laidOut (by kernel_rfl) (of_decide_eq_true (by kernel_rfl)) k1 bel lt1) (trodAll_cons_mk (Below.trod laidOut (by kernel_rfl) (of_decide_eq_true (by kernel_rfl)) k2 bel lt2) trodAll_mk0))), rfl, bel.frame _, fun h => by cases h⟩
theorem over : Rows.rulesFindsRow.holds Try.pinned (OpenSpec.ofChange Rows.rulesFindsSpec) :=
  OpenClaim.holds_of_wide 4 Try.f4 rfl rfl rfl rfl rfl rfl rfl ⟨rfl, rfl, rfl, rfl, rfl⟩ rfl rfl rfl rfl rfl (by kernel_rfl) Try.func4 (by kernel_rfl)
    (of_decide_eq_true (by kernel_rfl)) (by unfold Func.isWrapper; first | (rw [if_pos (by decide +kernel)]; kernel_rfl) | (rw [if_neg (by decide +kernel)]; exact ⟨rfl, rfl⟩))
    (fun os started H enc _ => lifted os started H enc)
theorem proved : Rows.RulesFindsSaid := over
#print axioms proved
end Go.Proofs.Ytbhbnefifgdioaa.rulesFinds
namespace Go.Proofs.Ytbhbnefifgdioaa
/-- The row, under a short name, for the claim. -/
theorem rulesFinds_holds : Rows.RulesFindsSaid := rulesFinds.proved
end Go.Proofs.Ytbhbnefifgdioaa
