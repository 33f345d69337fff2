/- The row of RouterRanks, out of my own walk of it. -/
import Derived.Test.YtadjadakncidgaaRows
import Derived.Test.YtadjadakncidgaaWalkRouterRanks
import Derived.WalkKit
import Derived.ProofKit
import Derived.OpenShut
import Derived.ShutString
import Derived.ChangeOld
import Derived.Below
import Derived.SizedLaws
import Derived.Carry
import Derived.Deep.Slices
import Derived.Deep.Fields
import Derived.ChangeSame
import Derived.Lib.SmallJoins
import Derived.Test.YtadjadakncidgaaWSized
import Derived.Test.YtadjadakncidgaaRowKit
namespace Go.Proofs.Ytadjadakncidgaa.routerRanks
open Go.ChangeShapes Go.WideShapes Go.ChangeAt Go.RowKit Go.Deep Go.Proofs.Ytadjadakncidgaa.Row
open Go.ChangeMaps (open_string shut_string)
open Go.Proofs.YtadjadakncidgaaW.PrintWords
set_option linter.unusedVariables false
theorem own : ownKnob Try.prog.godebug = none := by kernel_rfl
theorem laidOut : laidOutB Try.prog = true := by kernel_rfl
set_option maxRecDepth 100000 in
theorem lifted (os : Os) (started : os.Started) (H : Type) (enc : TypeId × Value → H) :
    ReturnsInHanded {} Try.checked os 4 .any (Rows.routerRanksSpec.pre6 enc Try.prog Try.f4 Rows.routerRanksRow.domain false) (Rows.routerRanksSpec.post enc Try.prog Try.f4 false true false false) := by
  refine returnsInHanded_of_change_sized (C := Try.checked) own started (by kernel_rfl) Try.func4
    (ChangeSpec.witness6 (enc := enc) (C := Try.checked) false ⟨#[], #[.slice none 0 0], []⟩ 8 (by kernel_rfl) (by kernel_rfl) (by kernel_rfl) (by kernel_rfl)) ?_
  intro W base args ds gs before hval0 hW hcnd hsz0 _
  have hsz : (DataW.weightsEach Try.prog (Try.f4.params.toList ++ Rows.routerRanksSpec.plain.varTypes Try.prog) (ds ++ gs)).all (· ≤ reachBytes) = true := hsz0
  have hval : ∀ (j : Nat) t v, Try.f4.params[j]? = some t → args[j]? = some v → Value.okWide Try.prog W .any base t v := hval0
  have hW' := hW
  obtain ⟨p, q, hA0, hV, rfl, hfz, hnd⟩ := hW
  have hA : DataW.TrodAll enc Try.prog W 0 (fun _ => true) true Try.f4.params.toList args.toList ds p := hA0
  rw [Try.params4] at hA hval hsz
  obtain ⟨v0, vs0, d0, ds0, p0, q0, hargs, rfl, rfl, h0, r0⟩ := trodAll_cons hA
  obtain ⟨rfl, rfl, rfl⟩ := trodAll_nil r0
  obtain rfl : args = #[v0] := by cases args; simp_all
  obtain ⟨rfl, rfl⟩ := trodVars_none hV
  have k0 := h0
  have lt0 : ∀ x ∈ p0, x.block < W.heap.size := by obtain ⟨m, hm⟩ := k0; exact DataW.trod_lt m _ _ _ hm
  obtain ⟨A0, n0, c0, rfl⟩ := okWide_slice Try.underlying29 (hval 0 29 v0 rfl rfl)
  obtain ⟨l0, rfl, w0⟩ : ∃ l0 : List (Int × Int × Int × Int × Bool), l0.length = n0 ∧ ((A0 = none ∧ c0 = 0 ∧ l0 = []) ∨ ∃ x, A0 = some x ∧ l0.length ≤ c0 ∧ c0 ≤ maxLen ∧ ∀ i (h : i < l0.length), W.cell? (x.add (i * 5 + 0)) = some (.int .i64 l0[i].1) ∧ W.cell? (x.add (i * 5 + 1)) = some (.int .i64 l0[i].2.1) ∧ W.cell? (x.add (i * 5 + 2)) = some (.int .i64 l0[i].2.2.1) ∧ W.cell? (x.add (i * 5 + 3)) = some (.int .i64 l0[i].2.2.2.1) ∧ W.cell? (x.add (i * 5 + 4)) = some (.bool l0[i].2.2.2.2) ∧ (Lit.int .i64 l0[i].1).wf = true ∧ (Lit.int .i64 l0[i].2.1).wf = true ∧ (Lit.int .i64 l0[i].2.2.1).wf = true ∧ (Lit.int .i64 l0[i].2.2.2.1).wf = true) := by
    obtain ⟨fuel, hf⟩ := h0
    rcases open_slice_fields Try.underlying29 Try.underlying35 (by kernel_rfl) (by kernel_rfl) hf with ⟨hcs, _⟩ | ⟨x, l, c, m, D, Pl, hcs, _, hl, hm, hmm, _, hel⟩
    · simp [Value.cells] at hcs
      obtain ⟨rfl, rfl, rfl⟩ := hcs
      exact ⟨[], rfl, .inl ⟨rfl, rfl, rfl⟩⟩
    · simp [Value.cells] at hcs
      obtain ⟨rfl, rfl, rfl⟩ := hcs
      obtain ⟨ll, hll, hp⟩ := list_of (n := n0) (P := fun (i : Nat) (y : Int × Int × Int × Int × Bool) => W.cell? (x.add (i * 5 + 0)) = some (.int .i64 y.1) ∧ W.cell? (x.add (i * 5 + 1)) = some (.int .i64 y.2.1) ∧ W.cell? (x.add (i * 5 + 2)) = some (.int .i64 y.2.2.1) ∧ W.cell? (x.add (i * 5 + 3)) = some (.int .i64 y.2.2.2.1) ∧ W.cell? (x.add (i * 5 + 4)) = some (.bool y.2.2.2.2) ∧ (Lit.int .i64 y.1).wf = true ∧ (Lit.int .i64 y.2.1).wf = true ∧ (Lit.int .i64 y.2.2.1).wf = true ∧ (Lit.int .i64 y.2.2.2.1).wf = true) (by
        intro i hi
        obtain ⟨ys, q, _, _, _, hj⟩ := hel i (by rw [hmm]; simp; omega)
        obtain ⟨u0, q0, hcell0, _, hr0⟩ := hj 0 _ rfl
        obtain ⟨b0, eb0, rfl, hw0⟩ := DataW.trod_int Try.underlying3 hr0
        cases eb0
        obtain ⟨u1, q1, hcell1, _, hr1⟩ := hj 1 _ rfl
        obtain ⟨b1, eb1, rfl, hw1⟩ := DataW.trod_int Try.underlying3 hr1
        cases eb1
        obtain ⟨u2, q2, hcell2, _, hr2⟩ := hj 2 _ rfl
        obtain ⟨b2, eb2, rfl, hw2⟩ := DataW.trod_int Try.underlying3 hr2
        cases eb2
        obtain ⟨u3, q3, hcell3, _, hr3⟩ := hj 3 _ rfl
        obtain ⟨b3, eb3, rfl, hw3⟩ := DataW.trod_int Try.underlying3 hr3
        cases eb3
        obtain ⟨u4, q4, hcell4, _, hr4⟩ := hj 4 _ rfl
        obtain ⟨b4, eb4, rfl⟩ := DataW.trod_bool Try.underlying4 hr4
        cases eb4
        exact ⟨(b0, b1, b2, b3, b4), hcell0, hcell1, hcell2, hcell3, hcell4, hw0, hw1, hw2, hw3⟩)
      subst hll
      exact ⟨ll, rfl, .inr ⟨x, rfl, hl, hm, hp⟩⟩
  clear hA0 hval0 hsz0 hsz
  refine (Walk.RouterRanks A0 c0 l0 W w0).mono fun e W' ⟨he, bel⟩ => ?_
  subst he
  exact ⟨_, rfl, _, _, _, [], _, [], hW', trodAll_mk1 (shut_bool Try.underlying4 _), (trodAll_cons_mk (Below.trod laidOut (by kernel_rfl) (of_decide_eq_true (by kernel_rfl)) k0 bel lt0) trodAll_mk0), rfl, bel.frame _, fun h => by cases h⟩
theorem over : Rows.routerRanksRow.holds Try.pinned (OpenSpec.ofChange Rows.routerRanksSpec) :=
  OpenClaim.holds_of_wide 4 Try.f4 rfl rfl rfl rfl rfl rfl rfl ⟨rfl, rfl, rfl, rfl, rfl⟩ rfl rfl rfl rfl rfl (by kernel_rfl) Try.func4 (by kernel_rfl)
    (of_decide_eq_true (by kernel_rfl)) (by unfold Func.isWrapper; first | (rw [if_pos (by decide +kernel)]; kernel_rfl) | (rw [if_neg (by decide +kernel)]; exact ⟨rfl, rfl⟩))
    (fun os started H enc _ => lifted os started H enc)
theorem proved : Rows.RouterRanksSaid := over
#print axioms proved
end Go.Proofs.Ytadjadakncidgaa.routerRanks
namespace Go.Proofs.Ytadjadakncidgaa
/-- The row, under a short name, for the claim. -/
theorem routerRanks_holds : Rows.RouterRanksSaid := routerRanks.proved
end Go.Proofs.Ytadjadakncidgaa
