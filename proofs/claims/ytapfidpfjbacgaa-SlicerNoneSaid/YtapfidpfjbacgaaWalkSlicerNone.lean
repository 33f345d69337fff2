/- SlicerNone: of a slicer that is none, or was made by nobody, nothing should be out, and everything else is refused; any five numbers of 64 bits; no condition. -/
import Derived.Test.YtapfidpfjbacgaaSl4
set_option linter.unusedVariables false
set_option linter.unusedSimpArgs false
namespace Go.Proofs.Ytapfidpfjbacgaa.Walk
open Go Go.RowKit Go.Proofs.YtapfidpfjbacgaaW.PrintWords Go.Proofs.YtapfidpfjbacgaaW.PrintMore Go.Proofs.Ytapfidpfjbacgaa.Hand Go.Proofs.Ytapfidpfjbacgaa.PL Go.Proofs.Ytapfidpfjbacgaa.RL
set_option maxHeartbeats 8000000 in
set_option maxRecDepth 100000 in
theorem SlicerNone (a0_0 : Int) (a0_1 : Int) (a0_2 : Int) (a0_3 : Int) (a0_4 : Int) (W : World) (w0_0 : (Lit.int .i64 a0_0).wf = true) (w0_1 : (Lit.int .i64 a0_1).wf = true) (w0_2 : (Lit.int .i64 a0_2).wf = true) (w0_3 : (Lit.int .i64 a0_3).wf = true) (w0_4 : (Lit.int .i64 a0_4).wf = true) :
    Calls Try.prog 5 #[.agg #[.int .i64 a0_0, .int .i64 a0_1, .int .i64 a0_2, .int .i64 a0_3, .int .i64 a0_4]] W fun e W' => e = .returned (.bool true) ∧ Below W.heap.size W W' := by
  have hO := Blk.new W 26 #[.int .i64 a0_0, .int .i64 a0_1, .int .i64 a0_2, .int .i64 a0_3, .int .i64 a0_4]
  have hB := (Below.refl W.heap.size W).alloc (Nat.le_refl _) (.cells #[.int .i64 a0_0, .int .i64 a0_1, .int .i64 a0_2, .int .i64 a0_3, .int .i64 a0_4] 26)
  go_enter Try.func5, Try.ntmps5
  go_wp2_with fail
  generalize W.alloc (.cells #[.int .i64 a0_0, .int .i64 a0_1, .int .i64 a0_2, .int .i64 a0_3, .int .i64 a0_4] 26) = w0 at *
  refine (awake27 w0).mono ?_
  rintro e w1 ⟨rfl, b1⟩
  have hO := hO.on b1
  have hB := bt hB b1
  clear b1
  go_wp2_with fail
  have hS := (Blk.new w1 56 #[.int .i64 0, .string ⟨#[]⟩, .string ⟨#[]⟩, .string ⟨#[]⟩, .string ⟨#[]⟩, .int .i64 0, .int .i64 0, .int .i64 0, .int .i64 0, .int .i64 0, .int .i64 0, .int .i64 0, .int .i64 0, .slice none 0 0, .nilIface, .int .i64 0]).alloc (.cells #[.pointer none, .pointer (some ⟨w1.heap.size, 0, none⟩)] 31)
  have hA := Blk.new (w1.alloc (.cells #[.int .i64 0, .string ⟨#[]⟩, .string ⟨#[]⟩, .string ⟨#[]⟩, .string ⟨#[]⟩, .int .i64 0, .int .i64 0, .int .i64 0, .int .i64 0, .int .i64 0, .int .i64 0, .int .i64 0, .int .i64 0, .slice none 0 0, .nilIface, .int .i64 0] 56)) 31 #[.pointer none, .pointer (some ⟨w1.heap.size, 0, none⟩)]
  have e0 : (w1.alloc (.cells #[.int .i64 0, .string ⟨#[]⟩, .string ⟨#[]⟩, .string ⟨#[]⟩, .string ⟨#[]⟩, .int .i64 0, .int .i64 0, .int .i64 0, .int .i64 0, .int .i64 0, .int .i64 0, .int .i64 0, .int .i64 0, .slice none 0 0, .nilIface, .int .i64 0] 56)).heap.size = w1.heap.size + 1 := by simp
  rw [e0] at hA
  have b := ((Below.refl w1.heap.size w1).alloc (Nat.le_refl _) (.cells #[.int .i64 0, .string ⟨#[]⟩, .string ⟨#[]⟩, .string ⟨#[]⟩, .string ⟨#[]⟩, .int .i64 0, .int .i64 0, .int .i64 0, .int .i64 0, .int .i64 0, .int .i64 0, .int .i64 0, .int .i64 0, .slice none 0 0, .nilIface, .int .i64 0] 56)).alloc (by omega) (.cells #[.pointer none, .pointer (some ⟨w1.heap.size, 0, none⟩)] 31)
  have hO := hO.on b
  have hB := bt hB b
  clear b e0
  generalize (w1.alloc (.cells #[.int .i64 0, .string ⟨#[]⟩, .string ⟨#[]⟩, .string ⟨#[]⟩, .string ⟨#[]⟩, .int .i64 0, .int .i64 0, .int .i64 0, .int .i64 0, .int .i64 0, .int .i64 0, .int .i64 0, .int .i64 0, .slice none 0 0, .nilIface, .int .i64 0] 56)).alloc (.cells #[.pointer none, .pointer (some ⟨w1.heap.size, 0, none⟩)] 31) = w2 at *
  generalize w1.heap.size = g at *
  go_loopw [17] (fun i wr => ∃ j : Nat, j ≤ 2 ∧ i = .int .i64 j ∧ Blk wr W.heap.size 26 #[.int .i64 a0_0, .int .i64 a0_1, .int .i64 a0_2, .int .i64 a0_3, .int .i64 a0_4] ∧ Blk wr (g + 1) 31 #[.pointer none, .pointer (some ⟨g, 0, none⟩)] ∧ Blk wr g 56 #[.int .i64 0, .string ⟨#[]⟩, .string ⟨#[]⟩, .string ⟨#[]⟩, .string ⟨#[]⟩, .int .i64 0, .int .i64 0, .int .i64 0, .int .i64 0, .int .i64 0, .int .i64 0, .int .i64 0, .int .i64 0, .slice none 0 0, .nilIface, .int .i64 0] ∧ Below W.heap.size W wr) (fun i _ => 2 - (intOf i).toNat)
  case atStart => exact ⟨0, by omega, rfl, hO, hA, hS, hB⟩
  case round =>
    clear hO hA hS hB
    obtain ⟨j, hj, rfl, hO, hA, hS, hB⟩ := hrel
    have hj3 : j = 0 ∨ j = 1 ∨ j = 2 := by omega
    rcases hj3 with rfl | rfl | rfl
    · have hN : ∀ w', Below wr.heap.size wr w' → NoSl w' (.pointer none) := fun w' h => .inl rfl
      have x0 := hO.cell 1; have x1 := hO.cell 2; have x2 := hO.cell 3; have x3 := hO.cell 4
      have z0 : wr.cell? ⟨g + 1, 0, none⟩ = some (.pointer none) := hA.cell 0
      simp at x0 x1 x2 x3
      have HN := Lib.hid hN
      clear hN
      go_wp2_with fail
      refine (target_no _ _ _ _ wr (HN.out _ (Below.refl _ _))).mono ?_
      rintro e w2 ⟨rfl, rfl⟩
      go_wp2_with fail
      refine (goal_no _ _ _ _ _ w2 (HN.out _ (Below.refl _ _))).mono ?_
      rintro e w3 ⟨rfl, rfl⟩
      go_wp2_with fail
      refine (amend_no _ _ _ _ w3 (HN.out _ (Below.refl _ _))).mono ?_
      rintro e w4 ⟨rfl, rfl⟩
      go_wp2_with fail
      refine (over_no _ _ w4 (HN.out _ (Below.refl _ _))).mono ?_
      rintro e w5 ⟨rfl, rfl⟩
      go_wp2_with fail
      refine (ask_no _ w5 (HN.out _ (Below.refl _ _))).mono ?_
      rintro e w6 ⟨rfl, b6⟩
      go_wp2_with fail
      refine (plain0 w6).mono ?_
      rintro e w7 ⟨rfl, b7⟩
      go_wp2_with fail
      refine (same0 w7).mono ?_
      rintro e w8 ⟨rfl, b8⟩
      have b := bt (bt b6 b7) b8
      have hO := hO.on b
      have hA := hA.on b
      have hS := hS.on b
      have hB := bt hB b
      clear x0 x1 x2 x3 z0 b6 b7 b8 b HN
      go_wp2_with fail
      go_roundw
      case rel => exact ⟨1, by omega, by go_num, hO, hA, hS, hB⟩
      case measure => simp only [intOf]; omega
    · have hN : ∀ w', Below wr.heap.size wr w' → NoSl w' (.pointer (some ⟨g, 0, none⟩)) := fun w' h => .inr ⟨g, rfl, (hS.on h).cell 14⟩
      have x0 := hO.cell 1; have x1 := hO.cell 2; have x2 := hO.cell 3; have x3 := hO.cell 4
      have z0 : wr.cell? ⟨g + 1, 1, none⟩ = some (.pointer (some ⟨g, 0, none⟩)) := hA.cell 1
      simp at x0 x1 x2 x3
      have HN := Lib.hid hN
      clear hN
      go_wp2_with fail
      refine (target_no _ _ _ _ wr (HN.out _ (Below.refl _ _))).mono ?_
      rintro e w2 ⟨rfl, rfl⟩
      go_wp2_with fail
      refine (goal_no _ _ _ _ _ w2 (HN.out _ (Below.refl _ _))).mono ?_
      rintro e w3 ⟨rfl, rfl⟩
      go_wp2_with fail
      refine (amend_no _ _ _ _ w3 (HN.out _ (Below.refl _ _))).mono ?_
      rintro e w4 ⟨rfl, rfl⟩
      go_wp2_with fail
      refine (over_no _ _ w4 (HN.out _ (Below.refl _ _))).mono ?_
      rintro e w5 ⟨rfl, rfl⟩
      go_wp2_with fail
      refine (ask_no _ w5 (HN.out _ (Below.refl _ _))).mono ?_
      rintro e w6 ⟨rfl, b6⟩
      go_wp2_with fail
      refine (plain0 w6).mono ?_
      rintro e w7 ⟨rfl, b7⟩
      go_wp2_with fail
      refine (same0 w7).mono ?_
      rintro e w8 ⟨rfl, b8⟩
      have b := bt (bt b6 b7) b8
      have hO := hO.on b
      have hA := hA.on b
      have hS := hS.on b
      have hB := bt hB b
      clear x0 x1 x2 x3 z0 b6 b7 b8 b HN
      go_wp2_with fail
      go_roundw
      case rel => exact ⟨2, by omega, by go_num, hO, hA, hS, hB⟩
      case measure => simp only [intOf]; omega
    · go_wp2_with fail
      go_ret
      exact ⟨rfl, hB⟩
end Go.Proofs.Ytapfidpfjbacgaa.Walk
