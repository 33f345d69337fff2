/- The slicer's examples, walked. -/
import Derived.Test.YtapfidpfjbacgaaSl2
import Derived.Test.YtapfidpfjbacgaaFx1
import Derived.Test.YtapfidpfjbacgaaFx2
set_option linter.unusedVariables false
set_option linter.unusedSimpArgs false
namespace Go.Proofs.Ytapfidpfjbacgaa.Hand
open Go Go.RowKit Go.Proofs.YtapfidpfjbacgaaW.PrintWords Go.Proofs.YtapfidpfjbacgaaW.PrintMore Go.Proofs.Ytapfidpfjbacgaa.RL Go.Proofs.Ytapfidpfjbacgaa.PL Go.Proofs.Ytapfidpfjbacgaa.F
theorem nm_p : nameV ⟨#[112]⟩ = true := by decide
theorem nm_A : nameV ⟨#[65]⟩ = true := by decide
theorem nm_X : nameV ⟨#[88]⟩ = true := by decide
set_option maxHeartbeats 8000000 in
set_option maxRecDepth 100000 in
theorem awake27 (w : World) : Calls Try.prog 6 #[] w fun e w' => e = .returned (.bool true) ∧ Below w.heap.size w w' := by
  have n1 := fun w => new_flow ⟨#[112]⟩ ⟨#[65]⟩ ⟨#[88]⟩ 1 100 9 0 5 2500 10 nm_p nm_A nm_X (by omega) (by omega) (by omega) (by omega) (by omega) (by omega) (by omega) (by omega) (by omega) (by omega) (by omega) (by omega) (by omega) (by omega) (by omega) w
  have n2 := fun w => new_berg ⟨#[112]⟩ ⟨#[65]⟩ ⟨#[88]⟩ 1 100 9 0 5 30 10 nm_p nm_A nm_X (by omega) (by omega) (by omega) (by omega) (by omega) (by omega) (by omega) (by omega) (by omega) (by omega) (by omega) (by omega) (by omega) (by omega) (by omega) w
  have N1 := Lib.hid n1; have N2 := Lib.hid n2
  have t1 := fun g w h => target_flow g 1 1 100 9 3 0 5 2500 0 10 1 110 0 25 0 ⟨#[112]⟩ ⟨#[]⟩ ⟨#[65]⟩ ⟨#[88]⟩ none 0 0 (by omega) (by omega) (by omega) (by omega) (by omega) (by omega) (by omega) (by omega) (fun w => flow_Target.calls 8 100 2500 (110 - 10) 25 0 w flow_ex) w h
  have t2 := fun g w h => target_berg g 1 1 100 9 4 0 5 0 30 10 1 10 50 80 0 ⟨#[112]⟩ ⟨#[]⟩ ⟨#[65]⟩ ⟨#[88]⟩ none 0 0 (by omega) (by omega) (by omega) (by omega) (by omega) (by omega) (by omega) (fun w => berg_Target.calls 20 100 30 50 80 0 w berg_ex) w h
  have T1 := Lib.hid t1; have T2 := Lib.hid t2
  clear n1 n2 t1 t2
  go_enter Try.func6, Try.ntmps6
  go_wp2_with fail
  have hA := Blk.new w 24 #[.int .i64 1, .string ⟨#[112]⟩, .string ⟨#[]⟩, .string ⟨#[65]⟩, .string ⟨#[88]⟩, .int .i64 1, .int .i64 100, .int .i64 9, .int .i64 3, .int .i64 0, .int .i64 5, .int .i64 2500, .int .i64 0, .slice none 0 0]
  have hB := (Below.refl w.heap.size w).alloc (Nat.le_refl _) (.cells #[.int .i64 1, .string ⟨#[112]⟩, .string ⟨#[]⟩, .string ⟨#[65]⟩, .string ⟨#[88]⟩, .int .i64 1, .int .i64 100, .int .i64 9, .int .i64 3, .int .i64 0, .int .i64 5, .int .i64 2500, .int .i64 0, .slice none 0 0] 24)
  generalize w.alloc (.cells #[.int .i64 1, .string ⟨#[112]⟩, .string ⟨#[]⟩, .string ⟨#[65]⟩, .string ⟨#[88]⟩, .int .i64 1, .int .i64 100, .int .i64 9, .int .i64 3, .int .i64 0, .int .i64 5, .int .i64 2500, .int .i64 0, .slice none 0 0] 24) = w1 at *
  refine (N1.out w1).mono ?_
  rintro e w2 ⟨g, hg, rfl, hG, b2⟩
  have hA := hA.on b2
  have hB := bt hB b2
  clear b2
  go_wp2_with fail
  refine (T1.out g w2 hG).mono ?_
  rintro e w3 ⟨rfl, b3⟩
  have hA := hA.on b3
  have hB := bt hB b3
  clear b3 hG hg
  have y0 := hA.cell 0; have y1 := hA.cell 1; have y2 := hA.cell 2; have y3 := hA.cell 3; have y4 := hA.cell 4; have y5 := hA.cell 5; have y6 := hA.cell 6; have y7 := hA.cell 7; have y8 := hA.cell 8; have y9 := hA.cell 9; have y10 := hA.cell 10; have y11 := hA.cell 11; have y12 := hA.cell 12; have y13 := hA.cell 13
  have f8 := hA.frozen 8; have f11 := hA.frozen 11; have f12 := hA.frozen 12
  simp at y0 y1 y2 y3 y4 y5 y6 y7 y8 y9 y10 y11 y12 y13
  go_upto_region 5 with (fail)
  have hA := ((hA.put 8 (.int .i64 4)).put 11 (.int .i64 0)).put 12 (.int .i64 30)
  have hB := below_set (below_set (below_set hB (p := ⟨w.heap.size, 8, none⟩) (Nat.le_refl _) (.int .i64 4)) (p := ⟨w.heap.size, 11, none⟩) (Nat.le_refl _) (.int .i64 0)) (p := ⟨w.heap.size, 12, none⟩) (Nat.le_refl _) (.int .i64 30)
  clear y0 y1 y2 y3 y4 y5 y6 y7 y8 y9 y10 y11 y12 y13 f8 f11 f12
  generalize ((w3.setCell ⟨w.heap.size, 8, none⟩ (.int .i64 4)).setCell ⟨w.heap.size, 11, none⟩ (.int .i64 0)).setCell ⟨w.heap.size, 12, none⟩ (.int .i64 30) = w4 at *
  have hA : Blk w4 w.heap.size 24 #[.int .i64 1, .string ⟨#[112]⟩, .string ⟨#[]⟩, .string ⟨#[65]⟩, .string ⟨#[88]⟩, .int .i64 1, .int .i64 100, .int .i64 9, .int .i64 4, .int .i64 0, .int .i64 5, .int .i64 0, .int .i64 30, .slice none 0 0] := hA
  have y0 := hA.cell 0; have y1 := hA.cell 1; have y2 := hA.cell 2; have y3 := hA.cell 3; have y4 := hA.cell 4; have y5 := hA.cell 5; have y6 := hA.cell 6; have y7 := hA.cell 7; have y8 := hA.cell 8; have y9 := hA.cell 9; have y10 := hA.cell 10; have y11 := hA.cell 11; have y12 := hA.cell 12; have y13 := hA.cell 13
  simp at y0 y1 y2 y3 y4 y5 y6 y7 y8 y9 y10 y11 y12 y13
  go_wp2_with fail
  refine (N2.out w4).mono ?_
  rintro e w5 ⟨g2, hg2, rfl, hG2, b5⟩
  have hB := bt hB b5
  clear y0 y1 y2 y3 y4 y5 y6 y7 y8 y9 y10 y11 y12 y13 b5 hA
  go_wp2_with fail
  refine (T2.out g2 w5 hG2).mono ?_
  rintro e w6 ⟨rfl, b6⟩
  have hB := bt hB b6
  go_wp2_with fail
  go_ret
  exact ⟨rfl, hB⟩
end Go.Proofs.Ytapfidpfjbacgaa.Hand
