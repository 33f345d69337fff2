/- GateChecks: any order of any symbol has the document's worst price and worth, or its first error; any text and any numbers of 64 bits; no condition. -/
import Derived.Test.YtmeengcbfhhncaaGaw
import Derived.Test.YtmeengcbfhhncaaGar
import Derived.Test.YtmeengcbfhhncaaKx0
set_option linter.unusedVariables false
set_option linter.unusedSimpArgs false
namespace Go.Proofs.Ytmeengcbfhhncaa.Walk
open Go Go.RowKit Go.Proofs.YtmeengcbfhhncaaW.PrintWords Go.Proofs.YtmeengcbfhhncaaW.PrintMore Go.Proofs.Ytmeengcbfhhncaa.Hand Go.Proofs.Ytmeengcbfhhncaa.PL Go.Proofs.Ytmeengcbfhhncaa.RL Go.Proofs.Ytmeengcbfhhncaa.K
set_option maxHeartbeats 4000000 in
set_option maxRecDepth 100000 in
theorem GateChecks (a0_0 : ByteArray) (a0_1 : Int) (a0_2 : Int) (a0_3 : Int) (a0_4 : Int) (a0_5 : Int) (a0_6 : Int) (a1_0 : Int) (a1_1 : Int) (a1_2 : Int) (W : World) (w0_0 : a0_0.size ≤ maxLen) (w0_1 : (Lit.int .i64 a0_1).wf = true) (w0_2 : (Lit.int .i64 a0_2).wf = true) (w0_3 : (Lit.int .i64 a0_3).wf = true) (w0_4 : (Lit.int .i64 a0_4).wf = true) (w0_5 : (Lit.int .i64 a0_5).wf = true) (w0_6 : (Lit.int .i64 a0_6).wf = true) (w1_0 : (Lit.int .i64 a1_0).wf = true) (w1_1 : (Lit.int .i64 a1_1).wf = true) (w1_2 : (Lit.int .i64 a1_2).wf = true) :
    Calls Try.prog 3 #[.agg #[.string a0_0, .int .i64 a0_1, .int .i64 a0_2, .int .i64 a0_3, .int .i64 a0_4, .int .i64 a0_5, .int .i64 a0_6], .agg #[.int .i64 a1_0, .int .i64 a1_1, .int .i64 a1_2]] W fun e W' => e = .returned (.bool true) ∧ Below W.heap.size W W' := by
  have aw := fun w => awake16 w
  have ri := fun w => right16 a0_0 a0_1 a0_2 a0_3 a0_4 a0_5 a0_6 w
  have AW := Lib.hid aw
  have RI := Lib.hid ri
  clear aw ri
  have hS := (Blk.new W 23 #[.string a0_0, .int .i64 a0_1, .int .i64 a0_2, .int .i64 a0_3, .int .i64 a0_4, .int .i64 a0_5, .int .i64 a0_6]).alloc (.cells #[.int .i64 a1_0, .int .i64 a1_1, .int .i64 a1_2] 25)
  have hO := Blk.new (W.alloc (.cells #[.string a0_0, .int .i64 a0_1, .int .i64 a0_2, .int .i64 a0_3, .int .i64 a0_4, .int .i64 a0_5, .int .i64 a0_6] 23)) 25 #[.int .i64 a1_0, .int .i64 a1_1, .int .i64 a1_2]
  have e0 : (W.alloc (.cells #[.string a0_0, .int .i64 a0_1, .int .i64 a0_2, .int .i64 a0_3, .int .i64 a0_4, .int .i64 a0_5, .int .i64 a0_6] 23)).heap.size = W.heap.size + 1 := by simp
  rw [e0] at hO
  have hB := ((Below.refl W.heap.size W).alloc (Nat.le_refl _) (.cells #[.string a0_0, .int .i64 a0_1, .int .i64 a0_2, .int .i64 a0_3, .int .i64 a0_4, .int .i64 a0_5, .int .i64 a0_6] 23)).alloc (by omega) (.cells #[.int .i64 a1_0, .int .i64 a1_1, .int .i64 a1_2] 25)
  clear e0
  go_enter Try.func3, Try.ntmps3
  go_wp2_with fail
  generalize (W.alloc (.cells #[.string a0_0, .int .i64 a0_1, .int .i64 a0_2, .int .i64 a0_3, .int .i64 a0_4, .int .i64 a0_5, .int .i64 a0_6] 23)).alloc (.cells #[.int .i64 a1_0, .int .i64 a1_1, .int .i64 a1_2] 25) = w0 at *
  refine (AW.out w0).mono ?_
  rintro e w1 ⟨rfl, b⟩
  have hS := hS.on b
  have hO := hO.on b
  have hB := bt hB b
  clear b
  have y0 := hS.cell 0; have y1 := hS.cell 1; have y2 := hS.cell 2; have y3 := hS.cell 3; have y4 := hS.cell 4; have y5 := hS.cell 5; have y6 := hS.cell 6; have x0 := hO.cell 0; have x1 := hO.cell 1; have x2 := hO.cell 2
  simp at y0 y1 y2 y3 y4 y5 y6 x0 x1 x2
  go_wp2_with fail
  clear y0 y1 y2 y3 y4 y5 y6 x0 x1 x2
  refine (RI.out w1).mono ?_
  rintro e w2 ⟨b, rfl, hb, bb⟩
  have hS := hS.on bb
  have hO := hO.on bb
  have hB := bt hB bb
  clear bb
  cases b with
  | false =>
    go_wp2_with fail
    go_ret
    exact ⟨rfl, hB⟩
  | true =>
    have hk := SymOk.of (hb rfl (a0_0, a0_1, a0_2, a0_3, a0_4, a0_5, a0_6) (List.mem_singleton.2 rfl))
    dsimp only at hk
    clear hb AW RI
    have c1 := fun w => check_calls a0_0 a0_1 a0_2 a0_3 a0_4 a0_5 a0_6 a1_0 a1_1 a1_2 hk w
    have c2 := fun w => rcheck_calls a0_0 a0_1 a0_2 a0_3 a0_4 a0_5 a0_6 a1_0 a1_1 a1_2 hk w
    generalize chk a0_1 a0_2 a0_3 a0_4 a0_5 a0_6 a1_0 a1_1 a1_2 = c at *
    obtain ⟨r1, r2, r3⟩ := c
    dsimp only at c1 c2
    have C1 := Lib.hid c1
    have C2 := Lib.hid c2
    clear c1 c2
    have y0 := hS.cell 0; have y1 := hS.cell 1; have y2 := hS.cell 2; have y3 := hS.cell 3; have y4 := hS.cell 4; have y5 := hS.cell 5; have y6 := hS.cell 6; have x0 := hO.cell 0; have x1 := hO.cell 1; have x2 := hO.cell 2
    simp at y0 y1 y2 y3 y4 y5 y6 x0 x1 x2
    go_wp2_with fail
    clear y0 y1 y2 y3 y4 y5 y6 x0 x1 x2
    refine (C1.out w2).mono ?_
    rintro e w3 ⟨rfl, b⟩
    have hS := hS.on b
    have hO := hO.on b
    have hB := bt hB b
    clear b
    have y0 := hS.cell 0; have y1 := hS.cell 1; have y2 := hS.cell 2; have y3 := hS.cell 3; have y4 := hS.cell 4; have y5 := hS.cell 5; have y6 := hS.cell 6; have x0 := hO.cell 0; have x1 := hO.cell 1; have x2 := hO.cell 2
    simp at y0 y1 y2 y3 y4 y5 y6 x0 x1 x2
    go_wp2_with fail
    clear y0 y1 y2 y3 y4 y5 y6 x0 x1 x2
    refine (C2.out w3).mono ?_
    rintro e w4 ⟨rfl, b⟩
    have hS := hS.on b
    have hO := hO.on b
    have hB := bt hB b
    clear b
    go_wp2_with fail
    go_ret
    exact ⟨rfl, hB⟩
end Go.Proofs.Ytmeengcbfhhncaa.Walk
