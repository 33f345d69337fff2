/- RulesChecks: any setup is right just if the document says so; any lists of any accounts, symbols, venues, any numbers; no condition. -/
import Derived.Test.YtbhbnefifgdioaaRJ4
set_option linter.unusedVariables false
set_option linter.unusedSimpArgs false
namespace Go.Proofs.Ytbhbnefifgdioaa.Hand
open Go Go.RowKit Go.Proofs.YtbhbnefifgdioaaW.PrintWords Go.Proofs.YtbhbnefifgdioaaW.PrintMore Go.Proofs.YtbhbnefifgdioaaW.PrintLast Go.Proofs.Ytbhbnefifgdioaa.RL Go.Proofs.Ytbhbnefifgdioaa.PL Go.Proofs.Ytbhbnefifgdioaa.K
set_option maxHeartbeats 8000000 in
set_option maxRecDepth 100000 in
theorem checks_walk (A1 A2 A3 : Option Addr) (c1 c2 c3 : Nat) (l1 : List Acc) (l2 : List Sym) (l3 : List Ven) (p1 p2 p3 p4 p5 p6 : Int) (w : World)
    (h1 : Kd.C kA w A1 l1.length l1) (h2 : Kd.C kS w A2 l2.length l2) (h3 : Kd.C kV w A3 l3.length l3) (hc1 : l1.length ≤ c1) (hc2 : l2.length ≤ c2) (hc3 : l3.length ≤ c3) :
    Calls Try.prog 3 #[.agg (setC (.slice A1 l1.length c1) (.slice A2 l2.length c2) (.slice A3 l3.length c3) p1 p2 p3 p4 p5 p6)] w fun e w' => e = .returned (.bool true) ∧ Below w.heap.size w w' := by
  have hO := Blk.new w 26 (setC (.slice A1 l1.length c1) (.slice A2 l2.length c2) (.slice A3 l3.length c3) p1 p2 p3 p4 p5 p6)
  have hB := (Below.refl w.heap.size w).alloc (Nat.le_refl _) (.cells (setC (.slice A1 l1.length c1) (.slice A2 l2.length c2) (.slice A3 l3.length c3) p1 p2 p3 p4 p5 p6) 26)
  have HF := Lib.hid (fun w' (b : Below w.heap.size w w') => few_walk A1 A2 A3 c1 c2 c3 l1 l2 l3 p1 p2 p3 p4 p5 p6 w' (Kd.C_below h1 b) (Kd.C_below h2 b) (Kd.C_below h3 b))
  go_enter Try.func3, Try.ntmps3
  go_wp2_with fail
  generalize w.alloc (.cells (setC (.slice A1 l1.length c1) (.slice A2 l2.length c2) (.slice A3 l3.length c3) p1 p2 p3 p4 p5 p6) 26) = w0 at *
  refine (awake15 w0).mono ?_
  rintro e wa ⟨rfl, b1⟩
  have hO := hO.on b1
  have hB := bt hB b1
  clear b1
  have y0 : wa.cell? ⟨w.heap.size, 0, none⟩ = some (.slice A1 l1.length c1) := hO.cell 0
  have y1 : wa.cell? ⟨w.heap.size, 1, none⟩ = some (.slice A2 l2.length c2) := hO.cell 1
  have y2 : wa.cell? ⟨w.heap.size, 2, none⟩ = some (.slice A3 l3.length c3) := hO.cell 2
  have y3 : wa.cell? ⟨w.heap.size, 3, none⟩ = some (.int .i64 p1) := hO.cell 3
  have y4 : wa.cell? ⟨w.heap.size, 4, none⟩ = some (.int .i64 p2) := hO.cell 4
  have y5 : wa.cell? ⟨w.heap.size, 5, none⟩ = some (.int .i64 p3) := hO.cell 5
  have y6 : wa.cell? ⟨w.heap.size, 6, none⟩ = some (.int .i64 p4) := hO.cell 6
  have y7 : wa.cell? ⟨w.heap.size, 7, none⟩ = some (.int .i64 p5) := hO.cell 7
  have y8 : wa.cell? ⟨w.heap.size, 8, none⟩ = some (.int .i64 p6) := hO.cell 8
  go_wp2_with fail
  clear y0 y1 y2 y3 y4 y5 y6 y7 y8
  refine (HF.out wa hB).mono ?_
  rintro e wb ⟨rfl, b1⟩
  have hO := hO.on b1
  have hB := bt hB b1
  clear b1
  cases hf : fewS l1 l2 l3 with
  | false =>
    go_wp2_with fail
    go_ret
    exact ⟨rfl, hB⟩
  | true =>
    obtain ⟨g1, g2, g3, s1, s2, s3⟩ := fewS_of hf
    have m1 : l1.length ≤ 900 := by omega
    have m2 : l2.length ≤ 900 := by omega
    have m3 : l3.length ≤ 900 := by omega
    have s1 : ∀ x ∈ l1, x.1.size ≤ 1000 := fun x hx => Nat.le_trans (s1 x hx) (by decide)
    have s2 : ∀ x ∈ l2, x.1.size ≤ 1000 := fun x hx => Nat.le_trans (s2 x hx) (by decide)
    have s3 : ∀ x ∈ l3, x.1.size ≤ 1000 := fun x hx => Nat.le_trans (s3 x hx) (by decide)
    have HP := Lib.hid (fun w' (b : Below w.heap.size w w') => plain_walk A1 A2 A3 c1 c2 c3 l1.length l2.length l3.length l1 l2 l3 p1 p2 p3 p4 p5 p6 w' rfl rfl rfl m1 m2 m3 (Kd.C_below h1 b) (Kd.C_below h2 b) (Kd.C_below h3 b) hc1 hc2 hc3)
    have HR := Lib.hid (fun w' B1 B2 B3 d1 d2 d3 (q1 : Kd.C kA w' B1 l1.length l1) (q2 : Kd.C kS w' B2 l2.length l2) (q3 : Kd.C kV w' B3 l3.length l3) => right15_walk B1 B2 B3 d1 d2 d3 l1 l2 l3 p1 p2 p3 p4 p5 p6 w' m1 m2 m3 q1 q2 q3 s1 s2 s3)
    have HC := Lib.hid (fun w' (b : Below w.heap.size w w') => check_walk A1 A2 A3 c1 c2 c3 l1 l2 l3 p1 p2 p3 p4 p5 p6 w' m1 m2 m3 (Kd.C_below h1 b) (Kd.C_below h2 b) (Kd.C_below h3 b) s1 s2 s3)
    have HNb := Lib.hid (fun (q : chkS l1 l2 l3 p1 p2 p3 p4 p5 p6 = false) w' (b : Below w.heap.size w w') => rnew_bad A1 A2 A3 c1 c2 c3 l1 l2 l3 p1 p2 p3 p4 p5 p6 w' m1 m2 m3 (Kd.C_below h1 b) (Kd.C_below h2 b) (Kd.C_below h3 b) s1 s2 s3 q)
    have HNg := Lib.hid (fun (q : chkS l1 l2 l3 p1 p2 p3 p4 p5 p6 = true) w' (b : Below w.heap.size w w') => rnew_good A1 A2 A3 c1 c2 c3 l1 l2 l3 p1 p2 p3 p4 p5 p6 w' m1 m2 m3 (Kd.C_below h1 b) (Kd.C_below h2 b) (Kd.C_below h3 b) s1 s2 s3 q)
    rw [rig_chk] at HR
    clear hf g1 g2 g3 m1 m2 m3 s1 s2 s3 HF h1 h2 h3
    have y0 : wb.cell? ⟨w.heap.size, 0, none⟩ = some (.slice A1 l1.length c1) := hO.cell 0
    have y1 : wb.cell? ⟨w.heap.size, 1, none⟩ = some (.slice A2 l2.length c2) := hO.cell 1
    have y2 : wb.cell? ⟨w.heap.size, 2, none⟩ = some (.slice A3 l3.length c3) := hO.cell 2
    have y3 : wb.cell? ⟨w.heap.size, 3, none⟩ = some (.int .i64 p1) := hO.cell 3
    have y4 : wb.cell? ⟨w.heap.size, 4, none⟩ = some (.int .i64 p2) := hO.cell 4
    have y5 : wb.cell? ⟨w.heap.size, 5, none⟩ = some (.int .i64 p3) := hO.cell 5
    have y6 : wb.cell? ⟨w.heap.size, 6, none⟩ = some (.int .i64 p4) := hO.cell 6
    have y7 : wb.cell? ⟨w.heap.size, 7, none⟩ = some (.int .i64 p5) := hO.cell 7
    have y8 : wb.cell? ⟨w.heap.size, 8, none⟩ = some (.int .i64 p6) := hO.cell 8
    go_wp2_with fail
    clear y0 y1 y2 y3 y4 y5 y6 y7 y8
    refine (HP.out wb hB).mono ?_
    rintro e wc ⟨B1, B2, B3, d1, d2, d3, rfl, q1, q2, q3, _, _, _, b1⟩
    have hO := hO.on b1
    have hB := bt hB b1
    clear b1 HP
    go_wp2_with fail
    refine (HR.out wc B1 B2 B3 d1 d2 d3 q1 q2 q3).mono ?_
    rintro e wd ⟨rfl, b1⟩
    have hO := hO.on b1
    have hB := bt hB b1
    clear b1 HR q1 q2 q3
    have y0 : wd.cell? ⟨w.heap.size, 0, none⟩ = some (.slice A1 l1.length c1) := hO.cell 0
    have y1 : wd.cell? ⟨w.heap.size, 1, none⟩ = some (.slice A2 l2.length c2) := hO.cell 1
    have y2 : wd.cell? ⟨w.heap.size, 2, none⟩ = some (.slice A3 l3.length c3) := hO.cell 2
    have y3 : wd.cell? ⟨w.heap.size, 3, none⟩ = some (.int .i64 p1) := hO.cell 3
    have y4 : wd.cell? ⟨w.heap.size, 4, none⟩ = some (.int .i64 p2) := hO.cell 4
    have y5 : wd.cell? ⟨w.heap.size, 5, none⟩ = some (.int .i64 p3) := hO.cell 5
    have y6 : wd.cell? ⟨w.heap.size, 6, none⟩ = some (.int .i64 p4) := hO.cell 6
    have y7 : wd.cell? ⟨w.heap.size, 7, none⟩ = some (.int .i64 p5) := hO.cell 7
    have y8 : wd.cell? ⟨w.heap.size, 8, none⟩ = some (.int .i64 p6) := hO.cell 8
    cases hk : chkS l1 l2 l3 p1 p2 p3 p4 p5 p6 with
    | false =>
      rw [hk] at HC
      simp only [Bool.false_eq_true, if_false] at HC
      have HN := Lib.hid (HNb.out hk)
      clear HNb HNg hk
      go_wp2_with fail
      clear y0 y1 y2 y3 y4 y5 y6 y7 y8
      refine (HN.out wd hB).mono ?_
      rintro e we ⟨rfl, b1⟩
      have hO := hO.on b1
      have hB := bt hB b1
      clear b1 HN
      have y0 : we.cell? ⟨w.heap.size, 0, none⟩ = some (.slice A1 l1.length c1) := hO.cell 0
      have y1 : we.cell? ⟨w.heap.size, 1, none⟩ = some (.slice A2 l2.length c2) := hO.cell 1
      have y2 : we.cell? ⟨w.heap.size, 2, none⟩ = some (.slice A3 l3.length c3) := hO.cell 2
      have y3 : we.cell? ⟨w.heap.size, 3, none⟩ = some (.int .i64 p1) := hO.cell 3
      have y4 : we.cell? ⟨w.heap.size, 4, none⟩ = some (.int .i64 p2) := hO.cell 4
      have y5 : we.cell? ⟨w.heap.size, 5, none⟩ = some (.int .i64 p3) := hO.cell 5
      have y6 : we.cell? ⟨w.heap.size, 6, none⟩ = some (.int .i64 p4) := hO.cell 6
      have y7 : we.cell? ⟨w.heap.size, 7, none⟩ = some (.int .i64 p5) := hO.cell 7
      have y8 : we.cell? ⟨w.heap.size, 8, none⟩ = some (.int .i64 p6) := hO.cell 8
      go_wp2_with fail
      clear y0 y1 y2 y3 y4 y5 y6 y7 y8
      refine (HC.out we hB).mono ?_
      rintro e wf ⟨rfl, b1⟩
      have hB := bt hB b1
      go_wp2_with fail
      go_ret
      exact ⟨rfl, hB⟩
    | true =>
      rw [hk] at HC
      simp only [if_true] at HC
      have HN := Lib.hid (HNg.out hk)
      clear HNb HNg hk
      go_wp2_with fail
      clear y0 y1 y2 y3 y4 y5 y6 y7 y8
      refine (HN.out wd hB).mono ?_
      rintro e we ⟨g, E1, E2, E3, e1, e2, e3, n1, n2, n3, rfl, _, b1⟩
      have hO := hO.on b1
      have hB := bt hB b1
      clear b1 HN
      have y0 : we.cell? ⟨w.heap.size, 0, none⟩ = some (.slice A1 l1.length c1) := hO.cell 0
      have y1 : we.cell? ⟨w.heap.size, 1, none⟩ = some (.slice A2 l2.length c2) := hO.cell 1
      have y2 : we.cell? ⟨w.heap.size, 2, none⟩ = some (.slice A3 l3.length c3) := hO.cell 2
      have y3 : we.cell? ⟨w.heap.size, 3, none⟩ = some (.int .i64 p1) := hO.cell 3
      have y4 : we.cell? ⟨w.heap.size, 4, none⟩ = some (.int .i64 p2) := hO.cell 4
      have y5 : we.cell? ⟨w.heap.size, 5, none⟩ = some (.int .i64 p3) := hO.cell 5
      have y6 : we.cell? ⟨w.heap.size, 6, none⟩ = some (.int .i64 p4) := hO.cell 6
      have y7 : we.cell? ⟨w.heap.size, 7, none⟩ = some (.int .i64 p5) := hO.cell 7
      have y8 : we.cell? ⟨w.heap.size, 8, none⟩ = some (.int .i64 p6) := hO.cell 8
      go_wp2_with fail
      clear y0 y1 y2 y3 y4 y5 y6 y7 y8
      refine (HC.out we hB).mono ?_
      rintro e wf ⟨rfl, b1⟩
      have hB := bt hB b1
      go_wp2_with fail
      go_ret
      exact ⟨rfl, hB⟩
end Go.Proofs.Ytbhbnefifgdioaa.Hand
namespace Go.Proofs.Ytbhbnefifgdioaa.Walk
open Go Go.RowKit Go.Proofs.Ytbhbnefifgdioaa.Hand Go.Proofs.YtbhbnefifgdioaaW.PrintWords Go.Proofs.YtbhbnefifgdioaaW.PrintMore Go.Proofs.YtbhbnefifgdioaaW.PrintLast Go.Proofs.Ytbhbnefifgdioaa.RL Go.Proofs.Ytbhbnefifgdioaa.PL Go.Proofs.Ytbhbnefifgdioaa.K
theorem RulesChecks (A0_0 : Option Addr) (k0_0 : Nat) (l0_0 : List (ByteArray × Int)) (A0_1 : Option Addr) (k0_1 : Nat) (l0_1 : List (ByteArray × Int × Int × Int × Int × Int × Int)) (A0_2 : Option Addr) (k0_2 : Nat) (l0_2 : List (ByteArray × Int × Int × Int × Bool)) (a0_3 : Int) (a0_4 : Int) (a0_5 : Int) (a0_6 : Int) (a0_7 : Int) (a0_8 : Int) (W : World) (w0_0 : (A0_0 = none ∧ k0_0 = 0 ∧ l0_0 = []) ∨ ∃ x, A0_0 = some x ∧ l0_0.length ≤ k0_0 ∧ k0_0 ≤ maxLen ∧ ∀ i (h : i < l0_0.length), W.cell? (x.add (i * 2 + 0)) = some (.string l0_0[i].1) ∧ W.cell? (x.add (i * 2 + 1)) = some (.int .i64 l0_0[i].2) ∧ (Lit.int .i64 l0_0[i].2).wf = true ∧ l0_0[i].1.size ≤ maxLen) (w0_1 : (A0_1 = none ∧ k0_1 = 0 ∧ l0_1 = []) ∨ ∃ x, A0_1 = some x ∧ l0_1.length ≤ k0_1 ∧ k0_1 ≤ maxLen ∧ ∀ i (h : i < l0_1.length), W.cell? (x.add (i * 7 + 0)) = some (.string l0_1[i].1) ∧ W.cell? (x.add (i * 7 + 1)) = some (.int .i64 l0_1[i].2.1) ∧ W.cell? (x.add (i * 7 + 2)) = some (.int .i64 l0_1[i].2.2.1) ∧ W.cell? (x.add (i * 7 + 3)) = some (.int .i64 l0_1[i].2.2.2.1) ∧ W.cell? (x.add (i * 7 + 4)) = some (.int .i64 l0_1[i].2.2.2.2.1) ∧ W.cell? (x.add (i * 7 + 5)) = some (.int .i64 l0_1[i].2.2.2.2.2.1) ∧ W.cell? (x.add (i * 7 + 6)) = some (.int .i64 l0_1[i].2.2.2.2.2.2) ∧ (Lit.int .i64 l0_1[i].2.1).wf = true ∧ (Lit.int .i64 l0_1[i].2.2.1).wf = true ∧ (Lit.int .i64 l0_1[i].2.2.2.1).wf = true ∧ (Lit.int .i64 l0_1[i].2.2.2.2.1).wf = true ∧ (Lit.int .i64 l0_1[i].2.2.2.2.2.1).wf = true ∧ (Lit.int .i64 l0_1[i].2.2.2.2.2.2).wf = true ∧ l0_1[i].1.size ≤ maxLen) (w0_2 : (A0_2 = none ∧ k0_2 = 0 ∧ l0_2 = []) ∨ ∃ x, A0_2 = some x ∧ l0_2.length ≤ k0_2 ∧ k0_2 ≤ maxLen ∧ ∀ i (h : i < l0_2.length), W.cell? (x.add (i * 5 + 0)) = some (.string l0_2[i].1) ∧ W.cell? (x.add (i * 5 + 1)) = some (.int .i64 l0_2[i].2.1) ∧ W.cell? (x.add (i * 5 + 2)) = some (.int .i64 l0_2[i].2.2.1) ∧ W.cell? (x.add (i * 5 + 3)) = some (.int .i64 l0_2[i].2.2.2.1) ∧ W.cell? (x.add (i * 5 + 4)) = some (.bool l0_2[i].2.2.2.2) ∧ (Lit.int .i64 l0_2[i].2.1).wf = true ∧ (Lit.int .i64 l0_2[i].2.2.1).wf = true ∧ (Lit.int .i64 l0_2[i].2.2.2.1).wf = true ∧ l0_2[i].1.size ≤ maxLen) (w0_3 : (Lit.int .i64 a0_3).wf = true) (w0_4 : (Lit.int .i64 a0_4).wf = true) (w0_5 : (Lit.int .i64 a0_5).wf = true) (w0_6 : (Lit.int .i64 a0_6).wf = true) (w0_7 : (Lit.int .i64 a0_7).wf = true) (w0_8 : (Lit.int .i64 a0_8).wf = true) :
    Calls Try.prog 3 #[.agg #[.slice A0_0 l0_0.length k0_0, .slice A0_1 l0_1.length k0_1, .slice A0_2 l0_2.length k0_2, .int .i64 a0_3, .int .i64 a0_4, .int .i64 a0_5, .int .i64 a0_6, .int .i64 a0_7, .int .i64 a0_8]] W fun e W' => e = .returned (.bool true) ∧ Below W.heap.size W W' := by
  obtain ⟨n0, q0⟩ := len_row w0_0; obtain ⟨n1, q1⟩ := len_row w0_1; obtain ⟨n2, q2⟩ := len_row w0_2
  exact checks_walk A0_0 A0_1 A0_2 k0_0 k0_1 k0_2 l0_0 l0_1 l0_2 a0_3 a0_4 a0_5 a0_6 a0_7 a0_8 W (rowA w0_0) (rowS w0_1) (rowV w0_2) n0 n1 n2
end Go.Proofs.Ytbhbnefifgdioaa.Walk
