/- Texts laid together by join.py: Rul5 Rul6 Rul7. -/
import Derived.Test.YtbhbnefifgdioaaRJ1
import Derived.Deep.RegionHeld3
/- rules: own, New, walked. -/
set_option linter.unusedVariables false
set_option linter.unusedSimpArgs false
namespace Go.Proofs.Ytbhbnefifgdioaa.Hand
open Go Go.RowKit Go.Proofs.YtbhbnefifgdioaaW.PrintWords Go.Proofs.YtbhbnefifgdioaaW.PrintMore Go.Proofs.YtbhbnefifgdioaaW.PrintLast Go.Proofs.Ytbhbnefifgdioaa.RL Go.Proofs.Ytbhbnefifgdioaa.PL Go.Proofs.Ytbhbnefifgdioaa.K
theorem R_past {α : Type} {d : Kd α} {e base : Nat} {w : World} {v : Value} {xs : List α} (h : d.R e w base (fun _ => True) v xs) (p : Addr) (hp : p.block < base) (u : Value) : d.R e (w.setCell p u) base (fun _ => True) v xs :=
  Kd.R_mono (Kd.R_far (Kd.R_bound h) (fun k hk => by have := hk.2.1; omega) u) (fun _ _ => trivial)
/-- How far the walk of own is. -/
structure OwnF (w u : World) (cs : Array Value) (q1 q2 q3 : Value) (b1 b2 b3 : Nat) (l1 : List Acc) (l2 : List Sym) (l3 : List Ven) : Prop where
  bR : Blk u (w.heap.size + 1) 26 cs
  r1 : Kd.R kA 60 u b1 (fun _ => True) q1 l1
  r2 : Kd.R kS 41 u b2 (fun _ => True) q2 l2
  r3 : Kd.R kV 62 u b3 (fun _ => True) q3 l3
  g1 : w.heap.size + 1 < b1
  g2 : w.heap.size + 1 < b2
  g3 : w.heap.size + 1 < b3
  bel : Below w.heap.size w u
theorem OwnF.put {w u : World} {cs : Array Value} {q1 q2 q3 : Value} {b1 b2 b3 : Nat} {l1 : List Acc} {l2 : List Sym} {l3 : List Ven} (h : OwnF w u cs q1 q2 q3 b1 b2 b3 l1 l2 l3) (j : Nat) (x : Value) : OwnF w (u.setCell ⟨w.heap.size + 1, j, none⟩ x) (cs.setIfInBounds j x) q1 q2 q3 b1 b2 b3 l1 l2 l3 :=
  ⟨h.bR.put j x, R_past h.r1 _ h.g1 x, R_past h.r2 _ h.g2 x, R_past h.r3 _ h.g3 x, h.g1, h.g2, h.g3, h.bel.setCell (by show w.heap.size ≤ w.heap.size + 1; omega) x⟩
theorem OwnF.box {w u : World} {cs : Array Value} {q1 q2 q3 : Value} {b1 b2 b3 : Nat} {l1 : List Acc} {l2 : List Sym} {l3 : List Ven} (h : OwnF w u cs q1 q2 q3 b1 b2 b3 l1 l2 l3) (j : Nat) (x : Value) : OwnF w (u.setCell ⟨w.heap.size, j, none⟩ x) cs q1 q2 q3 b1 b2 b3 l1 l2 l3 :=
  ⟨h.bR.far (p := ⟨w.heap.size, j, none⟩) (by show w.heap.size + 1 ≠ w.heap.size; omega) x, R_past h.r1 _ (by have := h.g1; show w.heap.size < _; omega) x, R_past h.r2 _ (by have := h.g2; show w.heap.size < _; omega) x, R_past h.r3 _ (by have := h.g3; show w.heap.size < _; omega) x, h.g1, h.g2, h.g3, h.bel.setCell (Nat.le_refl _) x⟩
set_option maxHeartbeats 8000000 in
set_option maxRecDepth 100000 in
theorem own_walk (A1 A2 A3 : Option Addr) (c1 c2 c3 : Nat) (l1 : List Acc) (l2 : List Sym) (l3 : List Ven) (p1 p2 p3 p4 p5 p6 : Int) (w : World) (hm1 : l1.length ≤ 900) (hm2 : l2.length ≤ 900) (hm3 : l3.length ≤ 900)
    (h1 : Kd.C kA w A1 l1.length l1) (h2 : Kd.C kS w A2 l2.length l2) (h3 : Kd.C kV w A3 l3.length l3) :
    Calls Try.prog 26 #[.agg (setC (.slice A1 l1.length c1) (.slice A2 l2.length c2) (.slice A3 l3.length c3) p1 p2 p3 p4 p5 p6)] w fun e w' => ∃ B1 B2 B3 d1 d2 d3, e = .returned (.agg (setC (.slice B1 l1.length d1) (.slice B2 l2.length d2) (.slice B3 l3.length d3) p1 p2 p3 p4 p5 p6)) ∧
      Kd.R kA 60 w' w.heap.size (fun _ => True) (.slice B1 l1.length d1) l1 ∧ Kd.R kS 41 w' w.heap.size (fun _ => True) (.slice B2 l2.length d2) l2 ∧ Kd.R kV 62 w' w.heap.size (fun _ => True) (.slice B3 l3.length d3) l3 ∧ Below w.heap.size w w' := by
  have H1 := Lib.hid (fun w' (b : Below w.heap.size w w') => cloneA A1 c1 l1 hm1 w' (Kd.C_below h1 b))
  have H2 := Lib.hid (fun w' (b : Below w.heap.size w w') => cloneS A2 c2 l2 hm2 w' (Kd.C_below h2 b))
  have H3 := Lib.hid (fun w' (b : Below w.heap.size w w') => cloneV A3 c3 l3 hm3 w' (Kd.C_below h3 b))
  clear h1 h2 h3
  go_enter Try.func26, Try.ntmps26
  go_wp2_with fail
  have hS1 : (w.alloc (.cells (setC (.slice A1 l1.length c1) (.slice A2 l2.length c2) (.slice A3 l3.length c3) p1 p2 p3 p4 p5 p6) 26)).heap.size = w.heap.size + 1 := Array.size_push ..
  have hO := (Blk.new w 26 (setC (.slice A1 l1.length c1) (.slice A2 l2.length c2) (.slice A3 l3.length c3) p1 p2 p3 p4 p5 p6)).alloc (.cells (setC (.slice none 0 0) (.slice none 0 0) (.slice none 0 0) 0 0 0 0 0 0) 26)
  have hR := Blk.new (w.alloc (.cells (setC (.slice A1 l1.length c1) (.slice A2 l2.length c2) (.slice A3 l3.length c3) p1 p2 p3 p4 p5 p6) 26)) 26 (setC (.slice none 0 0) (.slice none 0 0) (.slice none 0 0) 0 0 0 0 0 0)
  rw [hS1] at hR
  have hB := (((Below.refl w.heap.size w).alloc (Nat.le_refl _) (.cells (setC (.slice A1 l1.length c1) (.slice A2 l2.length c2) (.slice A3 l3.length c3) p1 p2 p3 p4 p5 p6) 26))).alloc (by rw [hS1]; omega) (.cells (setC (.slice none 0 0) (.slice none 0 0) (.slice none 0 0) 0 0 0 0 0 0) 26)
  clear hS1
  generalize ((w.alloc (.cells (setC (.slice A1 l1.length c1) (.slice A2 l2.length c2) (.slice A3 l3.length c3) p1 p2 p3 p4 p5 p6) 26)).alloc (.cells (setC (.slice none 0 0) (.slice none 0 0) (.slice none 0 0) 0 0 0 0 0 0) 26)) = u0 at *
  have hlt1 := hR.lt
  refine (H1.out u0 hB).mono ?_
  rintro e v1 ⟨B1, d1, rfl, r1, b1⟩
  replace hO := Blk.on hO b1
  replace hR := Blk.on hR b1
  have hw1 : w.heap.size < v1.heap.size := hO.lt
  have ha1 : w.heap.size + 1 < u0.heap.size := hlt1
  replace hB := bt hB b1
  have f0 : v1.frozen? ⟨w.heap.size, 0, none⟩ = false := hO.frozen 0
  have y0 : v1.cell? ⟨w.heap.size, 0, none⟩ = some (.slice A1 l1.length c1) := hO.cell 0
  have y1 : v1.cell? ⟨w.heap.size, 1, none⟩ = some (.slice A2 l2.length c2) := hO.cell 1
  have y2 : v1.cell? ⟨w.heap.size, 2, none⟩ = some (.slice A3 l3.length c3) := hO.cell 2
  have y3 : v1.cell? ⟨w.heap.size, 3, none⟩ = some (.int .i64 p1) := hO.cell 3
  have y4 : v1.cell? ⟨w.heap.size, 4, none⟩ = some (.int .i64 p2) := hO.cell 4
  have y5 : v1.cell? ⟨w.heap.size, 5, none⟩ = some (.int .i64 p3) := hO.cell 5
  have y6 : v1.cell? ⟨w.heap.size, 6, none⟩ = some (.int .i64 p4) := hO.cell 6
  have y7 : v1.cell? ⟨w.heap.size, 7, none⟩ = some (.int .i64 p5) := hO.cell 7
  have y8 : v1.cell? ⟨w.heap.size, 8, none⟩ = some (.int .i64 p6) := hO.cell 8
  go_wp2_with fail
  clear f0 y0 y1 y2 y3 y4 y5 y6 y7 y8
  have hO2 : Blk (v1.setCell ⟨w.heap.size, 0, none⟩ (.slice B1 l1.length d1)) w.heap.size 26 (setC (.slice B1 l1.length d1) (.slice A2 l2.length c2) (.slice A3 l3.length c3) p1 p2 p3 p4 p5 p6) := hO.put 0 _
  replace hR := hR.far (p := ⟨w.heap.size, 0, none⟩) (by show w.heap.size + 1 ≠ w.heap.size; omega) (.slice B1 l1.length d1)
  replace r1 := R_past r1 ⟨w.heap.size, 0, none⟩ (by have := ha1; show w.heap.size < _; omega) (.slice B1 l1.length d1)
  replace hB := hB.setCell (p := ⟨w.heap.size, 0, none⟩) (Nat.le_refl _) (.slice B1 l1.length d1)
  replace hO := hO2
  clear hO2
  have hlt2 := hR.lt
  generalize v1.setCell ⟨w.heap.size, 0, none⟩ (.slice B1 l1.length d1) = u1 at *
  refine (H2.out u1 hB).mono ?_
  rintro e v2 ⟨B2, d2, rfl, r2, b2⟩
  replace hO := Blk.on hO b2
  replace hR := Blk.on hR b2
  have hw2 : w.heap.size < v2.heap.size := hO.lt
  replace r1 := Kd.R_below r1 b2
  have ha2 : w.heap.size + 1 < u1.heap.size := hlt2
  replace hB := bt hB b2
  have f0 : v2.frozen? ⟨w.heap.size, 1, none⟩ = false := hO.frozen 1
  have y0 : v2.cell? ⟨w.heap.size, 0, none⟩ = some (.slice B1 l1.length d1) := hO.cell 0
  have y1 : v2.cell? ⟨w.heap.size, 1, none⟩ = some (.slice A2 l2.length c2) := hO.cell 1
  have y2 : v2.cell? ⟨w.heap.size, 2, none⟩ = some (.slice A3 l3.length c3) := hO.cell 2
  have y3 : v2.cell? ⟨w.heap.size, 3, none⟩ = some (.int .i64 p1) := hO.cell 3
  have y4 : v2.cell? ⟨w.heap.size, 4, none⟩ = some (.int .i64 p2) := hO.cell 4
  have y5 : v2.cell? ⟨w.heap.size, 5, none⟩ = some (.int .i64 p3) := hO.cell 5
  have y6 : v2.cell? ⟨w.heap.size, 6, none⟩ = some (.int .i64 p4) := hO.cell 6
  have y7 : v2.cell? ⟨w.heap.size, 7, none⟩ = some (.int .i64 p5) := hO.cell 7
  have y8 : v2.cell? ⟨w.heap.size, 8, none⟩ = some (.int .i64 p6) := hO.cell 8
  go_wp2_with fail
  clear f0 y0 y1 y2 y3 y4 y5 y6 y7 y8
  have hO2 : Blk (v2.setCell ⟨w.heap.size, 1, none⟩ (.slice B2 l2.length d2)) w.heap.size 26 (setC (.slice B1 l1.length d1) (.slice B2 l2.length d2) (.slice A3 l3.length c3) p1 p2 p3 p4 p5 p6) := hO.put 1 _
  replace hR := hR.far (p := ⟨w.heap.size, 1, none⟩) (by show w.heap.size + 1 ≠ w.heap.size; omega) (.slice B2 l2.length d2)
  replace r1 := R_past r1 ⟨w.heap.size, 1, none⟩ (by have := ha1; show w.heap.size < _; omega) (.slice B2 l2.length d2)
  replace r2 := R_past r2 ⟨w.heap.size, 1, none⟩ (by have := ha2; show w.heap.size < _; omega) (.slice B2 l2.length d2)
  replace hB := hB.setCell (p := ⟨w.heap.size, 1, none⟩) (Nat.le_refl _) (.slice B2 l2.length d2)
  replace hO := hO2
  clear hO2
  have hlt3 := hR.lt
  generalize v2.setCell ⟨w.heap.size, 1, none⟩ (.slice B2 l2.length d2) = u2 at *
  refine (H3.out u2 hB).mono ?_
  rintro e v3 ⟨B3, d3, rfl, r3, b3⟩
  replace hO := Blk.on hO b3
  replace hR := Blk.on hR b3
  have hw3 : w.heap.size < v3.heap.size := hO.lt
  replace r1 := Kd.R_below r1 b3
  replace r2 := Kd.R_below r2 b3
  have ha3 : w.heap.size + 1 < u2.heap.size := hlt3
  replace hB := bt hB b3
  have hF : OwnF w v3 (setC (.slice none 0 0) (.slice none 0 0) (.slice none 0 0) 0 0 0 0 0 0) (.slice B1 l1.length d1) (.slice B2 l2.length d2) (.slice B3 l3.length d3) u0.heap.size u1.heap.size u2.heap.size l1 l2 l3 := ⟨hR, r1, r2, r3, ha1, ha2, ha3, hB⟩
  replace hF := hF.box 2 (.slice B3 l3.length d3)
  replace hF := hF.put 0 (.slice B1 l1.length d1)
  replace hF := hF.put 1 (.slice B2 l2.length d2)
  replace hF := hF.put 2 (.slice B3 l3.length d3)
  replace hF := hF.put 3 (.int .i64 p1)
  replace hF := hF.put 4 (.int .i64 p2)
  replace hF := hF.put 5 (.int .i64 p3)
  replace hF := hF.put 6 (.int .i64 p4)
  replace hF := hF.put 7 (.int .i64 p5)
  replace hF := hF.put 8 (.int .i64 p6)
  have HF := Lib.hid hF
  clear hF r1 r2 r3 hB
  have f0 : v3.frozen? ⟨w.heap.size, 2, none⟩ = false := hO.frozen 2
  have y0 : v3.cell? ⟨w.heap.size, 0, none⟩ = some (.slice B1 l1.length d1) := hO.cell 0
  have y1 : v3.cell? ⟨w.heap.size, 1, none⟩ = some (.slice B2 l2.length d2) := hO.cell 1
  have y2 : v3.cell? ⟨w.heap.size, 2, none⟩ = some (.slice A3 l3.length c3) := hO.cell 2
  have y3 : v3.cell? ⟨w.heap.size, 3, none⟩ = some (.int .i64 p1) := hO.cell 3
  have y4 : v3.cell? ⟨w.heap.size, 4, none⟩ = some (.int .i64 p2) := hO.cell 4
  have y5 : v3.cell? ⟨w.heap.size, 5, none⟩ = some (.int .i64 p3) := hO.cell 5
  have y6 : v3.cell? ⟨w.heap.size, 6, none⟩ = some (.int .i64 p4) := hO.cell 6
  have y7 : v3.cell? ⟨w.heap.size, 7, none⟩ = some (.int .i64 p5) := hO.cell 7
  have y8 : v3.cell? ⟨w.heap.size, 8, none⟩ = some (.int .i64 p6) := hO.cell 8
  have z0 : v3.cell? ⟨w.heap.size + 1, 0, none⟩ = some (.slice none 0 0) := hR.cell 0
  have fz0 : v3.frozen? ⟨w.heap.size + 1, 0, none⟩ = false := hR.frozen 0
  have z1 : v3.cell? ⟨w.heap.size + 1, 1, none⟩ = some (.slice none 0 0) := hR.cell 1
  have fz1 : v3.frozen? ⟨w.heap.size + 1, 1, none⟩ = false := hR.frozen 1
  have z2 : v3.cell? ⟨w.heap.size + 1, 2, none⟩ = some (.slice none 0 0) := hR.cell 2
  have fz2 : v3.frozen? ⟨w.heap.size + 1, 2, none⟩ = false := hR.frozen 2
  have z3 : v3.cell? ⟨w.heap.size + 1, 3, none⟩ = some (.int .i64 0) := hR.cell 3
  have fz3 : v3.frozen? ⟨w.heap.size + 1, 3, none⟩ = false := hR.frozen 3
  have z4 : v3.cell? ⟨w.heap.size + 1, 4, none⟩ = some (.int .i64 0) := hR.cell 4
  have fz4 : v3.frozen? ⟨w.heap.size + 1, 4, none⟩ = false := hR.frozen 4
  have z5 : v3.cell? ⟨w.heap.size + 1, 5, none⟩ = some (.int .i64 0) := hR.cell 5
  have fz5 : v3.frozen? ⟨w.heap.size + 1, 5, none⟩ = false := hR.frozen 5
  have z6 : v3.cell? ⟨w.heap.size + 1, 6, none⟩ = some (.int .i64 0) := hR.cell 6
  have fz6 : v3.frozen? ⟨w.heap.size + 1, 6, none⟩ = false := hR.frozen 6
  have z7 : v3.cell? ⟨w.heap.size + 1, 7, none⟩ = some (.int .i64 0) := hR.cell 7
  have fz7 : v3.frozen? ⟨w.heap.size + 1, 7, none⟩ = false := hR.frozen 7
  have z8 : v3.cell? ⟨w.heap.size + 1, 8, none⟩ = some (.int .i64 0) := hR.cell 8
  have fz8 : v3.frozen? ⟨w.heap.size + 1, 8, none⟩ = false := hR.frozen 8
  go_wp2_with fail
  have bR := HF.out.bR
  have s0 := bR.cell 0; have s1 := bR.cell 1; have s2 := bR.cell 2; have s3 := bR.cell 3; have s4 := bR.cell 4; have s5 := bR.cell 5; have s6 := bR.cell 6; have s7 := bR.cell 7; have s8 := bR.cell 8
  simp at s0 s1 s2 s3 s4 s5 s6 s7 s8
  have G := HF.out
  have hl1 := G.g1; have hl2 := G.g2; have hl3 := G.g3
  clear HF bR
  exact bodyPost_ret (v := .agg (setC (.slice B1 l1.length d1) (.slice B2 l2.length d2) (.slice B3 l3.length d3) p1 p2 p3 p4 p5 p6)) (by simp [results, Try.results26, go_sem, s0, s1, s2, s3, s4, s5, s6, s7, s8]) rfl ⟨B1, B2, B3, d1, d2, d3, rfl, Kd.R_lower G.r1 (by omega), Kd.R_lower G.r2 (by omega), Kd.R_lower G.r3 (by omega), G.bel⟩
end Go.Proofs.Ytbhbnefifgdioaa.Hand

/- rules: New, walked (gen_rul6.py). -/
set_option linter.unusedVariables false
set_option linter.unusedSimpArgs false
namespace Go.Proofs.Ytbhbnefifgdioaa.Hand
open Go Go.RowKit Go.Proofs.YtbhbnefifgdioaaW.PrintWords Go.Proofs.YtbhbnefifgdioaaW.PrintMore Go.Proofs.YtbhbnefifgdioaaW.PrintLast Go.Proofs.Ytbhbnefifgdioaa.RL Go.Proofs.Ytbhbnefifgdioaa.PL Go.Proofs.Ytbhbnefifgdioaa.K Go.Maps
/-- A world in which the rules of a setup lie in memory of their own, from a block on. -/
structure RulW (base : Nat) (u : World) (g : Nat) (B1 B2 B3 : Option Addr) (d1 d2 d3 m1 m2 m3 : Nat) (l1 : List Acc) (l2 : List Sym) (l3 : List Ven) (p1 p2 p3 p4 p5 p6 : Int) : Prop where
  bR : Blk u g 56 #[.slice B1 l1.length d1, .slice B2 l2.length d2, .slice B3 l3.length d3, .int .i64 p1, .int .i64 p2, .int .i64 p3, .int .i64 p4, .int .i64 p5, .int .i64 p6, .map (some m1), .map (some m2), .map (some m3)]
  r1 : Kd.R kA 60 u base (fun _ => True) (.slice B1 l1.length d1) l1
  r2 : Kd.R kS 41 u base (fun _ => True) (.slice B2 l2.length d2) l2
  r3 : Kd.R kV 62 u base (fun _ => True) (.slice B3 l3.length d3) l3
  o1 : u.ownsMap Try.prog 9 (plainElem Try.prog 3) m1 l1.length (plD (l1.map (·.1)))
  o2 : u.ownsMap Try.prog 9 (plainElem Try.prog 3) m2 l2.length (plD (l2.map (·.1)))
  o3 : u.ownsMap Try.prog 9 (plainElem Try.prog 3) m3 l3.length (plD (l3.map (·.1)))
  hg : base ≤ g
  h1 : base ≤ m1
  h2 : base ≤ m2
  h3 : base ≤ m3
theorem ownsMap_on {u u' : World} {P : Program} {k : TypeId} {R : Value → Option (DataW Unit × List MemPlace)} {b n : Nat} {D : DataW Unit} (h : u.ownsMap P k R b n D) (hb : Below u.heap.size u u') : u'.ownsMap P k R b n D := by
  have hlt := h.lt
  obtain ⟨es, clock, hh, r⟩ := h
  exact ⟨es, clock, (hb.block b hlt).trans hh, r⟩
theorem RulW.on {base : Nat} {u u' : World} {g : Nat} {B1 B2 B3 : Option Addr} {d1 d2 d3 m1 m2 m3 : Nat} {l1 : List Acc} {l2 : List Sym} {l3 : List Ven} {p1 p2 p3 p4 p5 p6 : Int} (h : RulW base u g B1 B2 B3 d1 d2 d3 m1 m2 m3 l1 l2 l3 p1 p2 p3 p4 p5 p6) (hb : Below u.heap.size u u') : RulW base u' g B1 B2 B3 d1 d2 d3 m1 m2 m3 l1 l2 l3 p1 p2 p3 p4 p5 p6 :=
  ⟨Blk.on h.bR hb, Kd.R_below h.r1 hb, Kd.R_below h.r2 hb, Kd.R_below h.r3 hb, ownsMap_on h.o1 hb, ownsMap_on h.o2 hb, ownsMap_on h.o3 hb, h.hg, h.h1, h.h2, h.h3⟩
theorem RulW.past {base : Nat} {u : World} {g : Nat} {B1 B2 B3 : Option Addr} {d1 d2 d3 m1 m2 m3 : Nat} {l1 : List Acc} {l2 : List Sym} {l3 : List Ven} {p1 p2 p3 p4 p5 p6 : Int} (h : RulW base u g B1 B2 B3 d1 d2 d3 m1 m2 m3 l1 l2 l3 p1 p2 p3 p4 p5 p6) (p : Addr) (hp : p.block < base) (x : Value) : RulW base (u.setCell p x) g B1 B2 B3 d1 d2 d3 m1 m2 m3 l1 l2 l3 p1 p2 p3 p4 p5 p6 :=
  ⟨h.bR.far (by have := h.hg; omega) x, R_past h.r1 p hp x, R_past h.r2 p hp x, R_past h.r3 p hp x, h.o1.setCell (by have := h.h1; omega) x, h.o2.setCell (by have := h.h2; omega) x, h.o3.setCell (by have := h.h3; omega) x, h.hg, h.h1, h.h2, h.h3⟩
set_option maxHeartbeats 8000000 in
set_option maxRecDepth 100000 in
theorem rnew_bad (A1 A2 A3 : Option Addr) (c1 c2 c3 : Nat) (l1 : List Acc) (l2 : List Sym) (l3 : List Ven) (p1 p2 p3 p4 p5 p6 : Int) (w : World) (hm1 : l1.length ≤ 900) (hm2 : l2.length ≤ 900) (hm3 : l3.length ≤ 900)
    (h1 : Kd.C kA w A1 l1.length l1) (h2 : Kd.C kS w A2 l2.length l2) (h3 : Kd.C kV w A3 l3.length l3) (s1 : ∀ x ∈ l1, x.1.size ≤ 1000) (s2 : ∀ x ∈ l2, x.1.size ≤ 1000) (s3 : ∀ x ∈ l3, x.1.size ≤ 1000) (hck0 : chkS l1 l2 l3 p1 p2 p3 p4 p5 p6 = false) :
    Calls Try.prog 10 #[.agg (setC (.slice A1 l1.length c1) (.slice A2 l2.length c2) (.slice A3 l3.length c3) p1 p2 p3 p4 p5 p6)] w fun e w' => e = .returned (.tuple #[.pointer none, .int .i64 150]) ∧ Below w.heap.size w w' := by
  have hO := Blk.new w 26 (setC (.slice A1 l1.length c1) (.slice A2 l2.length c2) (.slice A3 l3.length c3) p1 p2 p3 p4 p5 p6)
  have hB := (Below.refl w.heap.size w).alloc (Nat.le_refl _) (.cells (setC (.slice A1 l1.length c1) (.slice A2 l2.length c2) (.slice A3 l3.length c3) p1 p2 p3 p4 p5 p6) 26)
  have hck := fun w' (b : Below w.heap.size w w') => check_walk A1 A2 A3 c1 c2 c3 l1 l2 l3 p1 p2 p3 p4 p5 p6 w' hm1 hm2 hm3 (Kd.C_below h1 b) (Kd.C_below h2 b) (Kd.C_below h3 b) s1 s2 s3
  simp only [hck0, Bool.false_eq_true, if_false] at hck
  have HCK := Lib.hid hck
  clear hck h1 h2 h3 s1 s2 s3 hck0
  go_enter Try.func10, Try.ntmps10
  go_wp2_with fail
  generalize w.alloc (.cells (setC (.slice A1 l1.length c1) (.slice A2 l2.length c2) (.slice A3 l3.length c3) p1 p2 p3 p4 p5 p6) 26) = w1 at *
  refine (HCK.out w1 hB).mono ?_
  rintro e w2 ⟨rfl, b2⟩
  replace hB := bt hB b2
  clear hO HCK b2
  go_wp2_with fail
  go_ret2
  exact ⟨rfl, hB⟩
set_option maxHeartbeats 16000000 in
set_option maxRecDepth 100000 in
theorem rnew_good (A1 A2 A3 : Option Addr) (c1 c2 c3 : Nat) (l1 : List Acc) (l2 : List Sym) (l3 : List Ven) (p1 p2 p3 p4 p5 p6 : Int) (w : World) (hm1 : l1.length ≤ 900) (hm2 : l2.length ≤ 900) (hm3 : l3.length ≤ 900)
    (h1 : Kd.C kA w A1 l1.length l1) (h2 : Kd.C kS w A2 l2.length l2) (h3 : Kd.C kV w A3 l3.length l3) (s1 : ∀ x ∈ l1, x.1.size ≤ 1000) (s2 : ∀ x ∈ l2, x.1.size ≤ 1000) (s3 : ∀ x ∈ l3, x.1.size ≤ 1000) (hck0 : chkS l1 l2 l3 p1 p2 p3 p4 p5 p6 = true) :
    Calls Try.prog 10 #[.agg (setC (.slice A1 l1.length c1) (.slice A2 l2.length c2) (.slice A3 l3.length c3) p1 p2 p3 p4 p5 p6)] w fun e w' => ∃ g B1 B2 B3 d1 d2 d3 m1 m2 m3, e = .returned (.tuple #[.pointer (some ⟨g, 0, none⟩), .int .i64 0]) ∧ RulW w.heap.size w' g B1 B2 B3 d1 d2 d3 m1 m2 m3 l1 l2 l3 p1 p2 p3 p4 p5 p6 ∧ Below w.heap.size w w' := by
  have hO := Blk.new w 26 (setC (.slice A1 l1.length c1) (.slice A2 l2.length c2) (.slice A3 l3.length c3) p1 p2 p3 p4 p5 p6)
  have hB := (Below.refl w.heap.size w).alloc (Nat.le_refl _) (.cells (setC (.slice A1 l1.length c1) (.slice A2 l2.length c2) (.slice A3 l3.length c3) p1 p2 p3 p4 p5 p6) 26)
  have hck := fun w' (b : Below w.heap.size w w') => check_walk A1 A2 A3 c1 c2 c3 l1 l2 l3 p1 p2 p3 p4 p5 p6 w' hm1 hm2 hm3 (Kd.C_below h1 b) (Kd.C_below h2 b) (Kd.C_below h3 b) s1 s2 s3
  simp only [hck0, if_true] at hck
  have HCK := Lib.hid hck
  have HOW := Lib.hid (fun w' (b : Below w.heap.size w w') => own_walk A1 A2 A3 c1 c2 c3 l1 l2 l3 p1 p2 p3 p4 p5 p6 w' hm1 hm2 hm3 (Kd.C_below h1 b) (Kd.C_below h2 b) (Kd.C_below h3 b))
  have HN1 := Lib.hid (fun w' (b : Below w.heap.size w w') => rnamesA A1 c1 l1 hm1 w' (Kd.C_below h1 b))
  have HN2 := Lib.hid (fun w' (b : Below w.heap.size w w') => rnamesS A2 c2 l2 hm2 w' (Kd.C_below h2 b))
  have HN3 := Lib.hid (fun w' (b : Below w.heap.size w w') => rnamesV A3 c3 l3 hm3 w' (Kd.C_below h3 b))
  have HP1 := Lib.hid (fun B d w' (hc : Kd.C Kd.string w' B l1.length (l1.map (·.1))) => places_walk B d l1.length (l1.map (·.1)) w' (by rw [List.length_map]) hm1 hc (fun s hs => by obtain ⟨x, hx, rfl⟩ := List.mem_map.1 hs; exact s1 x hx))
  have HP2 := Lib.hid (fun B d w' (hc : Kd.C Kd.string w' B l2.length (l2.map (·.1))) => places_walk B d l2.length (l2.map (·.1)) w' (by rw [List.length_map]) hm2 hc (fun s hs => by obtain ⟨x, hx, rfl⟩ := List.mem_map.1 hs; exact s2 x hx))
  have HP3 := Lib.hid (fun B d w' (hc : Kd.C Kd.string w' B l3.length (l3.map (·.1))) => places_walk B d l3.length (l3.map (·.1)) w' (by rw [List.length_map]) hm3 hc (fun s hs => by obtain ⟨x, hx, rfl⟩ := List.mem_map.1 hs; exact s3 x hx))
  clear hck h1 h2 h3 s1 s2 s3 hck0
  go_enter Try.func10, Try.ntmps10
  go_wp2_with fail
  generalize w.alloc (.cells (setC (.slice A1 l1.length c1) (.slice A2 l2.length c2) (.slice A3 l3.length c3) p1 p2 p3 p4 p5 p6) 26) = w1 at *
  refine (HCK.out w1 hB).mono ?_
  rintro e w2 ⟨rfl, b2⟩
  replace hO := Blk.on hO b2
  replace hB := bt hB b2
  clear HCK b2
  have ks : ∀ W : World, Below w2.heap.size w2 W → W.cell? ⟨w.heap.size, 0, none⟩ = some (.slice A1 l1.length c1) ∧ W.cell? ⟨w.heap.size, 1, none⟩ = some (.slice A2 l2.length c2) ∧ W.cell? ⟨w.heap.size, 2, none⟩ = some (.slice A3 l3.length c3) ∧ W.cell? ⟨w.heap.size, 3, none⟩ = some (.int .i64 p1) ∧ W.cell? ⟨w.heap.size, 4, none⟩ = some (.int .i64 p2) ∧ W.cell? ⟨w.heap.size, 5, none⟩ = some (.int .i64 p3) ∧ W.cell? ⟨w.heap.size, 6, none⟩ = some (.int .i64 p4) ∧ W.cell? ⟨w.heap.size, 7, none⟩ = some (.int .i64 p5) ∧ W.cell? ⟨w.heap.size, 8, none⟩ = some (.int .i64 p6) ∧ Below w.heap.size w W := fun W hb => by
    have hO' := Blk.on hO hb
    exact ⟨hO'.cell 0, hO'.cell 1, hO'.cell 2, hO'.cell 3, hO'.cell 4, hO'.cell 5, hO'.cell 6, hO'.cell 7, hO'.cell 8, bt hB hb⟩
  have KS := Lib.hid ks
  clear ks
  have y0 : w2.cell? ⟨w.heap.size, 0, none⟩ = some (.slice A1 l1.length c1) := hO.cell 0
  have y1 : w2.cell? ⟨w.heap.size, 1, none⟩ = some (.slice A2 l2.length c2) := hO.cell 1
  have y2 : w2.cell? ⟨w.heap.size, 2, none⟩ = some (.slice A3 l3.length c3) := hO.cell 2
  have y3 : w2.cell? ⟨w.heap.size, 3, none⟩ = some (.int .i64 p1) := hO.cell 3
  have y4 : w2.cell? ⟨w.heap.size, 4, none⟩ = some (.int .i64 p2) := hO.cell 4
  have y5 : w2.cell? ⟨w.heap.size, 5, none⟩ = some (.int .i64 p3) := hO.cell 5
  have y6 : w2.cell? ⟨w.heap.size, 6, none⟩ = some (.int .i64 p4) := hO.cell 6
  have y7 : w2.cell? ⟨w.heap.size, 7, none⟩ = some (.int .i64 p5) := hO.cell 7
  have y8 : w2.cell? ⟨w.heap.size, 8, none⟩ = some (.int .i64 p6) := hO.cell 8
  go_upto_region 4 with (fail)
  go_region_held3 (fun w' => w'.cell? ⟨w.heap.size, 0, none⟩ = some (.slice A1 l1.length c1) ∧ w'.cell? ⟨w.heap.size, 1, none⟩ = some (.slice A2 l2.length c2) ∧ w'.cell? ⟨w.heap.size, 2, none⟩ = some (.slice A3 l3.length c3) ∧ w'.cell? ⟨w.heap.size, 3, none⟩ = some (.int .i64 p1) ∧ w'.cell? ⟨w.heap.size, 4, none⟩ = some (.int .i64 p2) ∧ w'.cell? ⟨w.heap.size, 5, none⟩ = some (.int .i64 p3) ∧ w'.cell? ⟨w.heap.size, 6, none⟩ = some (.int .i64 p4) ∧ w'.cell? ⟨w.heap.size, 7, none⟩ = some (.int .i64 p5) ∧ w'.cell? ⟨w.heap.size, 8, none⟩ = some (.int .i64 p6) ∧ Below w.heap.size w w') (first | exact KS.out _ (by repeat (first | exact Below.refl _ _ | assumption | apply below_drew1 | apply pw_below_drewN | apply below_alloc | refine bt ?_ hb1 | refine bt ?_ hb2 | refine bt ?_ hb3 | refine bt ?_ hb4 | refine bt ?_ hb5 | refine bt ?_ hb6 | refine bt ?_ hb7))) (first | (go_at_call 26; (with_reducible refine (HOW.out _ (by repeat (first | exact hB | exact Below.refl _ _ | assumption | apply below_drew1 | apply pw_below_drewN | apply below_alloc | refine bt ?_ hb1 | refine bt ?_ hb2 | refine bt ?_ hb3 | refine bt ?_ hb4 | refine bt ?_ hb5 | refine bt ?_ hb6 | refine bt ?_ hb7))).mono ?_); rintro e wa ⟨B1, B2, B3, d1, d2, d3, rfl, ra1, ra2, ra3, hb1⟩) | (go_at_call 28; (with_reducible refine (HN1.out _ (by repeat (first | exact hB | exact Below.refl _ _ | assumption | apply below_drew1 | apply pw_below_drewN | apply below_alloc | refine bt ?_ hb1 | refine bt ?_ hb2 | refine bt ?_ hb3 | refine bt ?_ hb4 | refine bt ?_ hb5 | refine bt ?_ hb6 | refine bt ?_ hb7))).mono ?_); rintro e wn1 ⟨NB1, nd1, rfl, hnd1, hC1, hb2⟩) | (go_at_call 30; (with_reducible refine (HN2.out _ (by repeat (first | exact hB | exact Below.refl _ _ | assumption | apply below_drew1 | apply pw_below_drewN | apply below_alloc | refine bt ?_ hb1 | refine bt ?_ hb2 | refine bt ?_ hb3 | refine bt ?_ hb4 | refine bt ?_ hb5 | refine bt ?_ hb6 | refine bt ?_ hb7))).mono ?_); rintro e wn2 ⟨NB2, nd2, rfl, hnd2, hC2, hb4⟩) | (go_at_call 32; (with_reducible refine (HN3.out _ (by repeat (first | exact hB | exact Below.refl _ _ | assumption | apply below_drew1 | apply pw_below_drewN | apply below_alloc | refine bt ?_ hb1 | refine bt ?_ hb2 | refine bt ?_ hb3 | refine bt ?_ hb4 | refine bt ?_ hb5 | refine bt ?_ hb6 | refine bt ?_ hb7))).mono ?_); rintro e wn3 ⟨NB3, nd3, rfl, hnd3, hC3, hb6⟩) | (go_at_call 27; first | ((with_reducible refine (HP1.out NB1 nd1 _ (Kd.C_below hC1 (by repeat (first | exact Below.refl _ _ | apply below_drew1 | apply pw_below_drewN)))).mono ?_); rintro e wp1 ⟨m1, rfl, hmm1, ho1, hb3⟩) | ((with_reducible refine (HP2.out NB2 nd2 _ (Kd.C_below hC2 (by repeat (first | exact Below.refl _ _ | apply below_drew1 | apply pw_below_drewN)))).mono ?_); rintro e wp2 ⟨m2, rfl, hmm2, ho2, hb5⟩) | ((with_reducible refine (HP3.out NB3 nd3 _ (Kd.C_below hC3 (by repeat (first | exact Below.refl _ _ | apply below_drew1 | apply pw_below_drewN)))).mono ?_); rintro e wp3 ⟨m3, rfl, hmm3, ho3, hb7⟩)))
  have z1 : w.heap.size ≤ w2.heap.size := hB.size
  have zb : Below w.heap.size w (wp3.alloc (.cells #[.slice B1 l1.length d1, .slice B2 l2.length d2, .slice B3 l3.length d3, .int .i64 p1, .int .i64 p2, .int .i64 p3, .int .i64 p4, .int .i64 p5, .int .i64 p6, .map (some m1), .map (some m2), .map (some m3)] 56)) := (by repeat (first | exact hB | exact Below.refl _ _ | assumption | apply below_drew1 | apply pw_below_drewN | apply below_alloc | refine bt ?_ hb1 | refine bt ?_ hb2 | refine bt ?_ hb3 | refine bt ?_ hb4 | refine bt ?_ hb5 | refine bt ?_ hb6 | refine bt ?_ hb7))
  have za : Below wa.heap.size wa (wp3.alloc (.cells #[.slice B1 l1.length d1, .slice B2 l2.length d2, .slice B3 l3.length d3, .int .i64 p1, .int .i64 p2, .int .i64 p3, .int .i64 p4, .int .i64 p5, .int .i64 p6, .map (some m1), .map (some m2), .map (some m3)] 56)) := (by repeat (first | exact hB | exact Below.refl _ _ | assumption | apply below_drew1 | apply pw_below_drewN | apply below_alloc | refine bt ?_ hb1 | refine bt ?_ hb2 | refine bt ?_ hb3 | refine bt ?_ hb4 | refine bt ?_ hb5 | refine bt ?_ hb6 | refine bt ?_ hb7))
  have zp1 : Below wp1.heap.size wp1 (wp3.alloc (.cells #[.slice B1 l1.length d1, .slice B2 l2.length d2, .slice B3 l3.length d3, .int .i64 p1, .int .i64 p2, .int .i64 p3, .int .i64 p4, .int .i64 p5, .int .i64 p6, .map (some m1), .map (some m2), .map (some m3)] 56)) := (by repeat (first | exact hB | exact Below.refl _ _ | assumption | apply below_drew1 | apply pw_below_drewN | apply below_alloc | refine bt ?_ hb1 | refine bt ?_ hb2 | refine bt ?_ hb3 | refine bt ?_ hb4 | refine bt ?_ hb5 | refine bt ?_ hb6 | refine bt ?_ hb7))
  have zp2 : Below wp2.heap.size wp2 (wp3.alloc (.cells #[.slice B1 l1.length d1, .slice B2 l2.length d2, .slice B3 l3.length d3, .int .i64 p1, .int .i64 p2, .int .i64 p3, .int .i64 p4, .int .i64 p5, .int .i64 p6, .map (some m1), .map (some m2), .map (some m3)] 56)) := (by repeat (first | exact hB | exact Below.refl _ _ | assumption | apply below_drew1 | apply pw_below_drewN | apply below_alloc | refine bt ?_ hb1 | refine bt ?_ hb2 | refine bt ?_ hb3 | refine bt ?_ hb4 | refine bt ?_ hb5 | refine bt ?_ hb6 | refine bt ?_ hb7))
  have zp3 : Below wp3.heap.size wp3 (wp3.alloc (.cells #[.slice B1 l1.length d1, .slice B2 l2.length d2, .slice B3 l3.length d3, .int .i64 p1, .int .i64 p2, .int .i64 p3, .int .i64 p4, .int .i64 p5, .int .i64 p6, .map (some m1), .map (some m2), .map (some m3)] 56)) := (by repeat (first | exact hB | exact Below.refl _ _ | assumption | apply below_drew1 | apply pw_below_drewN | apply below_alloc | refine bt ?_ hb1 | refine bt ?_ hb2 | refine bt ?_ hb3 | refine bt ?_ hb4 | refine bt ?_ hb5 | refine bt ?_ hb6 | refine bt ?_ hb7))
  have zn1 : Below w.heap.size w wn1 := (by repeat (first | exact hB | exact Below.refl _ _ | assumption | apply below_drew1 | apply pw_below_drewN | apply below_alloc | refine bt ?_ hb1 | refine bt ?_ hb2 | refine bt ?_ hb3 | refine bt ?_ hb4 | refine bt ?_ hb5 | refine bt ?_ hb6 | refine bt ?_ hb7))
  have zn2 : Below w.heap.size w wn2 := (by repeat (first | exact hB | exact Below.refl _ _ | assumption | apply below_drew1 | apply pw_below_drewN | apply below_alloc | refine bt ?_ hb1 | refine bt ?_ hb2 | refine bt ?_ hb3 | refine bt ?_ hb4 | refine bt ?_ hb5 | refine bt ?_ hb6 | refine bt ?_ hb7))
  have zn3 : Below w.heap.size w wn3 := (by repeat (first | exact hB | exact Below.refl _ _ | assumption | apply below_drew1 | apply pw_below_drewN | apply below_alloc | refine bt ?_ hb1 | refine bt ?_ hb2 | refine bt ?_ hb3 | refine bt ?_ hb4 | refine bt ?_ hb5 | refine bt ?_ hb6 | refine bt ?_ hb7))
  have zw3 : Below w.heap.size w wp3 := (by repeat (first | exact hB | exact Below.refl _ _ | assumption | apply below_drew1 | apply pw_below_drewN | apply below_alloc | refine bt ?_ hb1 | refine bt ?_ hb2 | refine bt ?_ hb3 | refine bt ?_ hb4 | refine bt ?_ hb5 | refine bt ?_ hb6 | refine bt ?_ hb7))
  have hW : RulW w.heap.size (wp3.alloc (.cells #[.slice B1 l1.length d1, .slice B2 l2.length d2, .slice B3 l3.length d3, .int .i64 p1, .int .i64 p2, .int .i64 p3, .int .i64 p4, .int .i64 p5, .int .i64 p6, .map (some m1), .map (some m2), .map (some m3)] 56)) wp3.heap.size B1 B2 B3 d1 d2 d3 m1 m2 m3 l1 l2 l3 p1 p2 p3 p4 p5 p6 :=
    ⟨Blk.new wp3 _ _, Kd.R_lower (Kd.R_below ra1 za) z1, Kd.R_lower (Kd.R_below ra2 za) z1, Kd.R_lower (Kd.R_below ra3 za) z1, ownsMap_on ho1 zp1, ownsMap_on ho2 zp2, ownsMap_on ho3 zp3, zw3.size, Nat.le_trans zn1.size hmm1, Nat.le_trans zn2.size hmm2, Nat.le_trans zn3.size hmm3⟩
  go_wp2_with fail
  go_ret2
  exact ⟨_, _, _, _, _, _, _, _, _, _, rfl, hW, zb⟩
end Go.Proofs.Ytbhbnefifgdioaa.Hand

/- rules: the methods, walked (gen_rul7.py). -/
set_option linter.unusedVariables false
set_option linter.unusedSimpArgs false
namespace Go.Proofs.Ytbhbnefifgdioaa.Hand
open Go Go.RowKit Go.Proofs.YtbhbnefifgdioaaW.PrintWords Go.Proofs.YtbhbnefifgdioaaW.PrintMore Go.Proofs.YtbhbnefifgdioaaW.PrintLast Go.Proofs.Ytbhbnefifgdioaa.RL Go.Proofs.Ytbhbnefifgdioaa.PL Go.Proofs.Ytbhbnefifgdioaa.K Go.Maps
/-- A block of rules that are empty. -/
abbrev ZeroR (w : World) (g : Nat) : Prop := Blk w g 56 #[.slice none 0 0, .slice none 0 0, .slice none 0 0, .int .i64 0, .int .i64 0, .int .i64 0, .int .i64 0, .int .i64 0, .int .i64 0, .map none, .map none, .map none]
theorem Account_nil (s : ByteArray) (w : World) : Calls Try.prog 12 #[.pointer none, .string s] w fun e w' => e = .returned (.tuple #[.int .i64 0, .bool false]) ∧ Below w.heap.size w w' := by
  go_enter Try.func12, Try.ntmps12
  go_wp2_with fail
  go_ret2
  exact ⟨rfl, Below.refl _ _⟩
theorem Account_zero (s : ByteArray) (g : Nat) (w : World) (hs : s.size ≤ 140737488351232) (h : ZeroR w g) : Calls Try.prog 12 #[.pointer (some ⟨g, 0, none⟩), .string s] w fun e w' => e = .returned (.tuple #[.int .i64 0, .bool false]) ∧ Below w.heap.size w w' := by
  have y : w.cell? ⟨g, 9, none⟩ = some (.map none) := h.cell 9
  have HF := Lib.hid (fun w => find_nil s w hs)
  clear h
  go_enter Try.func12, Try.ntmps12
  go_wp2_with fail
  with_reducible refine (HF.out _).mono ?_
  rintro e w1 ⟨rfl, hw1⟩
  have hb : Below w.heap.size w w1 := by rw [hw1]; exact Below.refl _ _
  clear hw1
  go_wp2_with fail
  go_ret2
  exact ⟨rfl, hb⟩
theorem Account_good {base : Nat} {w : World} {g : Nat} {B1 B2 B3 : Option Addr} {d1 d2 d3 m1 m2 m3 : Nat} {l1 : List Acc} {l2 : List Sym} {l3 : List Ven} {p1 p2 p3 p4 p5 p6 : Int} (h : RulW base w g B1 B2 B3 d1 d2 d3 m1 m2 m3 l1 l2 l3 p1 p2 p3 p4 p5 p6) (s : ByteArray) (hs : s.size ≤ 1000) (hd : (l1.map (·.1)).Nodup) : Calls Try.prog 12 #[.pointer (some ⟨g, 0, none⟩), .string s] w fun e w' => e = .returned (.tuple #[.int .i64 (if plc (l1.map (·.1)) s < 0 then 0 else plc (l1.map (·.1)) s), .bool (decide (0 ≤ plc (l1.map (·.1)) s))]) ∧ Below w.heap.size w w' := by
  have y : w.cell? ⟨g, 9, none⟩ = some (.map (some m1)) := h.bR.cell 9
  have HF := Lib.hid (fun w' (b : Below w.heap.size w w') => find_own m1 l1.length (l1.map (·.1)) s w' hs hd (ownsMap_on h.o1 b))
  generalize (if plc (l1.map (·.1)) s < 0 then 0 else plc (l1.map (·.1)) s) = r at *
  generalize decide (0 ≤ plc (l1.map (·.1)) s) = r2 at *
  clear h
  go_enter Try.func12, Try.ntmps12
  go_wp2_with fail
  with_reducible refine (HF.out _ (by repeat (first | exact Below.refl _ _ | apply below_drew1 | apply pw_below_drewN))).mono ?_
  rintro e w1 ⟨rfl, hw1⟩
  have hb : Below w.heap.size w w1 := by rw [hw1]; repeat (first | exact Below.refl _ _ | apply below_drew1 | apply pw_below_drewN)
  clear hw1
  go_wp2_with fail
  go_ret2
  exact ⟨rfl, hb⟩
theorem Symbol_nil (s : ByteArray) (w : World) : Calls Try.prog 13 #[.pointer none, .string s] w fun e w' => e = .returned (.tuple #[.int .i64 0, .bool false]) ∧ Below w.heap.size w w' := by
  go_enter Try.func13, Try.ntmps13
  go_wp2_with fail
  go_ret2
  exact ⟨rfl, Below.refl _ _⟩
theorem Symbol_zero (s : ByteArray) (g : Nat) (w : World) (hs : s.size ≤ 140737488351232) (h : ZeroR w g) : Calls Try.prog 13 #[.pointer (some ⟨g, 0, none⟩), .string s] w fun e w' => e = .returned (.tuple #[.int .i64 0, .bool false]) ∧ Below w.heap.size w w' := by
  have y : w.cell? ⟨g, 10, none⟩ = some (.map none) := h.cell 10
  have HF := Lib.hid (fun w => find_nil s w hs)
  clear h
  go_enter Try.func13, Try.ntmps13
  go_wp2_with fail
  with_reducible refine (HF.out _).mono ?_
  rintro e w1 ⟨rfl, hw1⟩
  have hb : Below w.heap.size w w1 := by rw [hw1]; exact Below.refl _ _
  clear hw1
  go_wp2_with fail
  go_ret2
  exact ⟨rfl, hb⟩
theorem Symbol_good {base : Nat} {w : World} {g : Nat} {B1 B2 B3 : Option Addr} {d1 d2 d3 m1 m2 m3 : Nat} {l1 : List Acc} {l2 : List Sym} {l3 : List Ven} {p1 p2 p3 p4 p5 p6 : Int} (h : RulW base w g B1 B2 B3 d1 d2 d3 m1 m2 m3 l1 l2 l3 p1 p2 p3 p4 p5 p6) (s : ByteArray) (hs : s.size ≤ 1000) (hd : (l2.map (·.1)).Nodup) : Calls Try.prog 13 #[.pointer (some ⟨g, 0, none⟩), .string s] w fun e w' => e = .returned (.tuple #[.int .i64 (if plc (l2.map (·.1)) s < 0 then 0 else plc (l2.map (·.1)) s), .bool (decide (0 ≤ plc (l2.map (·.1)) s))]) ∧ Below w.heap.size w w' := by
  have y : w.cell? ⟨g, 10, none⟩ = some (.map (some m2)) := h.bR.cell 10
  have HF := Lib.hid (fun w' (b : Below w.heap.size w w') => find_own m2 l2.length (l2.map (·.1)) s w' hs hd (ownsMap_on h.o2 b))
  generalize (if plc (l2.map (·.1)) s < 0 then 0 else plc (l2.map (·.1)) s) = r at *
  generalize decide (0 ≤ plc (l2.map (·.1)) s) = r2 at *
  clear h
  go_enter Try.func13, Try.ntmps13
  go_wp2_with fail
  with_reducible refine (HF.out _ (by repeat (first | exact Below.refl _ _ | apply below_drew1 | apply pw_below_drewN))).mono ?_
  rintro e w1 ⟨rfl, hw1⟩
  have hb : Below w.heap.size w w1 := by rw [hw1]; repeat (first | exact Below.refl _ _ | apply below_drew1 | apply pw_below_drewN)
  clear hw1
  go_wp2_with fail
  go_ret2
  exact ⟨rfl, hb⟩
theorem Venue_nil (s : ByteArray) (w : World) : Calls Try.prog 14 #[.pointer none, .string s] w fun e w' => e = .returned (.tuple #[.int .i64 0, .bool false]) ∧ Below w.heap.size w w' := by
  go_enter Try.func14, Try.ntmps14
  go_wp2_with fail
  go_ret2
  exact ⟨rfl, Below.refl _ _⟩
theorem Venue_zero (s : ByteArray) (g : Nat) (w : World) (hs : s.size ≤ 140737488351232) (h : ZeroR w g) : Calls Try.prog 14 #[.pointer (some ⟨g, 0, none⟩), .string s] w fun e w' => e = .returned (.tuple #[.int .i64 0, .bool false]) ∧ Below w.heap.size w w' := by
  have y : w.cell? ⟨g, 11, none⟩ = some (.map none) := h.cell 11
  have HF := Lib.hid (fun w => find_nil s w hs)
  clear h
  go_enter Try.func14, Try.ntmps14
  go_wp2_with fail
  with_reducible refine (HF.out _).mono ?_
  rintro e w1 ⟨rfl, hw1⟩
  have hb : Below w.heap.size w w1 := by rw [hw1]; exact Below.refl _ _
  clear hw1
  go_wp2_with fail
  go_ret2
  exact ⟨rfl, hb⟩
theorem Venue_good {base : Nat} {w : World} {g : Nat} {B1 B2 B3 : Option Addr} {d1 d2 d3 m1 m2 m3 : Nat} {l1 : List Acc} {l2 : List Sym} {l3 : List Ven} {p1 p2 p3 p4 p5 p6 : Int} (h : RulW base w g B1 B2 B3 d1 d2 d3 m1 m2 m3 l1 l2 l3 p1 p2 p3 p4 p5 p6) (s : ByteArray) (hs : s.size ≤ 1000) (hd : (l3.map (·.1)).Nodup) : Calls Try.prog 14 #[.pointer (some ⟨g, 0, none⟩), .string s] w fun e w' => e = .returned (.tuple #[.int .i64 (if plc (l3.map (·.1)) s < 0 then 0 else plc (l3.map (·.1)) s), .bool (decide (0 ≤ plc (l3.map (·.1)) s))]) ∧ Below w.heap.size w w' := by
  have y : w.cell? ⟨g, 11, none⟩ = some (.map (some m3)) := h.bR.cell 11
  have HF := Lib.hid (fun w' (b : Below w.heap.size w w') => find_own m3 l3.length (l3.map (·.1)) s w' hs hd (ownsMap_on h.o3 b))
  generalize (if plc (l3.map (·.1)) s < 0 then 0 else plc (l3.map (·.1)) s) = r at *
  generalize decide (0 ≤ plc (l3.map (·.1)) s) = r2 at *
  clear h
  go_enter Try.func14, Try.ntmps14
  go_wp2_with fail
  with_reducible refine (HF.out _ (by repeat (first | exact Below.refl _ _ | apply below_drew1 | apply pw_below_drewN))).mono ?_
  rintro e w1 ⟨rfl, hw1⟩
  have hb : Below w.heap.size w w1 := by rw [hw1]; repeat (first | exact Below.refl _ _ | apply below_drew1 | apply pw_below_drewN)
  clear hw1
  go_wp2_with fail
  go_ret2
  exact ⟨rfl, hb⟩
set_option maxHeartbeats 4000000 in
set_option maxRecDepth 100000 in
theorem Band_nil (i : Int) (w : World) : Calls Try.prog 15 #[.pointer none, .int .i64 i] w fun e w' => e = .returned (.tuple #[.int .i64 0, .int .i64 0]) ∧ Below w.heap.size w w' := by
  go_enter Try.func15, Try.ntmps15
  go_wp2_with fail
  go_ret2
  exact ⟨rfl, Below.refl _ _⟩
set_option maxHeartbeats 4000000 in
set_option maxRecDepth 100000 in
theorem Band_out (i : Int) (g : Nat) (w : World) (B : Option Addr) (n d : Nat) (h : w.cell? ⟨g, 1, none⟩ = some (.slice B n d)) (hi : i < 0 ∨ (n : Int) ≤ i) : Calls Try.prog 15 #[.pointer (some ⟨g, 0, none⟩), .int .i64 i] w fun e w' => e = .returned (.tuple #[.int .i64 0, .int .i64 0]) ∧ Below w.heap.size w w' := by
  by_cases h0 : i < 0
  · go_enter Try.func15, Try.ntmps15
    go_wp2_with fail
    go_ret2
    exact ⟨rfl, Below.refl _ _⟩
  · have h1 : (n : Int) ≤ i := by omega
    go_enter Try.func15, Try.ntmps15
    go_wp2_with fail
    go_ret2
    exact ⟨rfl, Below.refl _ _⟩
set_option maxHeartbeats 8000000 in
set_option maxRecDepth 100000 in
theorem Band_good {base : Nat} {w : World} {g : Nat} {B1 B2 B3 : Option Addr} {d1 d2 d3 m1 m2 m3 : Nat} {l1 : List Acc} {l2 : List Sym} {l3 : List Ven} {p1 p2 p3 p4 p5 p6 : Int} (h : RulW base w g B1 B2 B3 d1 d2 d3 m1 m2 m3 l1 l2 l3 p1 p2 p3 p4 p5 p6) (i : Nat) (hi : i < l2.length) (hm : l2.length ≤ 900) (ht : in64 (l2[i]).2.2.1) : Calls Try.prog 15 #[.pointer (some ⟨g, 0, none⟩), .int .i64 (i : Int)] w fun e w' => e = .returned (.tuple #[.int .i64 (bandS (l2[i]).2.2.2.1 (l2[i]).2.2.2.2.1 (l2[i]).2.2.1).1, .int .i64 (bandS (l2[i]).2.2.2.1 (l2[i]).2.2.2.2.1 (l2[i]).2.2.1).2.1]) ∧ Below w.heap.size w w' := by
  have y1 : w.cell? ⟨g, 1, none⟩ = some (.slice B2 l2.length d2) := h.bR.cell 1
  have hC := (Kd.R_reads' h.r2).2.2
  obtain ⟨ad, rfl, hcell⟩ := at_S hC i hi
  have e1 : l2.getD i zS = l2[i] := by simp [hi]
  rw [e1] at hcell
  have HB := Lib.hid (fun W => band15_calls (l2[i]).2.2.2.1 (l2[i]).2.2.2.2.1 (l2[i]).2.2.1 ht W)
  generalize bandS (l2[i]).2.2.2.1 (l2[i]).2.2.2.2.1 (l2[i]).2.2.1 = bd at *
  generalize l2[i] = x at *
  clear h hC ht e1
  have c0 : w.cell? (ad.add (i * 7)) = some (.string x.1) := hcell 0 _ rfl
  have c1 : w.cell? (ad.add (i * 7 + 1)) = some (.int .i64 x.2.1) := hcell 1 _ rfl
  have c2 : w.cell? (ad.add (i * 7 + 2)) = some (.int .i64 x.2.2.1) := hcell 2 _ rfl
  have c3 : w.cell? (ad.add (i * 7 + 3)) = some (.int .i64 x.2.2.2.1) := hcell 3 _ rfl
  have c4 : w.cell? (ad.add (i * 7 + 4)) = some (.int .i64 x.2.2.2.2.1) := hcell 4 _ rfl
  have c5 : w.cell? (ad.add (i * 7 + 5)) = some (.int .i64 x.2.2.2.2.2.1) := hcell 5 _ rfl
  have c6 : w.cell? (ad.add (i * 7 + 6)) = some (.int .i64 x.2.2.2.2.2.2) := hcell 6 _ rfl
  rw [add_field _ _ _ (by omega)] at c1 c2 c3 c4 c5 c6
  have hO := Blk.new w 41 #[.string x.1, .int .i64 x.2.1, .int .i64 x.2.2.1, .int .i64 x.2.2.2.1, .int .i64 x.2.2.2.2.1, .int .i64 x.2.2.2.2.2.1, .int .i64 x.2.2.2.2.2.2]
  have hB := (Below.refl w.heap.size w).alloc (Nat.le_refl _) (.cells #[.string x.1, .int .i64 x.2.1, .int .i64 x.2.2.1, .int .i64 x.2.2.2.1, .int .i64 x.2.2.2.2.1, .int .i64 x.2.2.2.2.2.1, .int .i64 x.2.2.2.2.2.2] 41)
  have HO := Lib.hid hO
  clear hcell hO
  go_enter Try.func15, Try.ntmps15
  go_upto_region 4 with (fail)
  generalize w.alloc (.cells #[.string x.1, .int .i64 x.2.1, .int .i64 x.2.2.1, .int .i64 x.2.2.2.1, .int .i64 x.2.2.2.2.1, .int .i64 x.2.2.2.2.2.1, .int .i64 x.2.2.2.2.2.2] 41) = w8 at *
  have y2 : w8.cell? ⟨w.heap.size, 2, none⟩ = some (.int .i64 x.2.2.1) := HO.out.cell 2
  have y3 : w8.cell? ⟨w.heap.size, 3, none⟩ = some (.int .i64 x.2.2.2.1) := HO.out.cell 3
  have y4 : w8.cell? ⟨w.heap.size, 4, none⟩ = some (.int .i64 x.2.2.2.2.1) := HO.out.cell 4
  clear c0 c1 c2 c3 c4 c5 c6 y1
  go_wp2_with fail
  with_reducible refine (HB.out _).mono ?_
  rintro e w9 ⟨rfl, hb9⟩
  have hB9 := bt hB hb9
  clear hb9 y2 y3 y4 HO
  obtain ⟨lo, hi2, er⟩ := bd
  dsimp only
  go_wp2_with fail
  go_ret2
  exact ⟨rfl, hB9⟩
set_option maxHeartbeats 8000000 in
set_option maxRecDepth 100000 in
theorem Setup_nil (w : World) : Calls Try.prog 17 #[.pointer none] w fun e w' => e = .returned (.agg (setC (.slice none 0 0) (.slice none 0 0) (.slice none 0 0) 0 0 0 0 0 0)) ∧ Below w.heap.size w w' := by
  have bR := Blk.new w 26 (setC (.slice none 0 0) (.slice none 0 0) (.slice none 0 0) 0 0 0 0 0 0)
  have hB := (Below.refl w.heap.size w).alloc (Nat.le_refl _) (.cells (setC (.slice none 0 0) (.slice none 0 0) (.slice none 0 0) 0 0 0 0 0 0) 26)
  go_enter Try.func17, Try.ntmps17
  go_wp2_with fail
  have s0 := bR.cell 0; have s1 := bR.cell 1; have s2 := bR.cell 2; have s3 := bR.cell 3; have s4 := bR.cell 4; have s5 := bR.cell 5; have s6 := bR.cell 6; have s7 := bR.cell 7; have s8 := bR.cell 8
  simp at s0 s1 s2 s3 s4 s5 s6 s7 s8
  clear bR
  exact bodyPost_ret (v := .agg (setC (.slice none 0 0) (.slice none 0 0) (.slice none 0 0) 0 0 0 0 0 0)) (by simp [results, Try.results17, go_sem, s0, s1, s2, s3, s4, s5, s6, s7, s8]) rfl ⟨rfl, hB⟩
structure OwnG (w u : World) (b0 : Nat) (cs : Array Value) (q1 q2 q3 : Value) (l1 : List Acc) (l2 : List Sym) (l3 : List Ven) : Prop where
  bR : Blk u w.heap.size 26 cs
  r1 : Kd.R kA 60 u b0 (fun _ => True) q1 l1
  r2 : Kd.R kS 41 u b0 (fun _ => True) q2 l2
  r3 : Kd.R kV 62 u b0 (fun _ => True) q3 l3
  g1 : w.heap.size < b0
  bel : Below w.heap.size w u
theorem OwnG.put {w u : World} {b0 : Nat} {cs : Array Value} {q1 q2 q3 : Value} {l1 : List Acc} {l2 : List Sym} {l3 : List Ven} (h : OwnG w u b0 cs q1 q2 q3 l1 l2 l3) (j : Nat) (x : Value) : OwnG w (u.setCell ⟨w.heap.size, j, none⟩ x) b0 (cs.setIfInBounds j x) q1 q2 q3 l1 l2 l3 :=
  ⟨h.bR.put j x, R_past h.r1 _ h.g1 x, R_past h.r2 _ h.g1 x, R_past h.r3 _ h.g1 x, h.g1, h.bel.setCell (Nat.le_refl _) x⟩
set_option maxHeartbeats 8000000 in
set_option maxRecDepth 100000 in
theorem Setup_of (A1 A2 A3 : Option Addr) (c1 c2 c3 : Nat) (l1 : List Acc) (l2 : List Sym) (l3 : List Ven) (p1 p2 p3 p4 p5 p6 : Int) (M1 M2 M3 : Value) (g : Nat) (w : World) (hm1 : l1.length ≤ 900) (hm2 : l2.length ≤ 900) (hm3 : l3.length ≤ 900)
    (h1 : Kd.C kA w A1 l1.length l1) (h2 : Kd.C kS w A2 l2.length l2) (h3 : Kd.C kV w A3 l3.length l3) (h : Blk w g 56 #[.slice A1 l1.length c1, .slice A2 l2.length c2, .slice A3 l3.length c3, .int .i64 p1, .int .i64 p2, .int .i64 p3, .int .i64 p4, .int .i64 p5, .int .i64 p6, M1, M2, M3]) :
    Calls Try.prog 17 #[.pointer (some ⟨g, 0, none⟩)] w fun e w' => ∃ B1 B2 B3 d1 d2 d3, e = .returned (.agg (setC (.slice B1 l1.length d1) (.slice B2 l2.length d2) (.slice B3 l3.length d3) p1 p2 p3 p4 p5 p6)) ∧ Kd.R kA 60 w' w.heap.size (fun _ => True) (.slice B1 l1.length d1) l1 ∧ Kd.R kS 41 w' w.heap.size (fun _ => True) (.slice B2 l2.length d2) l2 ∧ Kd.R kV 62 w' w.heap.size (fun _ => True) (.slice B3 l3.length d3) l3 ∧ Below w.heap.size w w' := by
  have hZ := Blk.new w 26 (setC (.slice none 0 0) (.slice none 0 0) (.slice none 0 0) 0 0 0 0 0 0)
  have hB := (Below.refl w.heap.size w).alloc (Nat.le_refl _) (.cells (setC (.slice none 0 0) (.slice none 0 0) (.slice none 0 0) 0 0 0 0 0 0) 26)
  have hG := Blk.on h hB
  have hs : (w.alloc (.cells (setC (.slice none 0 0) (.slice none 0 0) (.slice none 0 0) 0 0 0 0 0 0) 26)).heap.size = w.heap.size + 1 := Array.size_push ..
  have HOW := Lib.hid (fun w' (b : Below w.heap.size w w') => own_walk A1 A2 A3 c1 c2 c3 l1 l2 l3 p1 p2 p3 p4 p5 p6 w' hm1 hm2 hm3 (Kd.C_below h1 b) (Kd.C_below h2 b) (Kd.C_below h3 b))
  clear h h1 h2 h3
  go_enter Try.func17, Try.ntmps17
  go_upto_region 3 with (fail)
  generalize w.alloc (.cells (setC (.slice none 0 0) (.slice none 0 0) (.slice none 0 0) 0 0 0 0 0 0) 26) = w1 at *
  have y0 : w1.cell? ⟨g, 0, none⟩ = some (.slice A1 l1.length c1) := hG.cell 0
  have y1 : w1.cell? ⟨g, 1, none⟩ = some (.slice A2 l2.length c2) := hG.cell 1
  have y2 : w1.cell? ⟨g, 2, none⟩ = some (.slice A3 l3.length c3) := hG.cell 2
  have y3 : w1.cell? ⟨g, 3, none⟩ = some (.int .i64 p1) := hG.cell 3
  have y4 : w1.cell? ⟨g, 4, none⟩ = some (.int .i64 p2) := hG.cell 4
  have y5 : w1.cell? ⟨g, 5, none⟩ = some (.int .i64 p3) := hG.cell 5
  have y6 : w1.cell? ⟨g, 6, none⟩ = some (.int .i64 p4) := hG.cell 6
  have y7 : w1.cell? ⟨g, 7, none⟩ = some (.int .i64 p5) := hG.cell 7
  have y8 : w1.cell? ⟨g, 8, none⟩ = some (.int .i64 p6) := hG.cell 8
  have HS := Lib.hid hs
  clear hs
  go_wp2_with fail
  refine (HOW.out _ (by repeat (first | exact hB | apply below_drew1 | apply pw_below_drewN))).mono ?_
  rintro e w3 ⟨B1, B2, B3, d1, d2, d3, rfl, r1, r2, r3, b3⟩
  have bR := Blk.on hZ b3
  have hF : OwnG w w3 w1.heap.size (setC (.slice none 0 0) (.slice none 0 0) (.slice none 0 0) 0 0 0 0 0 0) (.slice B1 l1.length d1) (.slice B2 l2.length d2) (.slice B3 l3.length d3) l1 l2 l3 := ⟨bR, r1, r2, r3, by rw [HS.out]; omega, bt hB b3⟩
  clear y0 y1 y2 y3 y4 y5 y6 y7 y8 hG HOW hZ r1 r2 r3 b3 hB
  have z0 : w3.cell? ⟨w.heap.size, 0, none⟩ = some (.slice none 0 0) := bR.cell 0
  have f0 : w3.frozen? ⟨w.heap.size, 0, none⟩ = false := bR.frozen 0
  have z1 : w3.cell? ⟨w.heap.size, 1, none⟩ = some (.slice none 0 0) := bR.cell 1
  have f1 : w3.frozen? ⟨w.heap.size, 1, none⟩ = false := bR.frozen 1
  have z2 : w3.cell? ⟨w.heap.size, 2, none⟩ = some (.slice none 0 0) := bR.cell 2
  have f2 : w3.frozen? ⟨w.heap.size, 2, none⟩ = false := bR.frozen 2
  have z3 : w3.cell? ⟨w.heap.size, 3, none⟩ = some (.int .i64 0) := bR.cell 3
  have f3 : w3.frozen? ⟨w.heap.size, 3, none⟩ = false := bR.frozen 3
  have z4 : w3.cell? ⟨w.heap.size, 4, none⟩ = some (.int .i64 0) := bR.cell 4
  have f4 : w3.frozen? ⟨w.heap.size, 4, none⟩ = false := bR.frozen 4
  have z5 : w3.cell? ⟨w.heap.size, 5, none⟩ = some (.int .i64 0) := bR.cell 5
  have f5 : w3.frozen? ⟨w.heap.size, 5, none⟩ = false := bR.frozen 5
  have z6 : w3.cell? ⟨w.heap.size, 6, none⟩ = some (.int .i64 0) := bR.cell 6
  have f6 : w3.frozen? ⟨w.heap.size, 6, none⟩ = false := bR.frozen 6
  have z7 : w3.cell? ⟨w.heap.size, 7, none⟩ = some (.int .i64 0) := bR.cell 7
  have f7 : w3.frozen? ⟨w.heap.size, 7, none⟩ = false := bR.frozen 7
  have z8 : w3.cell? ⟨w.heap.size, 8, none⟩ = some (.int .i64 0) := bR.cell 8
  have f8 : w3.frozen? ⟨w.heap.size, 8, none⟩ = false := bR.frozen 8
  replace hF := hF.put 0 (.slice B1 l1.length d1)
  replace hF := hF.put 1 (.slice B2 l2.length d2)
  replace hF := hF.put 2 (.slice B3 l3.length d3)
  replace hF := hF.put 3 (.int .i64 p1)
  replace hF := hF.put 4 (.int .i64 p2)
  replace hF := hF.put 5 (.int .i64 p3)
  replace hF := hF.put 6 (.int .i64 p4)
  replace hF := hF.put 7 (.int .i64 p5)
  replace hF := hF.put 8 (.int .i64 p6)
  have HF := Lib.hid hF
  clear hF bR
  go_wp2_with fail
  have bR := HF.out.bR
  have s0 := bR.cell 0; have s1 := bR.cell 1; have s2 := bR.cell 2; have s3 := bR.cell 3; have s4 := bR.cell 4; have s5 := bR.cell 5; have s6 := bR.cell 6; have s7 := bR.cell 7; have s8 := bR.cell 8
  simp at s0 s1 s2 s3 s4 s5 s6 s7 s8
  have G := HF.out
  have hl1 := G.g1
  clear HF bR
  exact bodyPost_ret (v := .agg (setC (.slice B1 l1.length d1) (.slice B2 l2.length d2) (.slice B3 l3.length d3) p1 p2 p3 p4 p5 p6)) (by simp [results, Try.results17, go_sem, s0, s1, s2, s3, s4, s5, s6, s7, s8]) rfl ⟨B1, B2, B3, d1, d2, d3, rfl, Kd.R_lower G.r1 (by omega), Kd.R_lower G.r2 (by omega), Kd.R_lower G.r3 (by omega), G.bel⟩
end Go.Proofs.Ytbhbnefifgdioaa.Hand

