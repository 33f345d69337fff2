/- position: a line is moved; walked. -/
import Derived.Test.YtenlifjfehnldaaPos
set_option linter.unusedVariables false
set_option linter.unusedSimpArgs false
namespace Go.Proofs.Ytenlifjfehnldaa.Hand
open Go Go.RowKit Go.Proofs.YtenlifjfehnldaaW.PrintWords Go.Proofs.YtenlifjfehnldaaW.PrintMore Go.Proofs.Ytenlifjfehnldaa.RL
set_option maxHeartbeats 2000000 in
set_option maxRecDepth 100000 in
theorem move_nil (i j sd q pr : Int) (bk : Bool) (W : World) : Calls Try.prog 33 #[.pointer none, .int .i64 i, .int .i64 j, .int .i64 sd, .agg #[.int .i64 q, .int .i64 pr], .bool bk] W fun e w' => e = .returned (.int .i64 1) ∧ Below W.heap.size W w' := by
  go_enter Try.func33, Try.ntmps33
  go_wp2_with fail
  go_ret
  exact ⟨rfl, (Below.refl _ W).alloc (Nat.le_refl _) _⟩
set_option maxHeartbeats 2000000 in
set_option maxRecDepth 100000 in
theorem move_empty (p : Nat) (i j sd q pr : Int) (bk : Bool) (W : World) (c0 : W.cell? ⟨p, 0, none⟩ = some (.int .i64 0)) : Calls Try.prog 33 #[.pointer (some ⟨p, 0, none⟩), .int .i64 i, .int .i64 j, .int .i64 sd, .agg #[.int .i64 q, .int .i64 pr], .bool bk] W fun e w' => e = .returned (.int .i64 1) ∧ Below W.heap.size W w' := by
  have hlt : p < W.heap.size := World.block_lt_of_cell? W _ c0
  go_enter Try.func33, Try.ntmps33
  go_wp2_with fail
  go_ret
  exact ⟨rfl, (Below.refl _ W).alloc (Nat.le_refl _) _⟩
set_option maxHeartbeats 8000000 in
set_option maxRecDepth 100000 in
theorem move_ok1 (p g m : Nat) (a i j q pr wv tq tw r1 r2 : Int) (W : World) (h0 : a ≠ 0) (c0 : W.cell? ⟨p, 0, none⟩ = some (.int .i64 a)) (T : Array Value) (hg : Blk W g 71 T) (hpg : p ≠ g)
    (x0 : T[m * 4]? = some (.int .i64 tq)) (x1 : T[m * 4 + 1]? = some (.int .i64 tw)) (hq0 : 1 ≤ q) (hq1 : q ≤ 1099511627776) (hp0 : 1 ≤ pr) (hp1 : pr ≤ 1099511627776)
    (hat : ∀ w', Below W.heap.size W w' → Calls Try.prog 25 #[.pointer (some ⟨p, 0, none⟩), .int .i64 i, .int .i64 j] w' fun e w'' => e = .returned (.pointer (some ⟨g, m * 4, none⟩)) ∧ Drawn0 w' w'')
    (hw : ∀ w', Calls Try.prog 14 #[.int .i64 q, .int .i64 pr] w' fun e w'' => e = .returned (.tuple #[.int .i64 wv, .int .i64 0]) ∧ Below w'.heap.size w' w'')
    (hpl : ∀ w', Calls Try.prog 46 #[.agg #[.int .i64 tq, .int .i64 tw], .int .i64 q, .int .i64 wv] w' fun e w'' => e = .returned (.tuple #[.agg #[.int .i64 r1, .int .i64 r2], .int .i64 0]) ∧ Below w'.heap.size w' w'') :
    Calls Try.prog 33 #[.pointer (some ⟨p, 0, none⟩), .int .i64 i, .int .i64 j, .int .i64 1, .agg #[.int .i64 q, .int .i64 pr], .bool false] W fun e w' => e = .returned (.int .i64 0) ∧ Blk w' g 71 ((T.setIfInBounds (m * 4) (.int .i64 r1)).setIfInBounds (m * 4 + 1) (.int .i64 r2)) ∧ W.heap.size ≤ w'.heap.size ∧ (∀ x, x < W.heap.size → x ≠ g → w'.heap[x]? = W.heap[x]?) ∧ ∀ n, n ≤ g → Below n W w' := by
  have hlt : p < W.heap.size := World.block_lt_of_cell? W _ c0
  have hgl := hg.lt
  have hne : (a == 0) = false := by simpa using h0
  have hb0 : Below W.heap.size W (W.alloc (.cells #[.int .i64 q, .int .i64 pr] 62)) := (Below.refl _ W).alloc (Nat.le_refl _) _
  have hB := Blk.new W 62 #[.int .i64 q, .int .i64 pr]
  have hsq := fun w => pw_yes (1 : Int) 1 2 (by omega) (by omega) w
  have hqq := fun w => pw_yes q 1 1099511627776 hq0 hq1 w
  have hpp := fun w => pw_yes pr 1 1099511627776 hp0 hp1 w
  have Hs := Lib.hid hsq
  have Hq := Lib.hid hqq
  have Hp := Lib.hid hpp
  have Hat := Lib.hid hat
  have Hw := Lib.hid hw
  have Hpl := Lib.hid hpl
  have HB0 := Lib.hid hb0
  have HB := Lib.hid hB
  have Hg := Lib.hid hg
  have l0 : W.heap.size < (W.alloc (.cells #[.int .i64 q, .int .i64 pr] 62)).heap.size := by simp
  clear hsq hqq hpp hat hw hpl hb0 hB hg h0
  go_enter Try.func33, Try.ntmps33
  go_wp2_with (first
    | (go_at_call 25; refine (Hat.out _ HB0.out).mono ?_; rintro e w1 ⟨rfl, hd1⟩; have hb1 := hd1.below; have k1 := Blk.below HB.out hb1 l0; have y0 := k1.cell 0; have y1 := k1.cell 1; simp at y0 y1)
    | (go_at_call 18; first | ((with_reducible refine (Hs.out _).mono ?_); rintro e w' ⟨rfl, rfl⟩) | ((with_reducible refine (Hq.out _).mono ?_); rintro e w' ⟨rfl, rfl⟩) | ((with_reducible refine (Hp.out _).mono ?_); rintro e w' ⟨rfl, rfl⟩))
    | (go_at_call 14; refine (Hw.out _).mono ?_; rintro e w2 ⟨rfl, hb2⟩; have k2 := Blk.below k1 hb2 k1.lt; have z0 := k2.cell 0; simp at z0; have g2 := Blk.below Hg.out (bt (bt HB0.out hb1) hb2) hgl; have u0 := (g2.cell (m * 4)).trans x0; have u1 := (g2.cell (m * 4 + 1)).trans x1)
    | (go_at_call 46; refine (Hpl.out _).mono ?_; rintro e w3 ⟨rfl, hb3⟩; have g3 := Blk.below g2 hb3 g2.lt; have v0 := (g3.cell (m * 4)).trans x0; have v1 := (g3.cell (m * 4 + 1)).trans x1; have f0 := g3.frozen (m * 4); have f1 := g3.frozen (m * 4 + 1)))
  have k4 := Blk.new w3 62 #[.int .i64 r1, .int .i64 r2]
  have g4 := g3.alloc (.cells #[.int .i64 r1, .int .i64 r2] 62)
  have hb4 : Below W.heap.size W (w3.alloc (.cells #[.int .i64 r1, .int .i64 r2] 62)) := (bt (bt (bt HB0.out hb1) hb2) hb3).alloc (bt (bt (bt HB0.out hb1) hb2) hb3).size _
  have n0 : (w3.alloc (.cells #[.int .i64 r1, .int .i64 r2] 62)).cell? ⟨w3.heap.size, 0, none⟩ = some (.int .i64 r1) := k4.cell 0
  have n1 : (w3.alloc (.cells #[.int .i64 r1, .int .i64 r2] 62)).cell? ⟨w3.heap.size, 1, none⟩ = some (.int .i64 r2) := k4.cell 1
  have u0 := (g4.cell (m * 4)).trans x0
  have u1 := (g4.cell (m * 4 + 1)).trans x1
  have f0 := g4.frozen (m * 4)
  have f1 := g4.frozen (m * 4 + 1)
  clear v0 v1 k1 k2 z0 y0 y1 g2 g3 hb1 hb2 hb3 k4 hd1
  generalize (w3.alloc (.cells #[.int .i64 r1, .int .i64 r2] 62)) = W4 at *
  go_region
  all_goals
    go_wp2_with fail
    go_ret
    refine ⟨rfl, (Blk.put (Blk.put (g4.drewN 1) (m * 4) (.int .i64 r1)) (m * 4 + 1) (.int .i64 r2)), ?_, ?_, ?_⟩
    · have := hb4.size; simpa [World.setCell, World.drew] using this
    · intro x hx hxg
      exact ((Below.heap_setCell _ _ _ _ hxg).trans (Below.heap_setCell _ _ _ _ hxg)).trans (hb4.block x hx)
    · intro n hn
      exact ((pw_below_drewN (hb4.mono (Nat.le_trans hn (Nat.le_of_lt hgl))) 1).setCell (p := ⟨g, _, none⟩) hn _).setCell (p := ⟨g, _, none⟩) hn _
set_option maxHeartbeats 8000000 in
set_option maxRecDepth 100000 in
theorem move_ok2 (p g m : Nat) (a i j q pr wv tq tw r1 r2 : Int) (W : World) (h0 : a ≠ 0) (c0 : W.cell? ⟨p, 0, none⟩ = some (.int .i64 a)) (T : Array Value) (hg : Blk W g 71 T) (hpg : p ≠ g)
    (x0 : T[m * 4 + 2]? = some (.int .i64 tq)) (x1 : T[m * 4 + 3]? = some (.int .i64 tw)) (hq0 : 1 ≤ q) (hq1 : q ≤ 1099511627776) (hp0 : 1 ≤ pr) (hp1 : pr ≤ 1099511627776)
    (hat : ∀ w', Below W.heap.size W w' → Calls Try.prog 25 #[.pointer (some ⟨p, 0, none⟩), .int .i64 i, .int .i64 j] w' fun e w'' => e = .returned (.pointer (some ⟨g, m * 4, none⟩)) ∧ Drawn0 w' w'')
    (hw : ∀ w', Calls Try.prog 14 #[.int .i64 q, .int .i64 pr] w' fun e w'' => e = .returned (.tuple #[.int .i64 wv, .int .i64 0]) ∧ Below w'.heap.size w' w'')
    (hpl : ∀ w', Calls Try.prog 46 #[.agg #[.int .i64 tq, .int .i64 tw], .int .i64 q, .int .i64 wv] w' fun e w'' => e = .returned (.tuple #[.agg #[.int .i64 r1, .int .i64 r2], .int .i64 0]) ∧ Below w'.heap.size w' w'') :
    Calls Try.prog 33 #[.pointer (some ⟨p, 0, none⟩), .int .i64 i, .int .i64 j, .int .i64 2, .agg #[.int .i64 q, .int .i64 pr], .bool false] W fun e w' => e = .returned (.int .i64 0) ∧ Blk w' g 71 ((T.setIfInBounds (m * 4 + 2) (.int .i64 r1)).setIfInBounds (m * 4 + 3) (.int .i64 r2)) ∧ W.heap.size ≤ w'.heap.size ∧ (∀ x, x < W.heap.size → x ≠ g → w'.heap[x]? = W.heap[x]?) ∧ ∀ n, n ≤ g → Below n W w' := by
  have hlt : p < W.heap.size := World.block_lt_of_cell? W _ c0
  have hgl := hg.lt
  have hne : (a == 0) = false := by simpa using h0
  have hb0 : Below W.heap.size W (W.alloc (.cells #[.int .i64 q, .int .i64 pr] 62)) := (Below.refl _ W).alloc (Nat.le_refl _) _
  have hB := Blk.new W 62 #[.int .i64 q, .int .i64 pr]
  have hsq := fun w => pw_yes (2 : Int) 1 2 (by omega) (by omega) w
  have hqq := fun w => pw_yes q 1 1099511627776 hq0 hq1 w
  have hpp := fun w => pw_yes pr 1 1099511627776 hp0 hp1 w
  have Hs := Lib.hid hsq
  have Hq := Lib.hid hqq
  have Hp := Lib.hid hpp
  have Hat := Lib.hid hat
  have Hw := Lib.hid hw
  have Hpl := Lib.hid hpl
  have HB0 := Lib.hid hb0
  have HB := Lib.hid hB
  have Hg := Lib.hid hg
  have l0 : W.heap.size < (W.alloc (.cells #[.int .i64 q, .int .i64 pr] 62)).heap.size := by simp
  clear hsq hqq hpp hat hw hpl hb0 hB hg h0
  go_enter Try.func33, Try.ntmps33
  go_wp2_with (first
    | (go_at_call 25; refine (Hat.out _ HB0.out).mono ?_; rintro e w1 ⟨rfl, hd1⟩; have hb1 := hd1.below; have k1 := Blk.below HB.out hb1 l0; have y0 := k1.cell 0; have y1 := k1.cell 1; simp at y0 y1)
    | (go_at_call 18; first | ((with_reducible refine (Hs.out _).mono ?_); rintro e w' ⟨rfl, rfl⟩) | ((with_reducible refine (Hq.out _).mono ?_); rintro e w' ⟨rfl, rfl⟩) | ((with_reducible refine (Hp.out _).mono ?_); rintro e w' ⟨rfl, rfl⟩))
    | (go_at_call 14; refine (Hw.out _).mono ?_; rintro e w2 ⟨rfl, hb2⟩; have k2 := Blk.below k1 hb2 k1.lt; have z0 := k2.cell 0; simp at z0; have g2 := Blk.below Hg.out (bt (bt HB0.out hb1) hb2) hgl; have u0 := (g2.cell (m * 4 + 2)).trans x0; have u1 := (g2.cell (m * 4 + 3)).trans x1)
    | (go_at_call 46; refine (Hpl.out _).mono ?_; rintro e w3 ⟨rfl, hb3⟩; have g3 := Blk.below g2 hb3 g2.lt; have v0 := (g3.cell (m * 4 + 2)).trans x0; have v1 := (g3.cell (m * 4 + 3)).trans x1; have f0 := g3.frozen (m * 4 + 2); have f1 := g3.frozen (m * 4 + 3)))
  have k4 := Blk.new w3 62 #[.int .i64 r1, .int .i64 r2]
  have g4 := g3.alloc (.cells #[.int .i64 r1, .int .i64 r2] 62)
  have hb4 : Below W.heap.size W (w3.alloc (.cells #[.int .i64 r1, .int .i64 r2] 62)) := (bt (bt (bt HB0.out hb1) hb2) hb3).alloc (bt (bt (bt HB0.out hb1) hb2) hb3).size _
  have n0 : (w3.alloc (.cells #[.int .i64 r1, .int .i64 r2] 62)).cell? ⟨w3.heap.size, 0, none⟩ = some (.int .i64 r1) := k4.cell 0
  have n1 : (w3.alloc (.cells #[.int .i64 r1, .int .i64 r2] 62)).cell? ⟨w3.heap.size, 1, none⟩ = some (.int .i64 r2) := k4.cell 1
  have u0 := (g4.cell (m * 4 + 2)).trans x0
  have u1 := (g4.cell (m * 4 + 3)).trans x1
  have f0 := g4.frozen (m * 4 + 2)
  have f1 := g4.frozen (m * 4 + 3)
  clear v0 v1 k1 k2 z0 y0 y1 g2 g3 hb1 hb2 hb3 k4 hd1
  generalize (w3.alloc (.cells #[.int .i64 r1, .int .i64 r2] 62)) = W4 at *
  go_region
  all_goals
    go_wp2_with fail
    go_ret
    refine ⟨rfl, (Blk.put (Blk.put (g4.drewN 1) (m * 4 + 2) (.int .i64 r1)) (m * 4 + 3) (.int .i64 r2)), ?_, ?_, ?_⟩
    · have := hb4.size; simpa [World.setCell, World.drew] using this
    · intro x hx hxg
      exact ((Below.heap_setCell _ _ _ _ hxg).trans (Below.heap_setCell _ _ _ _ hxg)).trans (hb4.block x hx)
    · intro n hn
      exact ((pw_below_drewN (hb4.mono (Nat.le_trans hn (Nat.le_of_lt hgl))) 1).setCell (p := ⟨g, _, none⟩) hn _).setCell (p := ⟨g, _, none⟩) hn _
set_option maxHeartbeats 4000000 in
set_option maxRecDepth 100000 in
theorem plus_ok (tq tw q v r1 r2 : Int) (h1 : 0 ≤ r1) (h2 : 0 ≤ r2) (w : World)
    (ha : ∀ w', Calls Try.prog 53 #[.int .i64 tq, .int .i64 q] w' fun e w'' => e = .returned (.tuple #[.int .i64 r1, .int .i64 0]) ∧ Below w'.heap.size w' w'')
    (hb : ∀ w', Calls Try.prog 53 #[.int .i64 tw, .int .i64 v] w' fun e w'' => e = .returned (.tuple #[.int .i64 r2, .int .i64 0]) ∧ Below w'.heap.size w' w'') :
    Calls Try.prog 46 #[.agg #[.int .i64 tq, .int .i64 tw], .int .i64 q, .int .i64 v] w fun e w' => e = .returned (.tuple #[.agg #[.int .i64 r1, .int .i64 r2], .int .i64 0]) ∧ Below w.heap.size w w' := by
  have B0 := (Blk.new w 62 #[.int .i64 tq, .int .i64 tw]).alloc (.cells #[.int .i64 0, .int .i64 0] 62)
  have B1 := Blk.new (w.alloc (.cells #[.int .i64 tq, .int .i64 tw] 62)) 62 #[.int .i64 0, .int .i64 0]
  simp only [World.size_alloc] at B1
  have hB : Below w.heap.size w ((w.alloc (.cells #[.int .i64 tq, .int .i64 tw] 62)).alloc (.cells #[.int .i64 0, .int .i64 0] 62)) := ((Below.refl _ w).alloc (Nat.le_refl _) _).alloc (by simp) _
  have Ha := Lib.hid ha
  have Hb := Lib.hid hb
  have H0 := Lib.hid B0
  have H1 := Lib.hid B1
  have HB := Lib.hid hB
  clear ha hb B0 B1 hB
  go_enter Try.func46, Try.ntmps46
  go_wp2_with (go_at_call 53; first
    | ((with_reducible refine (Ha.out _).mono ?_); rintro e w1 ⟨rfl, hb1⟩; have k0 := Blk.below H0.out hb1 H0.out.lt; have k1 := Blk.below H1.out hb1 H1.out.lt; have y0 := k0.cell 0; have y1 := k0.cell 1; simp at y0 y1)
    | ((with_reducible refine (Hb.out _).mono ?_); rintro e w2 ⟨rfl, hb2⟩; have m1 := Blk.below k1 hb2 k1.lt; have z0 := m1.cell 0; have z1 := m1.cell 1; simp at z0 z1; have f0 := m1.frozen 0; have f1 := m1.frozen 1))
  trace_state
  have e0 := ((m1.put 0 (.int .i64 r1)).put 1 (.int .i64 r2)).cell 0
  have e1 := ((m1.put 0 (.int .i64 r1)).put 1 (.int .i64 r2)).cell 1
  simp at e0 e1
  exact bodyPost_ret (v := _) (by simp [results, Try.results46, go_sem, e0, e1]) rfl ⟨rfl, ((bt (bt HB.out hb1) hb2).setCell (p := ⟨w.heap.size + 1, 0, none⟩) (by show w.heap.size ≤ w.heap.size + 1; omega) _).setCell (p := ⟨w.heap.size + 1, 1, none⟩) (by show w.heap.size ≤ w.heap.size + 1; omega) _⟩
end Go.Proofs.Ytenlifjfehnldaa.Hand
