/- position.move, walked to its end: one that is taken back; what plus refuses (printed by posmove.py). -/
import Derived.Test.YtenlifjfehnldaaPos2
set_option linter.unusedVariables false
set_option linter.unusedSimpArgs false
namespace Go.Proofs.Ytenlifjfehnldaa.Hand
open Go Go.RowKit Go.Proofs.YtenlifjfehnldaaW.PrintWords Go.Proofs.YtenlifjfehnldaaW.PrintMore Go.Proofs.Ytenlifjfehnldaa.RL
set_option maxHeartbeats 8000000 in
set_option maxRecDepth 100000 in
theorem move_er1 (p g m : Nat) (a i j q pr wv tq tw r1 r2 : Int) (W : World) (h0 : a ≠ 0) (c0 : W.cell? ⟨p, 0, none⟩ = some (.int .i64 a)) (T : Array Value) (hg : Blk W g 71 T) (hpg : p ≠ g)
    (x0 : T[m * 4]? = some (.int .i64 tq)) (x1 : T[m * 4 + 1]? = some (.int .i64 tw)) (hq0 : 1 ≤ q) (hq1 : q ≤ 1099511627776) (hp0 : 1 ≤ pr) (hp1 : pr ≤ 1099511627776)
    (hat : ∀ w', Below W.heap.size W w' → Calls Try.prog 25 #[.pointer (some ⟨p, 0, none⟩), .int .i64 i, .int .i64 j] w' fun e w'' => e = .returned (.pointer (some ⟨g, m * 4, none⟩)) ∧ Drawn0 w' w'')
    (hw : ∀ w', Calls Try.prog 14 #[.int .i64 q, .int .i64 pr] w' fun e w'' => e = .returned (.tuple #[.int .i64 wv, .int .i64 0]) ∧ Below w'.heap.size w' w'')
    (hpl : ∀ w', Calls Try.prog 46 #[.agg #[.int .i64 tq, .int .i64 tw], .int .i64 q, .int .i64 wv] w' fun e w'' => e = .returned (.tuple #[.agg #[.int .i64 r1, .int .i64 r2], .int .i64 10]) ∧ Below w'.heap.size w' w'') :
    Calls Try.prog 33 #[.pointer (some ⟨p, 0, none⟩), .int .i64 i, .int .i64 j, .int .i64 1, .agg #[.int .i64 q, .int .i64 pr], .bool false] W fun e w' => e = .returned (.int .i64 10) ∧ Below W.heap.size W w' := by
  have hlt : p < W.heap.size := World.block_lt_of_cell? W _ c0
  have hgl := hg.lt
  have hne : (a == 0) = false := by simpa using h0
  have hb0 : Below W.heap.size W (W.alloc (.cells #[.int .i64 q, .int .i64 pr] 62)) := (Below.refl _ W).alloc (Nat.le_refl _) _
  have hB := Blk.new W 62 #[.int .i64 q, .int .i64 pr]
  have hsq := fun w => pw_yes (1 : Int) 1 2 (by omega) (by omega) w
  have hqq := fun w => pw_yes q 1 1099511627776 hq0 hq1 w
  have hpp := fun w => pw_yes pr 1 1099511627776 hp0 hp1 w
  have Hs := Lib.hid hsq
  have Hq := Lib.hid hqq
  have Hp := Lib.hid hpp
  have Hat := Lib.hid hat
  have Hw := Lib.hid hw
  have Hpl := Lib.hid hpl
  have HB0 := Lib.hid hb0
  have HB := Lib.hid hB
  have Hg := Lib.hid hg
  have l0 : W.heap.size < (W.alloc (.cells #[.int .i64 q, .int .i64 pr] 62)).heap.size := by simp
  clear hsq hqq hpp hat hw hpl hb0 hB hg h0
  go_enter Try.func33, Try.ntmps33
  go_wp2_with (first
    | (go_at_call 25; refine (Hat.out _ HB0.out).mono ?_; rintro e w1 ⟨rfl, hd1⟩; have hb1 := hd1.below; have k1 := Blk.below HB.out hb1 l0; have y0 := k1.cell 0; have y1 := k1.cell 1; simp at y0 y1)
    | (go_at_call 18; first | ((with_reducible refine (Hs.out _).mono ?_); rintro e w' ⟨rfl, rfl⟩) | ((with_reducible refine (Hq.out _).mono ?_); rintro e w' ⟨rfl, rfl⟩) | ((with_reducible refine (Hp.out _).mono ?_); rintro e w' ⟨rfl, rfl⟩))
    | (go_at_call 14; refine (Hw.out _).mono ?_; rintro e w2 ⟨rfl, hb2⟩; have k2 := Blk.below k1 hb2 k1.lt; have z0 := k2.cell 0; simp at z0; have g2 := Blk.below Hg.out (bt (bt HB0.out hb1) hb2) hgl; have u0 := (g2.cell (m * 4)).trans x0; have u1 := (g2.cell (m * 4 + 1)).trans x1)
    | (go_at_call 46; refine (Hpl.out _).mono ?_; rintro e w3 ⟨rfl, hb3⟩; have g3 := Blk.below g2 hb3 g2.lt; have v0 := (g3.cell (m * 4)).trans x0; have v1 := (g3.cell (m * 4 + 1)).trans x1; have f0 := g3.frozen (m * 4); have f1 := g3.frozen (m * 4 + 1)))
  go_ret
  exact ⟨rfl, (bt (bt (bt HB0.out hb1) hb2) hb3).alloc (bt (bt (bt HB0.out hb1) hb2) hb3).size _⟩
set_option maxHeartbeats 8000000 in
set_option maxRecDepth 100000 in
theorem move_ok1b (p g m : Nat) (a i j q pr wv tq tw r1 r2 : Int) (W : World) (h0 : a ≠ 0) (c0 : W.cell? ⟨p, 0, none⟩ = some (.int .i64 a)) (T : Array Value) (hg : Blk W g 71 T) (hpg : p ≠ g)
    (x0 : T[m * 4]? = some (.int .i64 tq)) (x1 : T[m * 4 + 1]? = some (.int .i64 tw)) (hq0 : 1 ≤ q) (hq1 : q ≤ 1099511627776) (hp0 : 1 ≤ pr) (hp1 : pr ≤ 1099511627776) (hv0 : 0 ≤ wv) (hv1 : wv ≤ 9223372036854775807)
    (hat : ∀ w', Below W.heap.size W w' → Calls Try.prog 25 #[.pointer (some ⟨p, 0, none⟩), .int .i64 i, .int .i64 j] w' fun e w'' => e = .returned (.pointer (some ⟨g, m * 4, none⟩)) ∧ Drawn0 w' w'')
    (hw : ∀ w', Calls Try.prog 14 #[.int .i64 q, .int .i64 pr] w' fun e w'' => e = .returned (.tuple #[.int .i64 wv, .int .i64 0]) ∧ Below w'.heap.size w' w'')
    (hpl : ∀ w', Calls Try.prog 46 #[.agg #[.int .i64 tq, .int .i64 tw], .int .i64 (-q), .int .i64 (-wv)] w' fun e w'' => e = .returned (.tuple #[.agg #[.int .i64 r1, .int .i64 r2], .int .i64 0]) ∧ Below w'.heap.size w' w'') :
    Calls Try.prog 33 #[.pointer (some ⟨p, 0, none⟩), .int .i64 i, .int .i64 j, .int .i64 1, .agg #[.int .i64 q, .int .i64 pr], .bool true] W fun e w' => e = .returned (.int .i64 0) ∧ Blk w' g 71 ((T.setIfInBounds (m * 4) (.int .i64 r1)).setIfInBounds (m * 4 + 1) (.int .i64 r2)) ∧ W.heap.size ≤ w'.heap.size ∧ (∀ x, x < W.heap.size → x ≠ g → w'.heap[x]? = W.heap[x]?) ∧ ∀ n, n ≤ g → Below n W w' := by
  have hlt : p < W.heap.size := World.block_lt_of_cell? W _ c0
  have hgl := hg.lt
  have hne : (a == 0) = false := by simpa using h0
  have hb0 : Below W.heap.size W (W.alloc (.cells #[.int .i64 q, .int .i64 pr] 62)) := (Below.refl _ W).alloc (Nat.le_refl _) _
  have hB := Blk.new W 62 #[.int .i64 q, .int .i64 pr]
  have hsq := fun w => pw_yes (1 : Int) 1 2 (by omega) (by omega) w
  have hqq := fun w => pw_yes q 1 1099511627776 hq0 hq1 w
  have hpp := fun w => pw_yes pr 1 1099511627776 hp0 hp1 w
  have Hs := Lib.hid hsq
  have Hq := Lib.hid hqq
  have Hp := Lib.hid hpp
  have Hat := Lib.hid hat
  have Hw := Lib.hid hw
  have Hpl := Lib.hid hpl
  have HB0 := Lib.hid hb0
  have HB := Lib.hid hB
  have Hg := Lib.hid hg
  have l0 : W.heap.size < (W.alloc (.cells #[.int .i64 q, .int .i64 pr] 62)).heap.size := by simp
  clear hsq hqq hpp hat hw hpl hb0 hB hg h0
  go_enter Try.func33, Try.ntmps33
  go_wp2_with (first
    | (go_at_call 25; refine (Hat.out _ HB0.out).mono ?_; rintro e w1 ⟨rfl, hd1⟩; have hb1 := hd1.below; have k1 := Blk.below HB.out hb1 l0; have y0 := k1.cell 0; have y1 := k1.cell 1; simp at y0 y1)
    | (go_at_call 18; first | ((with_reducible refine (Hs.out _).mono ?_); rintro e w' ⟨rfl, rfl⟩) | ((with_reducible refine (Hq.out _).mono ?_); rintro e w' ⟨rfl, rfl⟩) | ((with_reducible refine (Hp.out _).mono ?_); rintro e w' ⟨rfl, rfl⟩))
    | (go_at_call 14; refine (Hw.out _).mono ?_; rintro e w2 ⟨rfl, hb2⟩; have k2 := Blk.below k1 hb2 k1.lt; have z0 := k2.cell 0; simp at z0; have g2 := Blk.below Hg.out (bt (bt HB0.out hb1) hb2) hgl; have u0 := (g2.cell (m * 4)).trans x0; have u1 := (g2.cell (m * 4 + 1)).trans x1)
    | (go_at_call 46; refine (Hpl.out _).mono ?_; rintro e w3 ⟨rfl, hb3⟩; have g3 := Blk.below g2 hb3 g2.lt; have v0 := (g3.cell (m * 4)).trans x0; have v1 := (g3.cell (m * 4 + 1)).trans x1; have f0 := g3.frozen (m * 4); have f1 := g3.frozen (m * 4 + 1)))
  have k4 := Blk.new w3 62 #[.int .i64 r1, .int .i64 r2]
  have g4 := g3.alloc (.cells #[.int .i64 r1, .int .i64 r2] 62)
  have hb4 : Below W.heap.size W (w3.alloc (.cells #[.int .i64 r1, .int .i64 r2] 62)) := (bt (bt (bt HB0.out hb1) hb2) hb3).alloc (bt (bt (bt HB0.out hb1) hb2) hb3).size _
  have n0 : (w3.alloc (.cells #[.int .i64 r1, .int .i64 r2] 62)).cell? ⟨w3.heap.size, 0, none⟩ = some (.int .i64 r1) := k4.cell 0
  have n1 : (w3.alloc (.cells #[.int .i64 r1, .int .i64 r2] 62)).cell? ⟨w3.heap.size, 1, none⟩ = some (.int .i64 r2) := k4.cell 1
  have u0 := (g4.cell (m * 4)).trans x0
  have u1 := (g4.cell (m * 4 + 1)).trans x1
  have f0 := g4.frozen (m * 4)
  have f1 := g4.frozen (m * 4 + 1)
  clear v0 v1 k1 k2 z0 y0 y1 g2 g3 hb1 hb2 hb3 k4 hd1
  generalize (w3.alloc (.cells #[.int .i64 r1, .int .i64 r2] 62)) = W4 at *
  go_region
  all_goals
    go_wp2_with fail
    go_ret
    refine ⟨rfl, (Blk.put (Blk.put (g4.drewN 1) (m * 4) (.int .i64 r1)) (m * 4 + 1) (.int .i64 r2)), ?_, ?_, ?_⟩
    · have := hb4.size; simpa [World.setCell, World.drew] using this
    · intro x hx hxg
      exact ((Below.heap_setCell _ _ _ _ hxg).trans (Below.heap_setCell _ _ _ _ hxg)).trans (hb4.block x hx)
    · intro n hn
      exact ((pw_below_drewN (hb4.mono (Nat.le_trans hn (Nat.le_of_lt hgl))) 1).setCell (p := ⟨g, _, none⟩) hn _).setCell (p := ⟨g, _, none⟩) hn _
set_option maxHeartbeats 8000000 in
set_option maxRecDepth 100000 in
theorem move_er1b (p g m : Nat) (a i j q pr wv tq tw r1 r2 : Int) (W : World) (h0 : a ≠ 0) (c0 : W.cell? ⟨p, 0, none⟩ = some (.int .i64 a)) (T : Array Value) (hg : Blk W g 71 T) (hpg : p ≠ g)
    (x0 : T[m * 4]? = some (.int .i64 tq)) (x1 : T[m * 4 + 1]? = some (.int .i64 tw)) (hq0 : 1 ≤ q) (hq1 : q ≤ 1099511627776) (hp0 : 1 ≤ pr) (hp1 : pr ≤ 1099511627776) (hv0 : 0 ≤ wv) (hv1 : wv ≤ 9223372036854775807)
    (hat : ∀ w', Below W.heap.size W w' → Calls Try.prog 25 #[.pointer (some ⟨p, 0, none⟩), .int .i64 i, .int .i64 j] w' fun e w'' => e = .returned (.pointer (some ⟨g, m * 4, none⟩)) ∧ Drawn0 w' w'')
    (hw : ∀ w', Calls Try.prog 14 #[.int .i64 q, .int .i64 pr] w' fun e w'' => e = .returned (.tuple #[.int .i64 wv, .int .i64 0]) ∧ Below w'.heap.size w' w'')
    (hpl : ∀ w', Calls Try.prog 46 #[.agg #[.int .i64 tq, .int .i64 tw], .int .i64 (-q), .int .i64 (-wv)] w' fun e w'' => e = .returned (.tuple #[.agg #[.int .i64 r1, .int .i64 r2], .int .i64 10]) ∧ Below w'.heap.size w' w'') :
    Calls Try.prog 33 #[.pointer (some ⟨p, 0, none⟩), .int .i64 i, .int .i64 j, .int .i64 1, .agg #[.int .i64 q, .int .i64 pr], .bool true] W fun e w' => e = .returned (.int .i64 10) ∧ Below W.heap.size W w' := by
  have hlt : p < W.heap.size := World.block_lt_of_cell? W _ c0
  have hgl := hg.lt
  have hne : (a == 0) = false := by simpa using h0
  have hb0 : Below W.heap.size W (W.alloc (.cells #[.int .i64 q, .int .i64 pr] 62)) := (Below.refl _ W).alloc (Nat.le_refl _) _
  have hB := Blk.new W 62 #[.int .i64 q, .int .i64 pr]
  have hsq := fun w => pw_yes (1 : Int) 1 2 (by omega) (by omega) w
  have hqq := fun w => pw_yes q 1 1099511627776 hq0 hq1 w
  have hpp := fun w => pw_yes pr 1 1099511627776 hp0 hp1 w
  have Hs := Lib.hid hsq
  have Hq := Lib.hid hqq
  have Hp := Lib.hid hpp
  have Hat := Lib.hid hat
  have Hw := Lib.hid hw
  have Hpl := Lib.hid hpl
  have HB0 := Lib.hid hb0
  have HB := Lib.hid hB
  have Hg := Lib.hid hg
  have l0 : W.heap.size < (W.alloc (.cells #[.int .i64 q, .int .i64 pr] 62)).heap.size := by simp
  clear hsq hqq hpp hat hw hpl hb0 hB hg h0
  go_enter Try.func33, Try.ntmps33
  go_wp2_with (first
    | (go_at_call 25; refine (Hat.out _ HB0.out).mono ?_; rintro e w1 ⟨rfl, hd1⟩; have hb1 := hd1.below; have k1 := Blk.below HB.out hb1 l0; have y0 := k1.cell 0; have y1 := k1.cell 1; simp at y0 y1)
    | (go_at_call 18; first | ((with_reducible refine (Hs.out _).mono ?_); rintro e w' ⟨rfl, rfl⟩) | ((with_reducible refine (Hq.out _).mono ?_); rintro e w' ⟨rfl, rfl⟩) | ((with_reducible refine (Hp.out _).mono ?_); rintro e w' ⟨rfl, rfl⟩))
    | (go_at_call 14; refine (Hw.out _).mono ?_; rintro e w2 ⟨rfl, hb2⟩; have k2 := Blk.below k1 hb2 k1.lt; have z0 := k2.cell 0; simp at z0; have g2 := Blk.below Hg.out (bt (bt HB0.out hb1) hb2) hgl; have u0 := (g2.cell (m * 4)).trans x0; have u1 := (g2.cell (m * 4 + 1)).trans x1)
    | (go_at_call 46; refine (Hpl.out _).mono ?_; rintro e w3 ⟨rfl, hb3⟩; have g3 := Blk.below g2 hb3 g2.lt; have v0 := (g3.cell (m * 4)).trans x0; have v1 := (g3.cell (m * 4 + 1)).trans x1; have f0 := g3.frozen (m * 4); have f1 := g3.frozen (m * 4 + 1)))
  go_ret
  exact ⟨rfl, (bt (bt (bt HB0.out hb1) hb2) hb3).alloc (bt (bt (bt HB0.out hb1) hb2) hb3).size _⟩
set_option maxHeartbeats 8000000 in
set_option maxRecDepth 100000 in
theorem move_er2 (p g m : Nat) (a i j q pr wv tq tw r1 r2 : Int) (W : World) (h0 : a ≠ 0) (c0 : W.cell? ⟨p, 0, none⟩ = some (.int .i64 a)) (T : Array Value) (hg : Blk W g 71 T) (hpg : p ≠ g)
    (x0 : T[m * 4 + 2]? = some (.int .i64 tq)) (x1 : T[m * 4 + 3]? = some (.int .i64 tw)) (hq0 : 1 ≤ q) (hq1 : q ≤ 1099511627776) (hp0 : 1 ≤ pr) (hp1 : pr ≤ 1099511627776)
    (hat : ∀ w', Below W.heap.size W w' → Calls Try.prog 25 #[.pointer (some ⟨p, 0, none⟩), .int .i64 i, .int .i64 j] w' fun e w'' => e = .returned (.pointer (some ⟨g, m * 4, none⟩)) ∧ Drawn0 w' w'')
    (hw : ∀ w', Calls Try.prog 14 #[.int .i64 q, .int .i64 pr] w' fun e w'' => e = .returned (.tuple #[.int .i64 wv, .int .i64 0]) ∧ Below w'.heap.size w' w'')
    (hpl : ∀ w', Calls Try.prog 46 #[.agg #[.int .i64 tq, .int .i64 tw], .int .i64 q, .int .i64 wv] w' fun e w'' => e = .returned (.tuple #[.agg #[.int .i64 r1, .int .i64 r2], .int .i64 10]) ∧ Below w'.heap.size w' w'') :
    Calls Try.prog 33 #[.pointer (some ⟨p, 0, none⟩), .int .i64 i, .int .i64 j, .int .i64 2, .agg #[.int .i64 q, .int .i64 pr], .bool false] W fun e w' => e = .returned (.int .i64 10) ∧ Below W.heap.size W w' := by
  have hlt : p < W.heap.size := World.block_lt_of_cell? W _ c0
  have hgl := hg.lt
  have hne : (a == 0) = false := by simpa using h0
  have hb0 : Below W.heap.size W (W.alloc (.cells #[.int .i64 q, .int .i64 pr] 62)) := (Below.refl _ W).alloc (Nat.le_refl _) _
  have hB := Blk.new W 62 #[.int .i64 q, .int .i64 pr]
  have hsq := fun w => pw_yes (2 : Int) 1 2 (by omega) (by omega) w
  have hqq := fun w => pw_yes q 1 1099511627776 hq0 hq1 w
  have hpp := fun w => pw_yes pr 1 1099511627776 hp0 hp1 w
  have Hs := Lib.hid hsq
  have Hq := Lib.hid hqq
  have Hp := Lib.hid hpp
  have Hat := Lib.hid hat
  have Hw := Lib.hid hw
  have Hpl := Lib.hid hpl
  have HB0 := Lib.hid hb0
  have HB := Lib.hid hB
  have Hg := Lib.hid hg
  have l0 : W.heap.size < (W.alloc (.cells #[.int .i64 q, .int .i64 pr] 62)).heap.size := by simp
  clear hsq hqq hpp hat hw hpl hb0 hB hg h0
  go_enter Try.func33, Try.ntmps33
  go_wp2_with (first
    | (go_at_call 25; refine (Hat.out _ HB0.out).mono ?_; rintro e w1 ⟨rfl, hd1⟩; have hb1 := hd1.below; have k1 := Blk.below HB.out hb1 l0; have y0 := k1.cell 0; have y1 := k1.cell 1; simp at y0 y1)
    | (go_at_call 18; first | ((with_reducible refine (Hs.out _).mono ?_); rintro e w' ⟨rfl, rfl⟩) | ((with_reducible refine (Hq.out _).mono ?_); rintro e w' ⟨rfl, rfl⟩) | ((with_reducible refine (Hp.out _).mono ?_); rintro e w' ⟨rfl, rfl⟩))
    | (go_at_call 14; refine (Hw.out _).mono ?_; rintro e w2 ⟨rfl, hb2⟩; have k2 := Blk.below k1 hb2 k1.lt; have z0 := k2.cell 0; simp at z0; have g2 := Blk.below Hg.out (bt (bt HB0.out hb1) hb2) hgl; have u0 := (g2.cell (m * 4 + 2)).trans x0; have u1 := (g2.cell (m * 4 + 3)).trans x1)
    | (go_at_call 46; refine (Hpl.out _).mono ?_; rintro e w3 ⟨rfl, hb3⟩; have g3 := Blk.below g2 hb3 g2.lt; have v0 := (g3.cell (m * 4 + 2)).trans x0; have v1 := (g3.cell (m * 4 + 3)).trans x1; have f0 := g3.frozen (m * 4 + 2); have f1 := g3.frozen (m * 4 + 3)))
  go_ret
  exact ⟨rfl, (bt (bt (bt HB0.out hb1) hb2) hb3).alloc (bt (bt (bt HB0.out hb1) hb2) hb3).size _⟩
set_option maxHeartbeats 8000000 in
set_option maxRecDepth 100000 in
theorem move_ok2b (p g m : Nat) (a i j q pr wv tq tw r1 r2 : Int) (W : World) (h0 : a ≠ 0) (c0 : W.cell? ⟨p, 0, none⟩ = some (.int .i64 a)) (T : Array Value) (hg : Blk W g 71 T) (hpg : p ≠ g)
    (x0 : T[m * 4 + 2]? = some (.int .i64 tq)) (x1 : T[m * 4 + 3]? = some (.int .i64 tw)) (hq0 : 1 ≤ q) (hq1 : q ≤ 1099511627776) (hp0 : 1 ≤ pr) (hp1 : pr ≤ 1099511627776) (hv0 : 0 ≤ wv) (hv1 : wv ≤ 9223372036854775807)
    (hat : ∀ w', Below W.heap.size W w' → Calls Try.prog 25 #[.pointer (some ⟨p, 0, none⟩), .int .i64 i, .int .i64 j] w' fun e w'' => e = .returned (.pointer (some ⟨g, m * 4, none⟩)) ∧ Drawn0 w' w'')
    (hw : ∀ w', Calls Try.prog 14 #[.int .i64 q, .int .i64 pr] w' fun e w'' => e = .returned (.tuple #[.int .i64 wv, .int .i64 0]) ∧ Below w'.heap.size w' w'')
    (hpl : ∀ w', Calls Try.prog 46 #[.agg #[.int .i64 tq, .int .i64 tw], .int .i64 (-q), .int .i64 (-wv)] w' fun e w'' => e = .returned (.tuple #[.agg #[.int .i64 r1, .int .i64 r2], .int .i64 0]) ∧ Below w'.heap.size w' w'') :
    Calls Try.prog 33 #[.pointer (some ⟨p, 0, none⟩), .int .i64 i, .int .i64 j, .int .i64 2, .agg #[.int .i64 q, .int .i64 pr], .bool true] W fun e w' => e = .returned (.int .i64 0) ∧ Blk w' g 71 ((T.setIfInBounds (m * 4 + 2) (.int .i64 r1)).setIfInBounds (m * 4 + 3) (.int .i64 r2)) ∧ W.heap.size ≤ w'.heap.size ∧ (∀ x, x < W.heap.size → x ≠ g → w'.heap[x]? = W.heap[x]?) ∧ ∀ n, n ≤ g → Below n W w' := by
  have hlt : p < W.heap.size := World.block_lt_of_cell? W _ c0
  have hgl := hg.lt
  have hne : (a == 0) = false := by simpa using h0
  have hb0 : Below W.heap.size W (W.alloc (.cells #[.int .i64 q, .int .i64 pr] 62)) := (Below.refl _ W).alloc (Nat.le_refl _) _
  have hB := Blk.new W 62 #[.int .i64 q, .int .i64 pr]
  have hsq := fun w => pw_yes (2 : Int) 1 2 (by omega) (by omega) w
  have hqq := fun w => pw_yes q 1 1099511627776 hq0 hq1 w
  have hpp := fun w => pw_yes pr 1 1099511627776 hp0 hp1 w
  have Hs := Lib.hid hsq
  have Hq := Lib.hid hqq
  have Hp := Lib.hid hpp
  have Hat := Lib.hid hat
  have Hw := Lib.hid hw
  have Hpl := Lib.hid hpl
  have HB0 := Lib.hid hb0
  have HB := Lib.hid hB
  have Hg := Lib.hid hg
  have l0 : W.heap.size < (W.alloc (.cells #[.int .i64 q, .int .i64 pr] 62)).heap.size := by simp
  clear hsq hqq hpp hat hw hpl hb0 hB hg h0
  go_enter Try.func33, Try.ntmps33
  go_wp2_with (first
    | (go_at_call 25; refine (Hat.out _ HB0.out).mono ?_; rintro e w1 ⟨rfl, hd1⟩; have hb1 := hd1.below; have k1 := Blk.below HB.out hb1 l0; have y0 := k1.cell 0; have y1 := k1.cell 1; simp at y0 y1)
    | (go_at_call 18; first | ((with_reducible refine (Hs.out _).mono ?_); rintro e w' ⟨rfl, rfl⟩) | ((with_reducible refine (Hq.out _).mono ?_); rintro e w' ⟨rfl, rfl⟩) | ((with_reducible refine (Hp.out _).mono ?_); rintro e w' ⟨rfl, rfl⟩))
    | (go_at_call 14; refine (Hw.out _).mono ?_; rintro e w2 ⟨rfl, hb2⟩; have k2 := Blk.below k1 hb2 k1.lt; have z0 := k2.cell 0; simp at z0; have g2 := Blk.below Hg.out (bt (bt HB0.out hb1) hb2) hgl; have u0 := (g2.cell (m * 4 + 2)).trans x0; have u1 := (g2.cell (m * 4 + 3)).trans x1)
    | (go_at_call 46; refine (Hpl.out _).mono ?_; rintro e w3 ⟨rfl, hb3⟩; have g3 := Blk.below g2 hb3 g2.lt; have v0 := (g3.cell (m * 4 + 2)).trans x0; have v1 := (g3.cell (m * 4 + 3)).trans x1; have f0 := g3.frozen (m * 4 + 2); have f1 := g3.frozen (m * 4 + 3)))
  have k4 := Blk.new w3 62 #[.int .i64 r1, .int .i64 r2]
  have g4 := g3.alloc (.cells #[.int .i64 r1, .int .i64 r2] 62)
  have hb4 : Below W.heap.size W (w3.alloc (.cells #[.int .i64 r1, .int .i64 r2] 62)) := (bt (bt (bt HB0.out hb1) hb2) hb3).alloc (bt (bt (bt HB0.out hb1) hb2) hb3).size _
  have n0 : (w3.alloc (.cells #[.int .i64 r1, .int .i64 r2] 62)).cell? ⟨w3.heap.size, 0, none⟩ = some (.int .i64 r1) := k4.cell 0
  have n1 : (w3.alloc (.cells #[.int .i64 r1, .int .i64 r2] 62)).cell? ⟨w3.heap.size, 1, none⟩ = some (.int .i64 r2) := k4.cell 1
  have u0 := (g4.cell (m * 4 + 2)).trans x0
  have u1 := (g4.cell (m * 4 + 3)).trans x1
  have f0 := g4.frozen (m * 4 + 2)
  have f1 := g4.frozen (m * 4 + 3)
  clear v0 v1 k1 k2 z0 y0 y1 g2 g3 hb1 hb2 hb3 k4 hd1
  generalize (w3.alloc (.cells #[.int .i64 r1, .int .i64 r2] 62)) = W4 at *
  go_region
  all_goals
    go_wp2_with fail
    go_ret
    refine ⟨rfl, (Blk.put (Blk.put (g4.drewN 1) (m * 4 + 2) (.int .i64 r1)) (m * 4 + 3) (.int .i64 r2)), ?_, ?_, ?_⟩
    · have := hb4.size; simpa [World.setCell, World.drew] using this
    · intro x hx hxg
      exact ((Below.heap_setCell _ _ _ _ hxg).trans (Below.heap_setCell _ _ _ _ hxg)).trans (hb4.block x hx)
    · intro n hn
      exact ((pw_below_drewN (hb4.mono (Nat.le_trans hn (Nat.le_of_lt hgl))) 1).setCell (p := ⟨g, _, none⟩) hn _).setCell (p := ⟨g, _, none⟩) hn _
set_option maxHeartbeats 8000000 in
set_option maxRecDepth 100000 in
theorem move_er2b (p g m : Nat) (a i j q pr wv tq tw r1 r2 : Int) (W : World) (h0 : a ≠ 0) (c0 : W.cell? ⟨p, 0, none⟩ = some (.int .i64 a)) (T : Array Value) (hg : Blk W g 71 T) (hpg : p ≠ g)
    (x0 : T[m * 4 + 2]? = some (.int .i64 tq)) (x1 : T[m * 4 + 3]? = some (.int .i64 tw)) (hq0 : 1 ≤ q) (hq1 : q ≤ 1099511627776) (hp0 : 1 ≤ pr) (hp1 : pr ≤ 1099511627776) (hv0 : 0 ≤ wv) (hv1 : wv ≤ 9223372036854775807)
    (hat : ∀ w', Below W.heap.size W w' → Calls Try.prog 25 #[.pointer (some ⟨p, 0, none⟩), .int .i64 i, .int .i64 j] w' fun e w'' => e = .returned (.pointer (some ⟨g, m * 4, none⟩)) ∧ Drawn0 w' w'')
    (hw : ∀ w', Calls Try.prog 14 #[.int .i64 q, .int .i64 pr] w' fun e w'' => e = .returned (.tuple #[.int .i64 wv, .int .i64 0]) ∧ Below w'.heap.size w' w'')
    (hpl : ∀ w', Calls Try.prog 46 #[.agg #[.int .i64 tq, .int .i64 tw], .int .i64 (-q), .int .i64 (-wv)] w' fun e w'' => e = .returned (.tuple #[.agg #[.int .i64 r1, .int .i64 r2], .int .i64 10]) ∧ Below w'.heap.size w' w'') :
    Calls Try.prog 33 #[.pointer (some ⟨p, 0, none⟩), .int .i64 i, .int .i64 j, .int .i64 2, .agg #[.int .i64 q, .int .i64 pr], .bool true] W fun e w' => e = .returned (.int .i64 10) ∧ Below W.heap.size W w' := by
  have hlt : p < W.heap.size := World.block_lt_of_cell? W _ c0
  have hgl := hg.lt
  have hne : (a == 0) = false := by simpa using h0
  have hb0 : Below W.heap.size W (W.alloc (.cells #[.int .i64 q, .int .i64 pr] 62)) := (Below.refl _ W).alloc (Nat.le_refl _) _
  have hB := Blk.new W 62 #[.int .i64 q, .int .i64 pr]
  have hsq := fun w => pw_yes (2 : Int) 1 2 (by omega) (by omega) w
  have hqq := fun w => pw_yes q 1 1099511627776 hq0 hq1 w
  have hpp := fun w => pw_yes pr 1 1099511627776 hp0 hp1 w
  have Hs := Lib.hid hsq
  have Hq := Lib.hid hqq
  have Hp := Lib.hid hpp
  have Hat := Lib.hid hat
  have Hw := Lib.hid hw
  have Hpl := Lib.hid hpl
  have HB0 := Lib.hid hb0
  have HB := Lib.hid hB
  have Hg := Lib.hid hg
  have l0 : W.heap.size < (W.alloc (.cells #[.int .i64 q, .int .i64 pr] 62)).heap.size := by simp
  clear hsq hqq hpp hat hw hpl hb0 hB hg h0
  go_enter Try.func33, Try.ntmps33
  go_wp2_with (first
    | (go_at_call 25; refine (Hat.out _ HB0.out).mono ?_; rintro e w1 ⟨rfl, hd1⟩; have hb1 := hd1.below; have k1 := Blk.below HB.out hb1 l0; have y0 := k1.cell 0; have y1 := k1.cell 1; simp at y0 y1)
    | (go_at_call 18; first | ((with_reducible refine (Hs.out _).mono ?_); rintro e w' ⟨rfl, rfl⟩) | ((with_reducible refine (Hq.out _).mono ?_); rintro e w' ⟨rfl, rfl⟩) | ((with_reducible refine (Hp.out _).mono ?_); rintro e w' ⟨rfl, rfl⟩))
    | (go_at_call 14; refine (Hw.out _).mono ?_; rintro e w2 ⟨rfl, hb2⟩; have k2 := Blk.below k1 hb2 k1.lt; have z0 := k2.cell 0; simp at z0; have g2 := Blk.below Hg.out (bt (bt HB0.out hb1) hb2) hgl; have u0 := (g2.cell (m * 4 + 2)).trans x0; have u1 := (g2.cell (m * 4 + 3)).trans x1)
    | (go_at_call 46; refine (Hpl.out _).mono ?_; rintro e w3 ⟨rfl, hb3⟩; have g3 := Blk.below g2 hb3 g2.lt; have v0 := (g3.cell (m * 4 + 2)).trans x0; have v1 := (g3.cell (m * 4 + 3)).trans x1; have f0 := g3.frozen (m * 4 + 2); have f1 := g3.frozen (m * 4 + 3)))
  go_ret
  exact ⟨rfl, (bt (bt (bt HB0.out hb1) hb2) hb3).alloc (bt (bt (bt HB0.out hb1) hb2) hb3).size _⟩
end Go.Proofs.Ytenlifjfehnldaa.Hand
namespace Go.Proofs.Ytenlifjfehnldaa.Hand
open Go Go.RowKit Go.Proofs.YtenlifjfehnldaaW.PrintWords Go.Proofs.YtenlifjfehnldaaW.PrintMore Go.Proofs.Ytenlifjfehnldaa.RL
set_option maxHeartbeats 4000000 in
set_option maxRecDepth 100000 in
theorem move_at (p g m : Nat) (a i j sd q pr : Int) (bk : Bool) (W : World) (h0 : a ≠ 0) (c0 : W.cell? ⟨p, 0, none⟩ = some (.int .i64 a))
    (hat : ∀ w', Below W.heap.size W w' → Calls Try.prog 25 #[.pointer (some ⟨p, 0, none⟩), .int .i64 i, .int .i64 j] w' fun e w'' => e = .returned (.pointer none) ∧ Drawn0 w' w'') :
    Calls Try.prog 33 #[.pointer (some ⟨p, 0, none⟩), .int .i64 i, .int .i64 j, .int .i64 sd, .agg #[.int .i64 q, .int .i64 pr], .bool bk] W fun e w' => e = .returned (.int .i64 2) ∧ Below W.heap.size W w' := by
  have hlt : p < W.heap.size := World.block_lt_of_cell? W _ c0
  have hne : (a == 0) = false := by simpa using h0
  have hb0 : Below W.heap.size W (W.alloc (.cells #[.int .i64 q, .int .i64 pr] 62)) := (Below.refl _ W).alloc (Nat.le_refl _) _
  have hB := Blk.new W 62 #[.int .i64 q, .int .i64 pr]
  have Hat := Lib.hid hat
  have HB0 := Lib.hid hb0
  have HB := Lib.hid hB
  have l0 : W.heap.size < (W.alloc (.cells #[.int .i64 q, .int .i64 pr] 62)).heap.size := by simp
  clear hat hb0 hB h0
  go_enter Try.func33, Try.ntmps33
  go_wp2_with (first
    | (go_at_call 25; refine (Hat.out _ HB0.out).mono ?_; rintro e w1 ⟨rfl, hd1⟩; have hb1 := hd1.below; have k1 := Blk.below HB.out hb1 l0; have y0 := k1.cell 0; have y1 := k1.cell 1; simp at y0 y1))
  go_ret
  exact ⟨rfl, bt HB0.out hb1⟩
set_option maxHeartbeats 4000000 in
set_option maxRecDepth 100000 in
theorem move_no_s (p g m : Nat) (a i j sd q pr : Int) (bk : Bool) (W : World) (h0 : a ≠ 0) (c0 : W.cell? ⟨p, 0, none⟩ = some (.int .i64 a)) (hs0 : sd < 1 ∨ 2 < sd)
    (hat : ∀ w', Below W.heap.size W w' → Calls Try.prog 25 #[.pointer (some ⟨p, 0, none⟩), .int .i64 i, .int .i64 j] w' fun e w'' => e = .returned (.pointer (some ⟨g, m * 4, none⟩)) ∧ Drawn0 w' w'') :
    Calls Try.prog 33 #[.pointer (some ⟨p, 0, none⟩), .int .i64 i, .int .i64 j, .int .i64 sd, .agg #[.int .i64 q, .int .i64 pr], .bool bk] W fun e w' => e = .returned (.int .i64 2) ∧ Below W.heap.size W w' := by
  have hlt : p < W.heap.size := World.block_lt_of_cell? W _ c0
  have hne : (a == 0) = false := by simpa using h0
  have hb0 : Below W.heap.size W (W.alloc (.cells #[.int .i64 q, .int .i64 pr] 62)) := (Below.refl _ W).alloc (Nat.le_refl _) _
  have hB := Blk.new W 62 #[.int .i64 q, .int .i64 pr]
  have hs := fun w => pw_no sd 1 2 hs0 w
  have Hs := Lib.hid hs
  clear hs
  have Hat := Lib.hid hat
  have HB0 := Lib.hid hb0
  have HB := Lib.hid hB
  have l0 : W.heap.size < (W.alloc (.cells #[.int .i64 q, .int .i64 pr] 62)).heap.size := by simp
  clear hat hb0 hB h0
  go_enter Try.func33, Try.ntmps33
  go_wp2_with (first
    | (go_at_call 25; refine (Hat.out _ HB0.out).mono ?_; rintro e w1 ⟨rfl, hd1⟩; have hb1 := hd1.below; have k1 := Blk.below HB.out hb1 l0; have y0 := k1.cell 0; have y1 := k1.cell 1; simp at y0 y1)
    | (go_at_call 18; first | ((with_reducible refine (Hs.out _).mono ?_); rintro e w' ⟨rfl, rfl⟩)))
  go_ret
  exact ⟨rfl, bt HB0.out hb1⟩
set_option maxHeartbeats 4000000 in
set_option maxRecDepth 100000 in
theorem move_no_q (p g m : Nat) (a i j sd q pr : Int) (bk : Bool) (W : World) (h0 : a ≠ 0) (c0 : W.cell? ⟨p, 0, none⟩ = some (.int .i64 a)) (hs0 : 1 ≤ sd) (hs1 : sd ≤ 2) (hq0 : q < 1 ∨ 1099511627776 < q)
    (hat : ∀ w', Below W.heap.size W w' → Calls Try.prog 25 #[.pointer (some ⟨p, 0, none⟩), .int .i64 i, .int .i64 j] w' fun e w'' => e = .returned (.pointer (some ⟨g, m * 4, none⟩)) ∧ Drawn0 w' w'') :
    Calls Try.prog 33 #[.pointer (some ⟨p, 0, none⟩), .int .i64 i, .int .i64 j, .int .i64 sd, .agg #[.int .i64 q, .int .i64 pr], .bool bk] W fun e w' => e = .returned (.int .i64 2) ∧ Below W.heap.size W w' := by
  have hlt : p < W.heap.size := World.block_lt_of_cell? W _ c0
  have hne : (a == 0) = false := by simpa using h0
  have hb0 : Below W.heap.size W (W.alloc (.cells #[.int .i64 q, .int .i64 pr] 62)) := (Below.refl _ W).alloc (Nat.le_refl _) _
  have hB := Blk.new W 62 #[.int .i64 q, .int .i64 pr]
  have hs := fun w => pw_yes sd 1 2 hs0 hs1 w
  have Hs := Lib.hid hs
  clear hs
  have hq := fun w => pw_no q 1 1099511627776 hq0 w
  have Hq := Lib.hid hq
  clear hq
  have Hat := Lib.hid hat
  have HB0 := Lib.hid hb0
  have HB := Lib.hid hB
  have l0 : W.heap.size < (W.alloc (.cells #[.int .i64 q, .int .i64 pr] 62)).heap.size := by simp
  clear hat hb0 hB h0
  go_enter Try.func33, Try.ntmps33
  go_wp2_with (first
    | (go_at_call 25; refine (Hat.out _ HB0.out).mono ?_; rintro e w1 ⟨rfl, hd1⟩; have hb1 := hd1.below; have k1 := Blk.below HB.out hb1 l0; have y0 := k1.cell 0; have y1 := k1.cell 1; simp at y0 y1)
    | (go_at_call 18; first | ((with_reducible refine (Hs.out _).mono ?_); rintro e w' ⟨rfl, rfl⟩) | ((with_reducible refine (Hq.out _).mono ?_); rintro e w' ⟨rfl, rfl⟩)))
  go_ret
  exact ⟨rfl, bt HB0.out hb1⟩
set_option maxHeartbeats 4000000 in
set_option maxRecDepth 100000 in
theorem move_no_p (p g m : Nat) (a i j sd q pr : Int) (bk : Bool) (W : World) (h0 : a ≠ 0) (c0 : W.cell? ⟨p, 0, none⟩ = some (.int .i64 a)) (hs0 : 1 ≤ sd) (hs1 : sd ≤ 2) (hq0 : 1 ≤ q) (hq1 : q ≤ 1099511627776) (hp0 : pr < 1 ∨ 1099511627776 < pr)
    (hat : ∀ w', Below W.heap.size W w' → Calls Try.prog 25 #[.pointer (some ⟨p, 0, none⟩), .int .i64 i, .int .i64 j] w' fun e w'' => e = .returned (.pointer (some ⟨g, m * 4, none⟩)) ∧ Drawn0 w' w'') :
    Calls Try.prog 33 #[.pointer (some ⟨p, 0, none⟩), .int .i64 i, .int .i64 j, .int .i64 sd, .agg #[.int .i64 q, .int .i64 pr], .bool bk] W fun e w' => e = .returned (.int .i64 2) ∧ Below W.heap.size W w' := by
  have hlt : p < W.heap.size := World.block_lt_of_cell? W _ c0
  have hne : (a == 0) = false := by simpa using h0
  have hb0 : Below W.heap.size W (W.alloc (.cells #[.int .i64 q, .int .i64 pr] 62)) := (Below.refl _ W).alloc (Nat.le_refl _) _
  have hB := Blk.new W 62 #[.int .i64 q, .int .i64 pr]
  have hs := fun w => pw_yes sd 1 2 hs0 hs1 w
  have Hs := Lib.hid hs
  clear hs
  have hq := fun w => pw_yes q 1 1099511627776 hq0 hq1 w
  have Hq := Lib.hid hq
  clear hq
  have hp := fun w => pw_no pr 1 1099511627776 hp0 w
  have Hp := Lib.hid hp
  clear hp
  have Hat := Lib.hid hat
  have HB0 := Lib.hid hb0
  have HB := Lib.hid hB
  have l0 : W.heap.size < (W.alloc (.cells #[.int .i64 q, .int .i64 pr] 62)).heap.size := by simp
  clear hat hb0 hB h0
  go_enter Try.func33, Try.ntmps33
  go_wp2_with (first
    | (go_at_call 25; refine (Hat.out _ HB0.out).mono ?_; rintro e w1 ⟨rfl, hd1⟩; have hb1 := hd1.below; have k1 := Blk.below HB.out hb1 l0; have y0 := k1.cell 0; have y1 := k1.cell 1; simp at y0 y1)
    | (go_at_call 18; first | ((with_reducible refine (Hs.out _).mono ?_); rintro e w' ⟨rfl, rfl⟩) | ((with_reducible refine (Hq.out _).mono ?_); rintro e w' ⟨rfl, rfl⟩) | ((with_reducible refine (Hp.out _).mono ?_); rintro e w' ⟨rfl, rfl⟩)))
  go_ret
  exact ⟨rfl, bt HB0.out hb1⟩
set_option maxHeartbeats 4000000 in
set_option maxRecDepth 100000 in
theorem move_no_w (p g m : Nat) (a i j sd q pr wv er : Int) (bk : Bool) (W : World) (h0 : a ≠ 0) (c0 : W.cell? ⟨p, 0, none⟩ = some (.int .i64 a)) (hs0 : 1 ≤ sd) (hs1 : sd ≤ 2) (hq0 : 1 ≤ q) (hq1 : q ≤ 1099511627776) (hp0 : 1 ≤ pr) (hp1 : pr ≤ 1099511627776) (he : er ≠ 0)
    (hw : ∀ w', Calls Try.prog 14 #[.int .i64 q, .int .i64 pr] w' fun e w'' => e = .returned (.tuple #[.int .i64 wv, .int .i64 er]) ∧ Below w'.heap.size w' w'')
    (hat : ∀ w', Below W.heap.size W w' → Calls Try.prog 25 #[.pointer (some ⟨p, 0, none⟩), .int .i64 i, .int .i64 j] w' fun e w'' => e = .returned (.pointer (some ⟨g, m * 4, none⟩)) ∧ Drawn0 w' w'') :
    Calls Try.prog 33 #[.pointer (some ⟨p, 0, none⟩), .int .i64 i, .int .i64 j, .int .i64 sd, .agg #[.int .i64 q, .int .i64 pr], .bool bk] W fun e w' => e = .returned (.int .i64 er) ∧ Below W.heap.size W w' := by
  have hlt : p < W.heap.size := World.block_lt_of_cell? W _ c0
  have hne : (a == 0) = false := by simpa using h0
  have hb0 : Below W.heap.size W (W.alloc (.cells #[.int .i64 q, .int .i64 pr] 62)) := (Below.refl _ W).alloc (Nat.le_refl _) _
  have hB := Blk.new W 62 #[.int .i64 q, .int .i64 pr]
  have hs := fun w => pw_yes sd 1 2 hs0 hs1 w
  have Hs := Lib.hid hs
  clear hs
  have hq := fun w => pw_yes q 1 1099511627776 hq0 hq1 w
  have Hq := Lib.hid hq
  clear hq
  have hp := fun w => pw_yes pr 1 1099511627776 hp0 hp1 w
  have Hp := Lib.hid hp
  clear hp
  have he2 : (er == 0) = false := by simpa using he
  have Hw := Lib.hid hw
  clear hw
  have Hat := Lib.hid hat
  have HB0 := Lib.hid hb0
  have HB := Lib.hid hB
  have l0 : W.heap.size < (W.alloc (.cells #[.int .i64 q, .int .i64 pr] 62)).heap.size := by simp
  clear hat hb0 hB h0
  go_enter Try.func33, Try.ntmps33
  go_wp2_with (first
    | (go_at_call 25; refine (Hat.out _ HB0.out).mono ?_; rintro e w1 ⟨rfl, hd1⟩; have hb1 := hd1.below; have k1 := Blk.below HB.out hb1 l0; have y0 := k1.cell 0; have y1 := k1.cell 1; simp at y0 y1)
    | (go_at_call 18; first | ((with_reducible refine (Hs.out _).mono ?_); rintro e w' ⟨rfl, rfl⟩) | ((with_reducible refine (Hq.out _).mono ?_); rintro e w' ⟨rfl, rfl⟩) | ((with_reducible refine (Hp.out _).mono ?_); rintro e w' ⟨rfl, rfl⟩))
    | (go_at_call 14; refine (Hw.out _).mono ?_; rintro e w2 ⟨rfl, hb2⟩))
  go_ret
  exact ⟨rfl, bt (bt HB0.out hb1) hb2⟩
end Go.Proofs.Ytenlifjfehnldaa.Hand
