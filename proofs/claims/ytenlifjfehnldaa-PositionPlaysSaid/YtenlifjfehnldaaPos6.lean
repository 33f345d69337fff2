/- position: a move of a table, as a whole. -/
import Derived.Test.YtenlifjfehnldaaPos3
import Derived.Test.YtenlifjfehnldaaPos4
set_option linter.unusedVariables false
set_option linter.unusedSimpArgs false
namespace Go.Proofs.Ytenlifjfehnldaa.Hand
open Go Go.RowKit Go.Proofs.YtenlifjfehnldaaW.PrintWords Go.Proofs.YtenlifjfehnldaaW.PrintMore Go.Proofs.Ytenlifjfehnldaa.RL Go.Proofs.Ytenlifjfehnldaa.PL
set_option maxHeartbeats 8000000 in
set_option maxRecDepth 100000 in
theorem plus_er (tq tw q v x1 e1 x2 e2 : Int) (h : e1 = 10 ∨ (e1 = 0 ∧ e2 = 10) ∨ (e1 = 0 ∧ e2 = 0 ∧ x1 < 0) ∨ (e1 = 0 ∧ e2 = 0 ∧ 0 ≤ x1 ∧ x2 < 0)) (w : World)
    (ha : ∀ w', Calls Try.prog 53 #[.int .i64 tq, .int .i64 q] w' fun e w'' => e = .returned (.tuple #[.int .i64 x1, .int .i64 e1]) ∧ Below w'.heap.size w' w'')
    (hb : ∀ w', Calls Try.prog 53 #[.int .i64 tw, .int .i64 v] w' fun e w'' => e = .returned (.tuple #[.int .i64 x2, .int .i64 e2]) ∧ Below w'.heap.size w' w'') :
    Calls Try.prog 46 #[.agg #[.int .i64 tq, .int .i64 tw], .int .i64 q, .int .i64 v] w fun e w' => e = .returned (.tuple #[.agg #[.int .i64 tq, .int .i64 tw], .int .i64 10]) ∧ Below w.heap.size w w' := by
  have B0 := (Blk.new w 62 #[.int .i64 tq, .int .i64 tw]).alloc (.cells #[.int .i64 0, .int .i64 0] 62)
  have B1 := Blk.new (w.alloc (.cells #[.int .i64 tq, .int .i64 tw] 62)) 62 #[.int .i64 0, .int .i64 0]
  simp only [World.size_alloc] at B1
  have hB : Below w.heap.size w ((w.alloc (.cells #[.int .i64 tq, .int .i64 tw] 62)).alloc (.cells #[.int .i64 0, .int .i64 0] 62)) := ((Below.refl _ w).alloc (Nat.le_refl _) _).alloc (by simp) _
  have Ha := Lib.hid ha
  have Hb := Lib.hid hb
  have H0 := Lib.hid B0
  have H1 := Lib.hid B1
  have HB := Lib.hid hB
  clear ha hb B0 B1 hB
  rcases h with rfl | ⟨rfl, rfl⟩ | ⟨rfl, rfl, h⟩ | ⟨rfl, rfl, h, h'⟩
  · go_enter Try.func46, Try.ntmps46
    go_wp2_with (go_at_call 53; first
      | ((with_reducible refine (Ha.out _).mono ?_); rintro e w1 ⟨rfl, hb1⟩; have k0 := Blk.below H0.out hb1 H0.out.lt; have k1 := Blk.below H1.out hb1 H1.out.lt; have y0 := k0.cell 0; have y1 := k0.cell 1; have z0 := k1.cell 0; have z1 := k1.cell 1; simp at y0 y1 z0 z1; have f0 := k1.frozen 0; have f1 := k1.frozen 1))
    have e0 := ((k1.put 0 (.int .i64 tq)).put 1 (.int .i64 tw)).cell 0
    have e1 := ((k1.put 0 (.int .i64 tq)).put 1 (.int .i64 tw)).cell 1
    simp at e0 e1
    exact bodyPost_ret (v := _) (by simp [results, Try.results46, go_sem, e0, e1]) rfl ⟨rfl, ((bt HB.out hb1).setCell (p := ⟨w.heap.size + 1, 0, none⟩) (by show w.heap.size ≤ w.heap.size + 1; omega) _).setCell (p := ⟨w.heap.size + 1, 1, none⟩) (by show w.heap.size ≤ w.heap.size + 1; omega) _⟩
  all_goals
    go_enter Try.func46, Try.ntmps46
    go_wp2_with (go_at_call 53; first
      | ((with_reducible refine (Ha.out _).mono ?_); rintro e w1 ⟨rfl, hb1⟩; have k0 := Blk.below H0.out hb1 H0.out.lt; have k1 := Blk.below H1.out hb1 H1.out.lt; have y0 := k0.cell 0; have y1 := k0.cell 1; simp at y0 y1)
      | ((with_reducible refine (Hb.out _).mono ?_); rintro e w2 ⟨rfl, hb2⟩; have m0 := Blk.below k0 hb2 k0.lt; have m1 := Blk.below k1 hb2 k1.lt; have x0 := m0.cell 0; have x1' := m0.cell 1; have z0 := m1.cell 0; have z1 := m1.cell 1; simp at x0 x1' z0 z1; have f0 := m1.frozen 0; have f1 := m1.frozen 1))
    have e0 := ((m1.put 0 (.int .i64 tq)).put 1 (.int .i64 tw)).cell 0
    have e1 := ((m1.put 0 (.int .i64 tq)).put 1 (.int .i64 tw)).cell 1
    simp at e0 e1
    exact bodyPost_ret (v := _) (by simp [results, Try.results46, go_sem, e0, e1]) rfl ⟨rfl, ((bt (bt HB.out hb1) hb2).setCell (p := ⟨w.heap.size + 1, 0, none⟩) (by show w.heap.size ≤ w.heap.size + 1; omega) _).setCell (p := ⟨w.heap.size + 1, 1, none⟩) (by show w.heap.size ≤ w.heap.size + 1; omega) _⟩
/-- A tally and so much more, from 0 to the end of 64 bits. -/
def plusS (tq tw q v : Int) : Option (Int × Int) := if (0 ≤ tq + q ∧ tq + q ≤ 9223372036854775807) ∧ 0 ≤ tw + v ∧ tw + v ≤ 9223372036854775807 then some (tq + q, tw + v) else none
theorem add_any (a b : Int) (ha : in64 a) (hb : in64 b) (w : World) : Calls Try.prog 53 #[.int .i64 a, .int .i64 b] w fun e w'' => e = .returned (.tuple #[.int .i64 (tell (a + b)).1, .int .i64 (tell (a + b)).2]) ∧ Below w.heap.size w w'' :=
  (checked_Add.calls a b _ _ w (add_is a b ha hb)).mono fun e w' ⟨h, hd⟩ => ⟨h, hd.below⟩
theorem plus_some {tq tw q v r1 r2 : Int} (h1 : in64 tq) (h2 : in64 tw) (h3 : in64 q) (h4 : in64 v) (h : plusS tq tw q v = some (r1, r2)) (w : World) :
    Calls Try.prog 46 #[.agg #[.int .i64 tq, .int .i64 tw], .int .i64 q, .int .i64 v] w fun e w' => e = .returned (.tuple #[.agg #[.int .i64 r1, .int .i64 r2], .int .i64 0]) ∧ Below w.heap.size w w' := by
  unfold plusS at h
  by_cases c : (0 ≤ tq + q ∧ tq + q ≤ 9223372036854775807) ∧ 0 ≤ tw + v ∧ tw + v ≤ 9223372036854775807
  · rw [if_pos c] at h
    cases h
    exact plus_ok tq tw q v _ _ c.1.1 c.2.1 w (fun w => add_lit tq q h1 h3 (by unfold in64; omega) w) (fun w => add_lit tw v h2 h4 (by unfold in64; omega) w)
  · rw [if_neg c] at h; exact absurd h (by simp)
theorem plus_none {tq tw q v : Int} (h1 : in64 tq) (h2 : in64 tw) (h3 : in64 q) (h4 : in64 v) (h : plusS tq tw q v = none) (w : World) :
    Calls Try.prog 46 #[.agg #[.int .i64 tq, .int .i64 tw], .int .i64 q, .int .i64 v] w fun e w' => e = .returned (.tuple #[.agg #[.int .i64 tq, .int .i64 tw], .int .i64 10]) ∧ Below w.heap.size w w' := by
  unfold plusS at h
  by_cases c : (0 ≤ tq + q ∧ tq + q ≤ 9223372036854775807) ∧ 0 ≤ tw + v ∧ tw + v ≤ 9223372036854775807
  · rw [if_pos c] at h; exact absurd h (by simp)
  · refine plus_er tq tw q v _ _ _ _ ?_ w (add_any tq q h1 h3) (add_any tw v h2 h4)
    by_cases d1 : in64 (tq + q)
    · rw [tell_in d1]
      by_cases d2 : in64 (tw + v)
      · rw [tell_in d2]
        unfold in64 at d1 d2
        by_cases d3 : tq + q < 0
        · exact .inr (.inr (.inl ⟨rfl, rfl, d3⟩))
        · exact .inr (.inr (.inr ⟨rfl, rfl, by show 0 ≤ tq + q; omega, by show tw + v < 0; omega⟩))
      · rw [tell_out d2]; exact .inr (.inl ⟨rfl, rfl⟩)
    · rw [tell_out d1]; exact .inl rfl
end Go.Proofs.Ytenlifjfehnldaa.Hand
