/- position: a table of lines, made, and what is in it; walked. -/
import Derived.Test.YtenlifjfehnldaaBlk
import Derived.Test.YtenlifjfehnldaaHandE
import Derived.Laws.MakeOwn
import Derived.Laws.OwnMore
set_option linter.unusedVariables false
set_option linter.unusedSimpArgs false
namespace Go.Proofs.Ytenlifjfehnldaa.Hand
open Go Go.RowKit Go.Proofs.YtenlifjfehnldaaW.PrintWords Go.Proofs.YtenlifjfehnldaaW.PrintMore Go.Proofs.Ytenlifjfehnldaa.RL
theorem made_zeros (z : Array Value) (n : Nat) (h : ∀ i, i < z.size → z[i]! = .int .i64 0) (hz : 0 < z.size) : madeCells z n = ints (List.replicate n 0) := by
  apply Array.ext
  · simp [madeCells, ints]
  · intro i h1 h2
    have : i % z.size < z.size := Nat.mod_lt _ hz
    simp [madeCells, ints]
    have := h _ this
    simpa using this
theorem make_lines (n : Nat) (hn : n ≤ 256) (w : World) : (Instr.makeSlice 46 (.int .i64 n) (.int .i64 n)).run Try.prog w = .ok (.slice (some ⟨w.heap.size, 0, none⟩) n n) (w.alloc (.cells (ints (List.replicate (n * 4) 0)) 71)) := by
  have info : (Try.prog.info? 71).map (fun i => (i.zero, i.size, i.bytes)) = some (some (.agg #[.int .i64 0, .int .i64 0, .int .i64 0, .int .i64 0]), 4, 32) := by kernel_rfl
  obtain ⟨i0, hi, hz0, hz1, hz2⟩ := info_parts info
  have := run_makeSlice (P := Try.prog) (w := w) 46 71 i0 _ Try.underlying46 hi hz0 .i64 .i64 (n : Int) (n : Int) (by omega) (Int.le_refl _) (by rw [hz1]; omega) (by rw [hz2]; omega) (by omega)
  rw [this, hz1]
  have e : (Value.agg #[.int .i64 0, .int .i64 0, .int .i64 0, .int .i64 0]).cells = #[.int .i64 0, .int .i64 0, .int .i64 0, .int .i64 0] := by kernel_rfl
  rw [e, made_zeros _ _ (by intro i hi; rcases i with _ | _ | _ | _ | i <;> first | rfl | exact absurd (show i + 1 + 1 + 1 + 1 < 4 from hi) (by omega)) (by decide)]
  rfl
theorem pw_yes (n a b : Int) (h : a ≤ n) (h2 : n ≤ b) (w : World) : Calls Try.prog 18 #[.int .i64 n, .int .i64 a, .int .i64 b] w fun e w' => e = .returned (.bool true) ∧ w = w' := by
  go_enter Try.func18, Try.ntmps18
  go_wp2
  go_ret
  exact ⟨rfl, rfl⟩
theorem pw_no (n a b : Int) (h : n < a ∨ b < n) (w : World) : Calls Try.prog 18 #[.int .i64 n, .int .i64 a, .int .i64 b] w fun e w' => e = .returned (.bool false) ∧ w = w' := by
  by_cases h1 : n < a
  · go_enter Try.func18, Try.ntmps18
    go_wp2
    go_ret
    exact ⟨rfl, rfl⟩
  · have h2 : b < n := by omega
    have h3 : a ≤ n := by omega
    clear h h1
    go_enter Try.func18, Try.ntmps18
    go_wp2
    go_ret
    exact ⟨show Ending.returned (.bool (decide (n ≤ b))) = _ by rw [decide_eq_false (by omega)], rfl⟩
set_option maxHeartbeats 1000000 in
set_option maxRecDepth 100000 in
theorem pnew_ok (a s : Nat) (h1 : 1 ≤ a) (h2 : a ≤ 16) (h3 : 1 ≤ s) (h4 : s ≤ 16) (w : World) :
    Calls Try.prog 7 #[.int .i64 a, .int .i64 s] w fun e w' => e = .returned (.tuple #[.pointer (some ⟨w.heap.size + 1, 0, none⟩), .int .i64 0]) ∧ w' = (w.alloc (.cells (ints (List.replicate (a * s * 4) 0)) 71)).alloc (.cells #[.int .i64 a, .int .i64 s, .slice (some ⟨w.heap.size, 0, none⟩) (a * s) (a * s)] 48) := by
  have hms : a * s ≤ 16 * 16 := Nat.mul_le_mul h2 h4
  generalize hn : a * s = n at *
  have hp : (a : Int) * (s : Int) = (n : Int) := by rw [← hn, Int.natCast_mul]
  have hm := fun w => make_lines n (by omega) w
  have ha := fun w => pw_yes (a : Int) 1 16 (by omega) (by omega) w
  have hs := fun w => pw_yes (s : Int) 1 16 (by omega) (by omega) w
  have Ha := Lib.hid ha
  have Hs := Lib.hid hs
  have hn2 : n ≤ 256 := hms
  clear ha hs hn hms
  go_enter Try.func7, Try.ntmps7
  go_wp2_with (go_at_call 18; first | ((with_reducible refine (Ha.out _).mono ?_); rintro e w' ⟨rfl, rfl⟩) | ((with_reducible refine (Hs.out _).mono ?_); rintro e w' ⟨rfl, rfl⟩))
  go_ret2
  exact ⟨rfl, rfl⟩
set_option maxHeartbeats 2000000 in
set_option maxRecDepth 100000 in
theorem at_ok (p g a s i j n : Nat) (hn : a * s = n) (hi : i < a) (hj : j < s) (ha : a ≤ 16) (hs : s ≤ 16) (W : World) (hp : Blk W p 48 #[.int .i64 a, .int .i64 s, .slice (some ⟨g, 0, none⟩) n n]) :
    Calls Try.prog 25 #[.pointer (some ⟨p, 0, none⟩), .int .i64 i, .int .i64 j] W fun e w' => e = .returned (.pointer (some ⟨g, (i * s + j) * 4, none⟩)) ∧ Drawn0 W w' := by
  have c0 : W.cell? ⟨p, 0, none⟩ = some (.int .i64 a) := hp.cell 0
  have c1 : W.cell? ⟨p, 1, none⟩ = some (.int .i64 s) := hp.cell 1
  have c2 : W.cell? ⟨p, 2, none⟩ = some (.slice (some ⟨g, 0, none⟩) n n) := hp.cell 2
  have hms : a * s ≤ 16 * 16 := Nat.mul_le_mul ha hs
  have hi2 : (i + 1) * s ≤ a * s := Nat.mul_le_mul_right s hi
  rw [Nat.add_mul, Nat.one_mul] at hi2
  generalize hm : i * s = m at *
  have hpr : (i : Int) * (s : Int) = (m : Int) := by rw [← hm, Int.natCast_mul]
  have hlt : m + j < n := by omega
  have hn2 : n ≤ 256 := by omega
  have hx := fun w => pw_yes (i : Int) 0 ((a : Int) - 1) (by omega) (by omega) w
  have hy := fun w => pw_yes (j : Int) 0 ((s : Int) - 1) (by omega) (by omega) w
  have Hx := Lib.hid hx
  have Hy := Lib.hid hy
  have hlt2 : (m : Int) + (j : Int) < (n : Int) := by omega
  clear hx hy hn hm hms hi2 hp
  go_enter Try.func25, Try.ntmps25
  go_wp2_with (go_at_call 18; first | ((with_reducible refine (Hx.out _).mono ?_); rintro e w' ⟨rfl, rfl⟩) | ((with_reducible refine (Hy.out _).mono ?_); rintro e w' ⟨rfl, rfl⟩))
  go_region
  all_goals
    go_wp2_with fail
    go_ret
    exact ⟨rfl, ⟨1, rfl⟩⟩
theorem drawn_cell {w w' : World} (h : Drawn0 w w') (a : Addr) : w'.cell? a = w.cell? a := by obtain ⟨⟨n, rfl⟩⟩ := h; rfl
set_option maxHeartbeats 2000000 in
set_option maxRecDepth 100000 in
theorem at_nil (i j : Int) (W : World) : Calls Try.prog 25 #[.pointer none, .int .i64 i, .int .i64 j] W fun e w' => e = .returned (.pointer none) ∧ W = w' := by
  go_enter Try.func25, Try.ntmps25
  go_wp2_with fail
  go_ret
  exact ⟨rfl, rfl⟩
set_option maxHeartbeats 2000000 in
set_option maxRecDepth 100000 in
theorem at_no (p a s : Nat) (i j : Int) (h : (i < 0 ∨ (a : Int) ≤ i) ∨ (0 ≤ i ∧ i ≤ (a : Int) - 1 ∧ (j < 0 ∨ (s : Int) ≤ j))) (ha : a ≤ 16) (hs : s ≤ 16) (W : World) (c0 : W.cell? ⟨p, 0, none⟩ = some (.int .i64 a)) (c1 : W.cell? ⟨p, 1, none⟩ = some (.int .i64 s)) :
    Calls Try.prog 25 #[.pointer (some ⟨p, 0, none⟩), .int .i64 i, .int .i64 j] W fun e w' => e = .returned (.pointer none) ∧ W = w' := by
  rcases h with h | ⟨h1, h2, h⟩
  · have hx := fun w => pw_no i 0 ((a : Int) - 1) (by omega) w
    have Hx := Lib.hid hx
    clear hx h
    go_enter Try.func25, Try.ntmps25
    go_wp2_with (go_at_call 18; refine (Hx.out _).mono ?_; rintro e w' ⟨rfl, rfl⟩)
    go_ret
    exact ⟨rfl, rfl⟩
  · have hx := fun w => pw_yes i 0 ((a : Int) - 1) h1 h2 w
    have hy := fun w => pw_no j 0 ((s : Int) - 1) (by omega) w
    have Hx := Lib.hid hx
    have Hy := Lib.hid hy
    clear hx hy h
    go_enter Try.func25, Try.ntmps25
    go_wp2_with (go_at_call 18; first | ((with_reducible refine (Hx.out _).mono ?_); rintro e w' ⟨rfl, rfl⟩) | ((with_reducible refine (Hy.out _).mono ?_); rintro e w' ⟨rfl, rfl⟩))
    go_ret
    exact ⟨rfl, rfl⟩
set_option maxHeartbeats 2000000 in
set_option maxRecDepth 100000 in
theorem bought_ok (P : Value) (i j x y : Int) (g m : Nat) (W : World)
    (hat : Calls Try.prog 25 #[P, .int .i64 i, .int .i64 j] W fun e w' => e = .returned (.pointer (some ⟨g, m * 4, none⟩)) ∧ Drawn0 W w')
    (hx : W.cell? ⟨g, m * 4, none⟩ = some (.int .i64 x)) (hy : W.cell? ⟨g, m * 4 + 1, none⟩ = some (.int .i64 y)) :
    Calls Try.prog 11 #[P, .int .i64 i, .int .i64 j] W fun e w' => e = .returned (.tuple #[.int .i64 x, .int .i64 y]) ∧ Drawn0 W w' := by
  have Hat := Lib.hid hat
  have Hx := Lib.hid hx
  have Hy := Lib.hid hy
  clear hat hx hy
  go_enter Try.func11, Try.ntmps11
  go_wp2_with (go_at_call 25; refine (Hat.out).mono ?_; rintro e w1 ⟨rfl, hd⟩; have hx1 := (drawn_cell hd _).trans Hx.out; have hy1 := (drawn_cell hd _).trans Hy.out)
  go_region
  all_goals
    go_wp2_with fail
    go_ret2
    exact ⟨rfl, hd.step 1⟩
set_option maxHeartbeats 2000000 in
set_option maxRecDepth 100000 in
theorem sold_ok (P : Value) (i j x y : Int) (g m : Nat) (W : World)
    (hat : Calls Try.prog 25 #[P, .int .i64 i, .int .i64 j] W fun e w' => e = .returned (.pointer (some ⟨g, m * 4, none⟩)) ∧ Drawn0 W w')
    (hx : W.cell? ⟨g, m * 4 + 2, none⟩ = some (.int .i64 x)) (hy : W.cell? ⟨g, m * 4 + 3, none⟩ = some (.int .i64 y)) :
    Calls Try.prog 12 #[P, .int .i64 i, .int .i64 j] W fun e w' => e = .returned (.tuple #[.int .i64 x, .int .i64 y]) ∧ Drawn0 W w' := by
  have Hat := Lib.hid hat
  have Hx := Lib.hid hx
  have Hy := Lib.hid hy
  clear hat hx hy
  go_enter Try.func12, Try.ntmps12
  go_wp2_with (go_at_call 25; refine (Hat.out).mono ?_; rintro e w1 ⟨rfl, hd⟩; have hx1 := (drawn_cell hd _).trans Hx.out; have hy1 := (drawn_cell hd _).trans Hy.out)
  go_region
  all_goals
    go_wp2_with fail
    go_ret2
    exact ⟨rfl, hd.step 1⟩
set_option maxHeartbeats 1000000 in
theorem bought_no (P : Value) (i j : Int) (W : World)
    (hat : Calls Try.prog 25 #[P, .int .i64 i, .int .i64 j] W fun e w' => e = .returned (.pointer none) ∧ W = w') :
    Calls Try.prog 11 #[P, .int .i64 i, .int .i64 j] W fun e w' => e = .returned (.tuple #[.int .i64 0, .int .i64 0]) ∧ W = w' := by
  have Hat := Lib.hid hat
  clear hat
  go_enter Try.func11, Try.ntmps11
  go_wp2_with (go_at_call 25; refine (Hat.out).mono ?_; rintro e w1 ⟨rfl, rfl⟩)
  go_ret2
  exact ⟨rfl, rfl⟩
set_option maxHeartbeats 1000000 in
theorem sold_no (P : Value) (i j : Int) (W : World)
    (hat : Calls Try.prog 25 #[P, .int .i64 i, .int .i64 j] W fun e w' => e = .returned (.pointer none) ∧ W = w') :
    Calls Try.prog 12 #[P, .int .i64 i, .int .i64 j] W fun e w' => e = .returned (.tuple #[.int .i64 0, .int .i64 0]) ∧ W = w' := by
  have Hat := Lib.hid hat
  clear hat
  go_enter Try.func12, Try.ntmps12
  go_wp2_with (go_at_call 25; refine (Hat.out).mono ?_; rintro e w1 ⟨rfl, rfl⟩)
  go_ret2
  exact ⟨rfl, rfl⟩
set_option maxHeartbeats 1000000 in
theorem net_ok (P : Value) (i j a b c d : Int) (W : World)
    (hb : ∀ w', Drawn0 W w' → Calls Try.prog 11 #[P, .int .i64 i, .int .i64 j] w' fun e w'' => e = .returned (.tuple #[.int .i64 a, .int .i64 b]) ∧ Drawn0 w' w'')
    (hs : ∀ w', Drawn0 W w' → Calls Try.prog 12 #[P, .int .i64 i, .int .i64 j] w' fun e w'' => e = .returned (.tuple #[.int .i64 c, .int .i64 d]) ∧ Drawn0 w' w'') :
    Calls Try.prog 17 #[P, .int .i64 i, .int .i64 j] W fun e w' => e = .returned (.int .i64 (wrap64 (a - c))) ∧ Drawn0 W w' := by
  have Hb := Lib.hid hb
  have Hs := Lib.hid hs
  have Hd0 := Lib.hid (Drawn0.refl W)
  clear hb hs
  go_enter Try.func17, Try.ntmps17
  go_wp2_with (first | (go_at_call 11; refine (Hb.out _ Hd0.out).mono ?_; rintro e w1 ⟨rfl, hd1⟩) | (go_at_call 12; refine (Hs.out _ hd1).mono ?_; rintro e w2 ⟨rfl, hd2⟩))
  trace_state
  go_ret
  refine ⟨rfl, ?_⟩
  obtain ⟨⟨n, rfl⟩⟩ := hd1
  obtain ⟨⟨m, rfl⟩⟩ := hd2
  exact ⟨n + m, World.drewN_drewN ..⟩
set_option maxHeartbeats 1000000 in
theorem net_no (P : Value) (i j : Int) (W : World)
    (hb : Calls Try.prog 11 #[P, .int .i64 i, .int .i64 j] W fun e w' => e = .returned (.tuple #[.int .i64 0, .int .i64 0]) ∧ W = w')
    (hs : Calls Try.prog 12 #[P, .int .i64 i, .int .i64 j] W fun e w' => e = .returned (.tuple #[.int .i64 0, .int .i64 0]) ∧ W = w') :
    Calls Try.prog 17 #[P, .int .i64 i, .int .i64 j] W fun e w' => e = .returned (.int .i64 0) ∧ W = w' := by
  have Hb := Lib.hid hb
  have Hs := Lib.hid hs
  clear hb hs
  go_enter Try.func17, Try.ntmps17
  go_wp2_with (first | (go_at_call 11; refine (Hb.out).mono ?_; rintro e w1 ⟨rfl, rfl⟩) | (go_at_call 12; refine (Hs.out).mono ?_; rintro e w2 ⟨rfl, rfl⟩))
  go_ret
  exact ⟨rfl, rfl⟩
end Go.Proofs.Ytenlifjfehnldaa.Hand
