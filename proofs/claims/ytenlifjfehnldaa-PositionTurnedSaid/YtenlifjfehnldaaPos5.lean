/- position.move, walked: what it refuses ahead of plus (printed by posref.py). -/
import Derived.Test.YtenlifjfehnldaaPos2
set_option linter.unusedVariables false
set_option linter.unusedSimpArgs false
namespace Go.Proofs.Ytenlifjfehnldaa.Hand
open Go Go.RowKit Go.Proofs.YtenlifjfehnldaaW.PrintWords Go.Proofs.YtenlifjfehnldaaW.PrintMore Go.Proofs.Ytenlifjfehnldaa.RL
set_option maxHeartbeats 4000000 in
set_option maxRecDepth 100000 in
theorem move_at (p g m : Nat) (a i j sd q pr : Int) (bk : Bool) (W : World) (h0 : a ≠ 0) (c0 : W.cell? ⟨p, 0, none⟩ = some (.int .i64 a))
    (hat : ∀ w', Below W.heap.size W w' → Calls Try.prog 25 #[.pointer (some ⟨p, 0, none⟩), .int .i64 i, .int .i64 j] w' fun e w'' => e = .returned (.pointer none) ∧ Drawn0 w' w'') :
    Calls Try.prog 33 #[.pointer (some ⟨p, 0, none⟩), .int .i64 i, .int .i64 j, .int .i64 sd, .agg #[.int .i64 q, .int .i64 pr], .bool bk] W fun e w' => e = .returned (.int .i64 2) ∧ Below W.heap.size W w' := by
  have hlt : p < W.heap.size := World.block_lt_of_cell? W _ c0
  have hne : (a == 0) = false := by simpa using h0
  have hb0 : Below W.heap.size W (W.alloc (.cells #[.int .i64 q, .int .i64 pr] 62)) := (Below.refl _ W).alloc (Nat.le_refl _) _
  have hB := Blk.new W 62 #[.int .i64 q, .int .i64 pr]
  have Hat := Lib.hid hat
  have HB0 := Lib.hid hb0
  have HB := Lib.hid hB
  have l0 : W.heap.size < (W.alloc (.cells #[.int .i64 q, .int .i64 pr] 62)).heap.size := by simp
  clear hat hb0 hB h0
  go_enter Try.func33, Try.ntmps33
  go_wp2_with (first
    | (go_at_call 25; refine (Hat.out _ HB0.out).mono ?_; rintro e w1 ⟨rfl, hd1⟩; have hb1 := hd1.below; have k1 := Blk.below HB.out hb1 l0; have y0 := k1.cell 0; have y1 := k1.cell 1; simp at y0 y1))
  go_ret
  exact ⟨rfl, bt HB0.out hb1⟩
set_option maxHeartbeats 4000000 in
set_option maxRecDepth 100000 in
theorem move_no_s (p g m : Nat) (a i j sd q pr : Int) (bk : Bool) (W : World) (h0 : a ≠ 0) (c0 : W.cell? ⟨p, 0, none⟩ = some (.int .i64 a)) (hs0 : sd < 1 ∨ 2 < sd)
    (hat : ∀ w', Below W.heap.size W w' → Calls Try.prog 25 #[.pointer (some ⟨p, 0, none⟩), .int .i64 i, .int .i64 j] w' fun e w'' => e = .returned (.pointer (some ⟨g, m * 4, none⟩)) ∧ Drawn0 w' w'') :
    Calls Try.prog 33 #[.pointer (some ⟨p, 0, none⟩), .int .i64 i, .int .i64 j, .int .i64 sd, .agg #[.int .i64 q, .int .i64 pr], .bool bk] W fun e w' => e = .returned (.int .i64 2) ∧ Below W.heap.size W w' := by
  have hlt : p < W.heap.size := World.block_lt_of_cell? W _ c0
  have hne : (a == 0) = false := by simpa using h0
  have hb0 : Below W.heap.size W (W.alloc (.cells #[.int .i64 q, .int .i64 pr] 62)) := (Below.refl _ W).alloc (Nat.le_refl _) _
  have hB := Blk.new W 62 #[.int .i64 q, .int .i64 pr]
  have hs := fun w => pw_no sd 1 2 hs0 w
  have Hs := Lib.hid hs
  clear hs
  have Hat := Lib.hid hat
  have HB0 := Lib.hid hb0
  have HB := Lib.hid hB
  have l0 : W.heap.size < (W.alloc (.cells #[.int .i64 q, .int .i64 pr] 62)).heap.size := by simp
  clear hat hb0 hB h0
  go_enter Try.func33, Try.ntmps33
  go_wp2_with (first
    | (go_at_call 25; refine (Hat.out _ HB0.out).mono ?_; rintro e w1 ⟨rfl, hd1⟩; have hb1 := hd1.below; have k1 := Blk.below HB.out hb1 l0; have y0 := k1.cell 0; have y1 := k1.cell 1; simp at y0 y1)
    | (go_at_call 18; first | ((with_reducible refine (Hs.out _).mono ?_); rintro e w' ⟨rfl, rfl⟩)))
  go_ret
  exact ⟨rfl, bt HB0.out hb1⟩
set_option maxHeartbeats 4000000 in
set_option maxRecDepth 100000 in
theorem move_no_q (p g m : Nat) (a i j sd q pr : Int) (bk : Bool) (W : World) (h0 : a ≠ 0) (c0 : W.cell? ⟨p, 0, none⟩ = some (.int .i64 a)) (hs0 : 1 ≤ sd) (hs1 : sd ≤ 2) (hq0 : q < 1 ∨ 1099511627776 < q)
    (hat : ∀ w', Below W.heap.size W w' → Calls Try.prog 25 #[.pointer (some ⟨p, 0, none⟩), .int .i64 i, .int .i64 j] w' fun e w'' => e = .returned (.pointer (some ⟨g, m * 4, none⟩)) ∧ Drawn0 w' w'') :
    Calls Try.prog 33 #[.pointer (some ⟨p, 0, none⟩), .int .i64 i, .int .i64 j, .int .i64 sd, .agg #[.int .i64 q, .int .i64 pr], .bool bk] W fun e w' => e = .returned (.int .i64 2) ∧ Below W.heap.size W w' := by
  have hlt : p < W.heap.size := World.block_lt_of_cell? W _ c0
  have hne : (a == 0) = false := by simpa using h0
  have hb0 : Below W.heap.size W (W.alloc (.cells #[.int .i64 q, .int .i64 pr] 62)) := (Below.refl _ W).alloc (Nat.le_refl _) _
  have hB := Blk.new W 62 #[.int .i64 q, .int .i64 pr]
  have hs := fun w => pw_yes sd 1 2 hs0 hs1 w
  have Hs := Lib.hid hs
  clear hs
  have hq := fun w => pw_no q 1 1099511627776 hq0 w
  have Hq := Lib.hid hq
  clear hq
  have Hat := Lib.hid hat
  have HB0 := Lib.hid hb0
  have HB := Lib.hid hB
  have l0 : W.heap.size < (W.alloc (.cells #[.int .i64 q, .int .i64 pr] 62)).heap.size := by simp
  clear hat hb0 hB h0
  go_enter Try.func33, Try.ntmps33
  go_wp2_with (first
    | (go_at_call 25; refine (Hat.out _ HB0.out).mono ?_; rintro e w1 ⟨rfl, hd1⟩; have hb1 := hd1.below; have k1 := Blk.below HB.out hb1 l0; have y0 := k1.cell 0; have y1 := k1.cell 1; simp at y0 y1)
    | (go_at_call 18; first | ((with_reducible refine (Hs.out _).mono ?_); rintro e w' ⟨rfl, rfl⟩) | ((with_reducible refine (Hq.out _).mono ?_); rintro e w' ⟨rfl, rfl⟩)))
  go_ret
  exact ⟨rfl, bt HB0.out hb1⟩
set_option maxHeartbeats 4000000 in
set_option maxRecDepth 100000 in
theorem move_no_p (p g m : Nat) (a i j sd q pr : Int) (bk : Bool) (W : World) (h0 : a ≠ 0) (c0 : W.cell? ⟨p, 0, none⟩ = some (.int .i64 a)) (hs0 : 1 ≤ sd) (hs1 : sd ≤ 2) (hq0 : 1 ≤ q) (hq1 : q ≤ 1099511627776) (hp0 : pr < 1 ∨ 1099511627776 < pr)
    (hat : ∀ w', Below W.heap.size W w' → Calls Try.prog 25 #[.pointer (some ⟨p, 0, none⟩), .int .i64 i, .int .i64 j] w' fun e w'' => e = .returned (.pointer (some ⟨g, m * 4, none⟩)) ∧ Drawn0 w' w'') :
    Calls Try.prog 33 #[.pointer (some ⟨p, 0, none⟩), .int .i64 i, .int .i64 j, .int .i64 sd, .agg #[.int .i64 q, .int .i64 pr], .bool bk] W fun e w' => e = .returned (.int .i64 2) ∧ Below W.heap.size W w' := by
  have hlt : p < W.heap.size := World.block_lt_of_cell? W _ c0
  have hne : (a == 0) = false := by simpa using h0
  have hb0 : Below W.heap.size W (W.alloc (.cells #[.int .i64 q, .int .i64 pr] 62)) := (Below.refl _ W).alloc (Nat.le_refl _) _
  have hB := Blk.new W 62 #[.int .i64 q, .int .i64 pr]
  have hs := fun w => pw_yes sd 1 2 hs0 hs1 w
  have Hs := Lib.hid hs
  clear hs
  have hq := fun w => pw_yes q 1 1099511627776 hq0 hq1 w
  have Hq := Lib.hid hq
  clear hq
  have hp := fun w => pw_no pr 1 1099511627776 hp0 w
  have Hp := Lib.hid hp
  clear hp
  have Hat := Lib.hid hat
  have HB0 := Lib.hid hb0
  have HB := Lib.hid hB
  have l0 : W.heap.size < (W.alloc (.cells #[.int .i64 q, .int .i64 pr] 62)).heap.size := by simp
  clear hat hb0 hB h0
  go_enter Try.func33, Try.ntmps33
  go_wp2_with (first
    | (go_at_call 25; refine (Hat.out _ HB0.out).mono ?_; rintro e w1 ⟨rfl, hd1⟩; have hb1 := hd1.below; have k1 := Blk.below HB.out hb1 l0; have y0 := k1.cell 0; have y1 := k1.cell 1; simp at y0 y1)
    | (go_at_call 18; first | ((with_reducible refine (Hs.out _).mono ?_); rintro e w' ⟨rfl, rfl⟩) | ((with_reducible refine (Hq.out _).mono ?_); rintro e w' ⟨rfl, rfl⟩) | ((with_reducible refine (Hp.out _).mono ?_); rintro e w' ⟨rfl, rfl⟩)))
  go_ret
  exact ⟨rfl, bt HB0.out hb1⟩
set_option maxHeartbeats 4000000 in
set_option maxRecDepth 100000 in
theorem move_no_w (p g m : Nat) (a i j sd q pr wv er : Int) (bk : Bool) (W : World) (h0 : a ≠ 0) (c0 : W.cell? ⟨p, 0, none⟩ = some (.int .i64 a)) (hs0 : 1 ≤ sd) (hs1 : sd ≤ 2) (hq0 : 1 ≤ q) (hq1 : q ≤ 1099511627776) (hp0 : 1 ≤ pr) (hp1 : pr ≤ 1099511627776) (he : er ≠ 0)
    (hw : ∀ w', Calls Try.prog 14 #[.int .i64 q, .int .i64 pr] w' fun e w'' => e = .returned (.tuple #[.int .i64 wv, .int .i64 er]) ∧ Below w'.heap.size w' w'')
    (hat : ∀ w', Below W.heap.size W w' → Calls Try.prog 25 #[.pointer (some ⟨p, 0, none⟩), .int .i64 i, .int .i64 j] w' fun e w'' => e = .returned (.pointer (some ⟨g, m * 4, none⟩)) ∧ Drawn0 w' w'') :
    Calls Try.prog 33 #[.pointer (some ⟨p, 0, none⟩), .int .i64 i, .int .i64 j, .int .i64 sd, .agg #[.int .i64 q, .int .i64 pr], .bool bk] W fun e w' => e = .returned (.int .i64 er) ∧ Below W.heap.size W w' := by
  have hlt : p < W.heap.size := World.block_lt_of_cell? W _ c0
  have hne : (a == 0) = false := by simpa using h0
  have hb0 : Below W.heap.size W (W.alloc (.cells #[.int .i64 q, .int .i64 pr] 62)) := (Below.refl _ W).alloc (Nat.le_refl _) _
  have hB := Blk.new W 62 #[.int .i64 q, .int .i64 pr]
  have hs := fun w => pw_yes sd 1 2 hs0 hs1 w
  have Hs := Lib.hid hs
  clear hs
  have hq := fun w => pw_yes q 1 1099511627776 hq0 hq1 w
  have Hq := Lib.hid hq
  clear hq
  have hp := fun w => pw_yes pr 1 1099511627776 hp0 hp1 w
  have Hp := Lib.hid hp
  clear hp
  have he2 : (er == 0) = false := by simpa using he
  have Hw := Lib.hid hw
  clear hw
  have Hat := Lib.hid hat
  have HB0 := Lib.hid hb0
  have HB := Lib.hid hB
  have l0 : W.heap.size < (W.alloc (.cells #[.int .i64 q, .int .i64 pr] 62)).heap.size := by simp
  clear hat hb0 hB h0
  go_enter Try.func33, Try.ntmps33
  go_wp2_with (first
    | (go_at_call 25; refine (Hat.out _ HB0.out).mono ?_; rintro e w1 ⟨rfl, hd1⟩; have hb1 := hd1.below; have k1 := Blk.below HB.out hb1 l0; have y0 := k1.cell 0; have y1 := k1.cell 1; simp at y0 y1)
    | (go_at_call 18; first | ((with_reducible refine (Hs.out _).mono ?_); rintro e w' ⟨rfl, rfl⟩) | ((with_reducible refine (Hq.out _).mono ?_); rintro e w' ⟨rfl, rfl⟩) | ((with_reducible refine (Hp.out _).mono ?_); rintro e w' ⟨rfl, rfl⟩))
    | (go_at_call 14; refine (Hw.out _).mono ?_; rintro e w2 ⟨rfl, hb2⟩))
  go_ret
  exact ⟨rfl, bt (bt HB0.out hb1) hb2⟩
end Go.Proofs.Ytenlifjfehnldaa.Hand
