/- position: the chapter's example. -/
import Derived.Test.YtenlifjfehnldaaPos2
import Derived.Test.YtenlifjfehnldaaWorth
set_option linter.unusedVariables false
set_option linter.unusedSimpArgs false
namespace Go.Proofs.Ytenlifjfehnldaa.Hand
open Go Go.RowKit Go.Proofs.YtenlifjfehnldaaW.PrintWords Go.Proofs.YtenlifjfehnldaaW.PrintMore Go.Proofs.Ytenlifjfehnldaa.RL Go.Proofs.Ytenlifjfehnldaa.PL
set_option maxHeartbeats 1000000 in
theorem fill_calls (P : Value) (i j sd q pr r : Int) (W : World) (R : World → Prop)
    (h : Calls Try.prog 33 #[P, .int .i64 i, .int .i64 j, .int .i64 sd, .agg #[.int .i64 q, .int .i64 pr], .bool false] W fun e w' => e = .returned (.int .i64 r) ∧ R w') :
    Calls Try.prog 16 #[P, .int .i64 i, .int .i64 j, .int .i64 sd, .int .i64 q, .int .i64 pr] W fun e w' => e = .returned (.int .i64 r) ∧ R w' := by
  have H := Lib.hid h
  clear h
  go_enter Try.func16, Try.ntmps16
  go_wp2_with (go_at_call 33; refine (H.out).mono ?_; rintro e w1 ⟨rfl, hr⟩)
  go_ret
  exact ⟨rfl, hr⟩
set_option maxHeartbeats 1000000 in
theorem bust_calls (P : Value) (i j sd q pr r : Int) (W : World) (R : World → Prop)
    (h : Calls Try.prog 33 #[P, .int .i64 i, .int .i64 j, .int .i64 sd, .agg #[.int .i64 q, .int .i64 pr], .bool true] W fun e w' => e = .returned (.int .i64 r) ∧ R w') :
    Calls Try.prog 23 #[P, .int .i64 i, .int .i64 j, .int .i64 sd, .int .i64 q, .int .i64 pr] W fun e w' => e = .returned (.int .i64 r) ∧ R w' := by
  have H := Lib.hid h
  clear h
  go_enter Try.func23, Try.ntmps23
  go_wp2_with (go_at_call 33; refine (H.out).mono ?_; rintro e w1 ⟨rfl, hr⟩)
  go_ret
  exact ⟨rfl, hr⟩
theorem w100 (w : World) : Calls Try.prog 14 #[.int .i64 10, .int .i64 100] w fun e w'' => e = .returned (.tuple #[.int .i64 1000, .int .i64 0]) ∧ Below w.heap.size w w'' :=
  worth_in 10 100 (by decide) (by decide) w
theorem w404 (w : World) : Calls Try.prog 14 #[.int .i64 4, .int .i64 101] w fun e w'' => e = .returned (.tuple #[.int .i64 404, .int .i64 0]) ∧ Below w.heap.size w w'' :=
  worth_in 4 101 (by decide) (by decide) w
theorem add_lit (a b : Int) (ha : in64 a) (hb : in64 b) (hc : in64 (a + b)) (w : World) : Calls Try.prog 53 #[.int .i64 a, .int .i64 b] w fun e w'' => e = .returned (.tuple #[.int .i64 (a + b), .int .i64 0]) ∧ Below w.heap.size w w'' :=
  (checked_Add.calls a b (a + b) 0 w (by rw [add_is a b ha hb, tell_in hc])).mono fun e w' ⟨h, hd⟩ => ⟨h, hd.below⟩
theorem new11 (w : World) : Calls Try.prog 7 #[.int .i64 1, .int .i64 1] w fun e w' => e = .returned (.tuple #[.pointer (some ⟨w.heap.size + 1, 0, none⟩), .int .i64 0]) ∧ Blk w' (w.heap.size + 1) 48 #[.int .i64 1, .int .i64 1, .slice (some ⟨w.heap.size, 0, none⟩) 1 1] ∧ Blk w' w.heap.size 71 #[.int .i64 0, .int .i64 0, .int .i64 0, .int .i64 0] ∧ Below w.heap.size w w' := by
  refine (pnew_ok 1 1 (by omega) (by omega) (by omega) (by omega) w).mono ?_
  rintro e w' ⟨rfl, rfl⟩
  have h1 := Blk.new (w.alloc (.cells (ints (List.replicate (1 * 1 * 4) 0)) 71)) 48 #[.int .i64 ((1 : Nat) : Int), .int .i64 ((1 : Nat) : Int), .slice (some ⟨w.heap.size, 0, none⟩) (1 * 1) (1 * 1)]
  simp only [World.size_alloc] at h1
  exact ⟨rfl, h1, (Blk.new w 71 (ints (List.replicate (1 * 1 * 4) 0))).alloc _, ((Below.refl _ w).alloc (Nat.le_refl _) _).alloc (by simp) _⟩
theorem at00 (p g : Nat) (W : World) (hp : Blk W p 48 #[.int .i64 1, .int .i64 1, .slice (some ⟨g, 0, none⟩) 1 1]) :
    Calls Try.prog 25 #[.pointer (some ⟨p, 0, none⟩), .int .i64 0, .int .i64 0] W fun e w' => e = .returned (.pointer (some ⟨g, 0 * 4, none⟩)) ∧ Drawn0 W w' :=
  at_ok p g 1 1 0 0 1 rfl (by omega) (by omega) (by omega) (by omega) W hp
theorem fill_a (p g : Nat) (W : World) (hp : Blk W p 48 #[.int .i64 1, .int .i64 1, .slice (some ⟨g, 0, none⟩) 1 1]) (hg : Blk W g 71 #[.int .i64 0, .int .i64 0, .int .i64 0, .int .i64 0]) (hpg : p ≠ g) :
    Calls Try.prog 16 #[.pointer (some ⟨p, 0, none⟩), .int .i64 0, .int .i64 0, .int .i64 1, .int .i64 10, .int .i64 100] W fun e w' => e = .returned (.int .i64 0) ∧ Blk w' p 48 #[.int .i64 1, .int .i64 1, .slice (some ⟨g, 0, none⟩) 1 1] ∧ Blk w' g 71 #[.int .i64 10, .int .i64 1000, .int .i64 0, .int .i64 0] ∧ W.heap.size ≤ w'.heap.size ∧ ∀ n, n ≤ g → Below n W w' := by
  refine fill_calls _ _ _ _ _ _ _ _ _ ?_
  refine (move_ok1 p g 0 1 0 0 10 100 1000 0 0 10 1000 W (by decide) (hp.cell 0) _ hg hpg rfl rfl (by decide) (by decide) (by decide) (by decide) (fun w' hb => at00 p g w' (hp.below hb hp.lt)) w100 (fun w' => plus_ok 0 0 10 1000 10 1000 (by decide) (by decide) w' (fun w => add_lit 0 10 (by decide) (by decide) (by decide) w) (fun w => add_lit 0 1000 (by decide) (by decide) (by decide) w))).mono ?_
  rintro e w' ⟨rfl, h1, h2, h3, h4⟩
  exact ⟨rfl, (h3 p hp.lt hpg).trans hp, h1, h2, h4⟩
theorem fill_b (p g : Nat) (W : World) (hp : Blk W p 48 #[.int .i64 1, .int .i64 1, .slice (some ⟨g, 0, none⟩) 1 1]) (hg : Blk W g 71 #[.int .i64 10, .int .i64 1000, .int .i64 0, .int .i64 0]) (hpg : p ≠ g) :
    Calls Try.prog 16 #[.pointer (some ⟨p, 0, none⟩), .int .i64 0, .int .i64 0, .int .i64 2, .int .i64 4, .int .i64 101] W fun e w' => e = .returned (.int .i64 0) ∧ Blk w' p 48 #[.int .i64 1, .int .i64 1, .slice (some ⟨g, 0, none⟩) 1 1] ∧ Blk w' g 71 #[.int .i64 10, .int .i64 1000, .int .i64 4, .int .i64 404] ∧ W.heap.size ≤ w'.heap.size ∧ ∀ n, n ≤ g → Below n W w' := by
  refine fill_calls _ _ _ _ _ _ _ _ _ ?_
  refine (move_ok2 p g 0 1 0 0 4 101 404 0 0 4 404 W (by decide) (hp.cell 0) _ hg hpg rfl rfl (by decide) (by decide) (by decide) (by decide) (fun w' hb => at00 p g w' (hp.below hb hp.lt)) w404 (fun w' => plus_ok 0 0 4 404 4 404 (by decide) (by decide) w' (fun w => add_lit 0 4 (by decide) (by decide) (by decide) w) (fun w => add_lit 0 404 (by decide) (by decide) (by decide) w))).mono ?_
  rintro e w' ⟨rfl, h1, h2, h3, h4⟩
  exact ⟨rfl, (h3 p hp.lt hpg).trans hp, h1, h2, h4⟩
theorem sold_a (p g : Nat) (W : World) (hp : Blk W p 48 #[.int .i64 1, .int .i64 1, .slice (some ⟨g, 0, none⟩) 1 1]) (hg : Blk W g 71 #[.int .i64 10, .int .i64 1000, .int .i64 4, .int .i64 404]) :
    Calls Try.prog 12 #[.pointer (some ⟨p, 0, none⟩), .int .i64 0, .int .i64 0] W fun e w' => e = .returned (.tuple #[.int .i64 4, .int .i64 404]) ∧ Drawn0 W w' :=
  sold_ok _ 0 0 4 404 g 0 W (at00 p g W hp) (hg.cell 2) (hg.cell 3)
theorem drawn_blk {w w' : World} {g : Nat} {t : TypeId} {cs : Array Value} (h : Drawn0 w w') (hb : Blk w g t cs) : Blk w' g t cs := by obtain ⟨⟨n, rfl⟩⟩ := h; exact hb
theorem net_a (p g : Nat) (W : World) (hp : Blk W p 48 #[.int .i64 1, .int .i64 1, .slice (some ⟨g, 0, none⟩) 1 1]) (hg : Blk W g 71 #[.int .i64 10, .int .i64 1000, .int .i64 4, .int .i64 404]) :
    Calls Try.prog 17 #[.pointer (some ⟨p, 0, none⟩), .int .i64 0, .int .i64 0] W fun e w' => e = .returned (.int .i64 6) ∧ Drawn0 W w' := by
  have h6 : wrap64 (10 - 4) = 6 := w64 (by decide) (by decide)
  rw [← h6]
  exact net_ok _ 0 0 10 1000 4 404 W (fun w' hd => bought_ok _ 0 0 10 1000 g 0 w' (at00 p g w' (drawn_blk hd hp)) ((drawn_blk hd hg).cell 0) ((drawn_blk hd hg).cell 1)) (fun w' hd => sold_a p g w' (drawn_blk hd hp) (drawn_blk hd hg))
set_option maxHeartbeats 2000000 in
set_option maxRecDepth 100000 in
theorem awake18 (W : World) : Calls Try.prog 6 #[] W fun e w' => e = .returned (.bool true) ∧ Below W.heap.size W w' := by
  go_enter Try.func6, Try.ntmps6
  go_wp2_with (first
    | (go_at_call 7; refine (new11 _).mono ?_; rintro e w1 ⟨rfl, p1, g1, b1⟩; have hne := Nat.succ_ne_self W.heap.size)
    | (go_at_call 16; first | ((with_reducible refine (fill_a _ _ _ p1 g1 hne).mono ?_); rintro e w2 ⟨rfl, p2, g2, s2, o2⟩) | ((with_reducible refine (fill_b _ _ _ p2 g2 hne).mono ?_); rintro e w3 ⟨rfl, p3, g3, s3, o3⟩))
    | (go_at_call 12; refine (sold_a _ _ _ p3 g3).mono ?_; rintro e w4 ⟨rfl, d4⟩; have p4 := drawn_blk d4 p3; have g4 := drawn_blk d4 g3)
    | (go_at_call 17; refine (net_a _ _ _ p4 g4).mono ?_; rintro e w5 ⟨rfl, d5⟩))
  go_ret
  exact ⟨rfl, (((b1.trans (o2 _ (Nat.le_refl _))).trans (o3 _ (Nat.le_refl _))).trans (d4.below.mono (Nat.le_trans b1.size (Nat.le_trans s2 s3)))).trans (d5.below.mono (Nat.le_trans (Nat.le_trans b1.size (Nat.le_trans s2 s3)) d4.below.size))⟩
end Go.Proofs.Ytenlifjfehnldaa.Hand
