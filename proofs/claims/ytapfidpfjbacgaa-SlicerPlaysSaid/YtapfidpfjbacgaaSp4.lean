/- A slicer that is: Amend, Ask, Over, Goal, walked. -/
import Derived.Test.YtapfidpfjbacgaaSl8
import Derived.Test.YtapfidpfjbacgaaPl24
import Derived.Test.YtapfidpfjbacgaaUx0
set_option linter.unusedVariables false
set_option linter.unusedSimpArgs false
namespace Go.Proofs.Ytapfidpfjbacgaa.Hand
open Go Go.RowKit Go.Proofs.YtapfidpfjbacgaaW.PrintWords Go.Proofs.YtapfidpfjbacgaaW.PrintMore Go.Proofs.Ytapfidpfjbacgaa.RL Go.Proofs.Ytapfidpfjbacgaa.PL
/-- May an order be changed to this? -/
def amG (st q p en : Int) : Bool := decide (1 ≤ q ∧ q ≤ 1099511627776) && decide (1 ≤ p ∧ p ≤ 1099511627776) && decide (0 ≤ en ∧ en ≤ 1099511627776)
def amS (st q p en : Int) : Int := if amG st q p en = true then (if 1 ≤ en - st ∧ en - st ≤ 1073741824 then 0 else 282) else 2
set_option maxHeartbeats 8000000 in
set_option maxRecDepth 100000 in
theorem amend_no2 (g : Nat) (k sd q p al st en rt sh v0 q2 p2 en2 : Int) (id tg ac sy : ByteArray) (cv : Value) (T : TypeId) (hv : Value) (hst : 0 ≤ st ∧ st ≤ 1099511627776) (hno : amS st q2 p2 en2 ≠ 0) (w : World)
    (hS : Blk w g 56 (slC k sd q p al st en rt sh id tg ac sy cv (.iface T hv) v0)) :
    Calls Try.prog 12 #[.pointer (some ⟨g, 0, none⟩), .int .i64 q2, .int .i64 p2, .int .i64 en2] w fun e w' => e = .returned (.int .i64 (amS st q2 p2 en2)) ∧ w' = w := by
  have y9 := hS.cell 9; have y14 := hS.cell 14
  simp at y9 y14
  have h1 := fun w => swithin_walk q2 1 1099511627776 w
  have h2 := fun w => swithin_walk p2 1 1099511627776 w
  have h3 := fun w => swithin_walk en2 0 1099511627776 w
  have h4 := fun w => swithin_walk (en2 - st) 1 1073741824 w
  have hi := fun W h => is_walk g #[] T hv W h
  unfold amS amG at hno ⊢
  have hb : decide (0 ≤ en2 ∧ en2 ≤ 1099511627776) = true → (-9223372036854775808 ≤ en2 - st ∧ en2 - st ≤ 9223372036854775807) := fun h => by have := of_decide_eq_true h; omega
  have e4 : (if 1 ≤ en2 - st ∧ en2 - st ≤ 1073741824 then (0 : Int) else 282) = (if decide (1 ≤ en2 - st ∧ en2 - st ≤ 1073741824) = true then 0 else 282) := by simp
  rw [e4] at hno ⊢
  generalize decide (1 ≤ q2 ∧ q2 ≤ 1099511627776) = d1 at *
  generalize decide (1 ≤ p2 ∧ p2 ≤ 1099511627776) = d2 at *
  generalize hd3 : decide (0 ≤ en2 ∧ en2 ≤ 1099511627776) = d3 at *
  generalize decide (1 ≤ en2 - st ∧ en2 - st ≤ 1073741824) = d4 at *
  have HI := Lib.hid hi; have H1 := Lib.hid h1; have H2 := Lib.hid h2; have H3 := Lib.hid h3; have H4 := Lib.hid h4
  clear hi h1 h2 h3 h4 hS e4
  have hq' : d1 = false ∨ (d1 = true ∧ d2 = false) ∨ (d1 = true ∧ d2 = true ∧ d3 = false) ∨ (d1 = true ∧ d2 = true ∧ d3 = true ∧ d4 = false) := by cases d1 <;> cases d2 <;> cases d3 <;> cases d4 <;> simp_all
  clear hno
  rcases hq' with rfl | ⟨rfl, rfl⟩ | ⟨rfl, rfl, rfl⟩ | ⟨rfl, rfl, rfl, rfl⟩
  all_goals
    (try (have hb := hb rfl))
    try clear hd3
    go_enter Try.func12, Try.ntmps12
    go_wp2_with (first | (go_at_call 23; (with_reducible refine (HI.out _ y14).mono ?_); rintro e wi ⟨rfl, rfl⟩) | (go_at_call 21; first | ((with_reducible refine (H1.out _).mono ?_); rintro e wa ⟨rfl, rfl⟩) | ((with_reducible refine (H2.out _).mono ?_); rintro e wb ⟨rfl, rfl⟩) | ((with_reducible refine (H3.out _).mono ?_); rintro e wc ⟨rfl, rfl⟩) | ((with_reducible refine (H4.out _).mono ?_); rintro e wd ⟨rfl, rfl⟩)))
    go_ret
    exact ⟨by simp, rfl⟩
set_option maxHeartbeats 8000000 in
set_option maxRecDepth 100000 in
theorem amend_ok2 (g : Nat) (k sd q p al st en rt sh v0 q2 p2 en2 : Int) (id tg ac sy : ByteArray) (cv : Value) (T : TypeId) (hv : Value) (hst : 0 ≤ st ∧ st ≤ 1099511627776) (hok : amS st q2 p2 en2 = 0) (w : World)
    (hS : Blk w g 56 (slC k sd q p al st en rt sh id tg ac sy cv (.iface T hv) v0)) :
    Calls Try.prog 12 #[.pointer (some ⟨g, 0, none⟩), .int .i64 q2, .int .i64 p2, .int .i64 en2] w fun e w' => e = .returned (.int .i64 0) ∧ w' = ((w.setCell ⟨g, 6, none⟩ (.int .i64 q2)).setCell ⟨g, 7, none⟩ (.int .i64 p2)).setCell ⟨g, 10, none⟩ (.int .i64 en2) := by
  have y6 := hS.cell 6; have y7 := hS.cell 7; have y9 := hS.cell 9; have y10 := hS.cell 10; have y14 := hS.cell 14
  have f6 := hS.frozen 6; have f7 := hS.frozen 7; have f10 := hS.frozen 10
  simp at y6 y7 y9 y10 y14
  have h1 := fun w => swithin_walk q2 1 1099511627776 w
  have h2 := fun w => swithin_walk p2 1 1099511627776 w
  have h3 := fun w => swithin_walk en2 0 1099511627776 w
  have h4 := fun w => swithin_walk (en2 - st) 1 1073741824 w
  have hi := fun W h => is_walk g #[] T hv W h
  have ha : (1 ≤ q2 ∧ q2 ≤ 1099511627776) ∧ (1 ≤ p2 ∧ p2 ≤ 1099511627776) ∧ (0 ≤ en2 ∧ en2 ≤ 1099511627776) ∧ (1 ≤ en2 - st ∧ en2 - st ≤ 1073741824) := by
    unfold amS amG at hok
    by_cases g1 : (decide (1 ≤ q2 ∧ q2 ≤ 1099511627776) && decide (1 ≤ p2 ∧ p2 ≤ 1099511627776) && decide (0 ≤ en2 ∧ en2 ≤ 1099511627776)) = true
    · rw [if_pos g1] at hok
      by_cases g2 : 1 ≤ en2 - st ∧ en2 - st ≤ 1073741824
      · simp only [Bool.and_eq_true, decide_eq_true_eq] at g1
        exact ⟨g1.1.1, g1.1.2, g1.2, g2⟩
      · rw [if_neg g2] at hok; cases hok
    · rw [if_neg g1] at hok; cases hok
  obtain ⟨a1, a2, a3, a4⟩ := ha
  rw [decide_eq_true a1] at h1; rw [decide_eq_true a2] at h2; rw [decide_eq_true a3] at h3; rw [decide_eq_true a4] at h4
  have HI := Lib.hid hi; have H1 := Lib.hid h1; have H2 := Lib.hid h2; have H3 := Lib.hid h3; have H4 := Lib.hid h4
  clear hi h1 h2 h3 h4 hS hok
  go_enter Try.func12, Try.ntmps12
  go_wp2_with (first | (go_at_call 23; (with_reducible refine (HI.out _ y14).mono ?_); rintro e wi ⟨rfl, rfl⟩) | (go_at_call 21; first | ((with_reducible refine (H1.out _).mono ?_); rintro e wa ⟨rfl, rfl⟩) | ((with_reducible refine (H2.out _).mono ?_); rintro e wb ⟨rfl, rfl⟩) | ((with_reducible refine (H3.out _).mono ?_); rintro e wc ⟨rfl, rfl⟩) | ((with_reducible refine (H4.out _).mono ?_); rintro e wd ⟨rfl, rfl⟩)))
  go_ret
  exact ⟨rfl, rfl⟩
set_option maxHeartbeats 4000000 in
set_option maxRecDepth 100000 in
theorem over2 (g : Nat) (k sd q p al st en rt sh v0 now : Int) (id tg ac sy : ByteArray) (cv : Value) (T : TypeId) (hv : Value) (w : World)
    (hS : Blk w g 56 (slC k sd q p al st en rt sh id tg ac sy cv (.iface T hv) v0)) :
    Calls Try.prog 19 #[.pointer (some ⟨g, 0, none⟩), .int .i64 now] w fun e w' => e = .returned (.bool (decide (en ≤ now))) ∧ w' = w := by
  have y10 := hS.cell 10; have y14 := hS.cell 14
  simp at y10 y14
  have hi := fun W h => is_walk g #[] T hv W h
  have HI := Lib.hid hi
  clear hi hS
  go_enter Try.func19, Try.ntmps19
  go_wp2_with (first | (go_at_call 23; (with_reducible refine (HI.out _ y14).mono ?_); rintro e wi ⟨rfl, rfl⟩))
  go_ret
  exact ⟨by simp, rfl⟩
set_option maxHeartbeats 8000000 in
set_option maxRecDepth 100000 in
theorem ask2 (g : Nat) (k sd q p al st en rt sh v0 : Int) (id tg ac sy : ByteArray) (A : Option Addr) (c : Nat) (l : List Int) (hm : l.length ≤ 1000) (T : TypeId) (hv : Value) (w : World) (hl : Kd.C (Kd.int .i64) w A l.length l)
    (hS : Blk w g 56 (slC k sd q p al st en rt sh id tg ac sy (.slice A l.length c) (.iface T hv) v0)) :
    Calls Try.prog 18 #[.pointer (some ⟨g, 0, none⟩)] w fun e w' => ∃ B d, e = .returned (.agg (askC k sd q p al st en rt sh id tg ac sy (.slice B l.length d))) ∧ Kd.R (Kd.int .i64) 3 w' w.heap.size (fun _ => True) (.slice B l.length d) l ∧ Below w.heap.size w w' := by
  have y0 := hS.cell 0; have y1 := hS.cell 1; have y2 := hS.cell 2; have y3 := hS.cell 3; have y4 := hS.cell 4; have y5 := hS.cell 5; have y6 := hS.cell 6; have y7 := hS.cell 7; have y8 := hS.cell 8; have y9 := hS.cell 9; have y10 := hS.cell 10; have y11 := hS.cell 11; have y12 := hS.cell 12; have y13 := hS.cell 13; have y14 := hS.cell 14
  simp at y0 y1 y2 y3 y4 y5 y6 y7 y8 y9 y10 y11 y12 y13 y14
  have hi := fun o => is_walk g #[] T hv (w.alloc o) ((hS.alloc o).cell 14)
  have HI := Lib.hid hi
  have HS := Lib.hid hS
  have HL := Lib.hid hl
  have hlt := hS.lt
  clear hi hS hl
  go_enter Try.func18, Try.ntmps18
  go_wp2_with (first | (go_at_call 23; (with_reducible refine (HI.out _).mono ?_); rintro e wi ⟨rfl, rfl⟩))
  have hZ := (Blk.new w 24 #[.int .i64 0, .string ⟨#[]⟩, .string ⟨#[]⟩, .string ⟨#[]⟩, .string ⟨#[]⟩, .int .i64 0, .int .i64 0, .int .i64 0, .int .i64 0, .int .i64 0, .int .i64 0, .int .i64 0, .int .i64 0, .slice none 0 0]).alloc (.cells (askC k sd q p al st en rt sh id tg ac sy (.slice A l.length c)) 24)
  have hX := Blk.new (w.alloc (.cells #[.int .i64 0, .string ⟨#[]⟩, .string ⟨#[]⟩, .string ⟨#[]⟩, .string ⟨#[]⟩, .int .i64 0, .int .i64 0, .int .i64 0, .int .i64 0, .int .i64 0, .int .i64 0, .int .i64 0, .int .i64 0, .slice none 0 0] 24)) 24 (askC k sd q p al st en rt sh id tg ac sy (.slice A l.length c))
  have hB := ((Below.refl w.heap.size w).alloc (Nat.le_refl _) (.cells #[.int .i64 0, .string ⟨#[]⟩, .string ⟨#[]⟩, .string ⟨#[]⟩, .string ⟨#[]⟩, .int .i64 0, .int .i64 0, .int .i64 0, .int .i64 0, .int .i64 0, .int .i64 0, .int .i64 0, .int .i64 0, .slice none 0 0] 24)).alloc (by simp) (.cells (askC k sd q p al st en rt sh id tg ac sy (.slice A l.length c)) 24)
  rw [World.size_alloc] at hX
  clear y0 y1 y2 y3 y4 y5 y6 y7 y8 y9 y10 y11 y12 y13 y14 HI HS hlt
  generalize (w.alloc (.cells #[.int .i64 0, .string ⟨#[]⟩, .string ⟨#[]⟩, .string ⟨#[]⟩, .string ⟨#[]⟩, .int .i64 0, .int .i64 0, .int .i64 0, .int .i64 0, .int .i64 0, .int .i64 0, .int .i64 0, .int .i64 0, .slice none 0 0] 24)).alloc (.cells (askC k sd q p al st en rt sh id tg ac sy (.slice A l.length c)) 24) = w1 at *
  refine (clone_walk A c l hm w1 (Kd.C_below HL.out hB)).mono ?_
  rintro e wc ⟨B, d, rfl, hR, hb⟩
  have hX := hX.on hb
  have hZ := hZ.on hb
  have hR := Kd.R_lower hR hB.size
  have hB := bt hB hb
  have f13 := hX.frozen 13
  clear hb HL
  have key : ∀ W, ((∃ cs, Blk W w.heap.size 24 cs) ∧ Kd.R (Kd.int .i64) 3 W w.heap.size (fun _ => True) (.slice B l.length d) l ∧ Below w.heap.size w W) → ∀ k u, ((∃ cs, Blk (W.setCell ⟨w.heap.size, k, none⟩ u) w.heap.size 24 cs) ∧ Kd.R (Kd.int .i64) 3 (W.setCell ⟨w.heap.size, k, none⟩ u) w.heap.size (fun _ => True) (.slice B l.length d) l ∧ Below w.heap.size w (W.setCell ⟨w.heap.size, k, none⟩ u)) := by
    rintro W ⟨⟨cs, h1⟩, h2, h3⟩ k u
    exact ⟨⟨_, h1.put k u⟩, R_put h2 h1 (by decide) k u, below_set h3 (p := ⟨w.heap.size, k, none⟩) (Nat.le_refl _) u⟩
  have base : ((∃ cs, Blk (wc.setCell ⟨w.heap.size + 1, 13, none⟩ (.slice B l.length d)) w.heap.size 24 cs) ∧ Kd.R (Kd.int .i64) 3 (wc.setCell ⟨w.heap.size + 1, 13, none⟩ (.slice B l.length d)) w.heap.size (fun _ => True) (.slice B l.length d) l ∧ Below w.heap.size w (wc.setCell ⟨w.heap.size + 1, 13, none⟩ (.slice B l.length d))) :=
    ⟨⟨_, hZ.far (p := ⟨w.heap.size + 1, 13, none⟩) (by show w.heap.size ≠ w.heap.size + 1; omega) _⟩, R_put hR hX (by decide) 13 (.slice B l.length d), below_set hB (p := ⟨w.heap.size + 1, 13, none⟩) (Nat.le_succ _) (.slice B l.length d)⟩
  have KEY := Lib.hid key; have BASE := Lib.hid base
  clear key base hR hB
  have y0 := hX.cell 0; have y1 := hX.cell 1; have y2 := hX.cell 2; have y3 := hX.cell 3; have y4 := hX.cell 4; have y5 := hX.cell 5; have y6 := hX.cell 6; have y7 := hX.cell 7; have y8 := hX.cell 8; have y9 := hX.cell 9; have y10 := hX.cell 10; have y11 := hX.cell 11; have y12 := hX.cell 12; have y13 := hX.cell 13
  have z0 := hZ.cell 0; have z1 := hZ.cell 1; have z2 := hZ.cell 2; have z3 := hZ.cell 3; have z4 := hZ.cell 4; have z5 := hZ.cell 5; have z6 := hZ.cell 6; have z7 := hZ.cell 7; have z8 := hZ.cell 8; have z9 := hZ.cell 9; have z10 := hZ.cell 10; have z11 := hZ.cell 11; have z12 := hZ.cell 12; have z13 := hZ.cell 13
  have g0 := hZ.frozen 0; have g1 := hZ.frozen 1; have g2 := hZ.frozen 2; have g3 := hZ.frozen 3; have g4 := hZ.frozen 4; have g5 := hZ.frozen 5; have g6 := hZ.frozen 6; have g7 := hZ.frozen 7; have g8 := hZ.frozen 8; have g9 := hZ.frozen 9; have g10 := hZ.frozen 10; have g11 := hZ.frozen 11; have g12 := hZ.frozen 12; have g13 := hZ.frozen 13
  simp at y0 z0 y1 z1 y2 z2 y3 z3 y4 z4 y5 z5 y6 z6 y7 z7 y8 z8 y9 z9 y10 z10 y11 z11 y12 z12 y13 z13
  have hlt := hX.lt
  have hF := hZ.far (p := ⟨w.heap.size + 1, 13, none⟩) (show w.heap.size ≠ w.heap.size + 1 by omega) (.slice B l.length d)
  have hK := BASE.out
  have HF := Lib.hid hF
  have HK := Lib.hid hK
  clear hX hZ hF hK BASE
  go_wp2_with fail
  have hF := HF.out
  have hK := HK.out
  clear HF HK y0 z0 g0 y1 z1 g1 y2 z2 g2 y3 z3 g3 y4 z4 g4 y5 z5 g5 y6 z6 g6 y7 z7 g7 y8 z8 g8 y9 z9 g9 y10 z10 g10 y11 z11 g11 y12 z12 g12 y13 z13 g13 f13
  generalize wc.setCell ⟨w.heap.size + 1, 13, none⟩ (.slice B l.length d) = W0 at hF hK ⊢
  have hF : Blk (W0.setCell ⟨w.heap.size, 0, none⟩ (.int .i64 k)) w.heap.size 24 #[.int .i64 k, .string ⟨#[]⟩, .string ⟨#[]⟩, .string ⟨#[]⟩, .string ⟨#[]⟩, .int .i64 0, .int .i64 0, .int .i64 0, .int .i64 0, .int .i64 0, .int .i64 0, .int .i64 0, .int .i64 0, .slice none 0 0] := hF.put 0 (.int .i64 k)
  have hK := KEY.out _ hK 0 (.int .i64 k)
  generalize W0.setCell ⟨w.heap.size, 0, none⟩ (.int .i64 k) = W0 at hF hK ⊢
  have hF : Blk (W0.setCell ⟨w.heap.size, 1, none⟩ (.string id)) w.heap.size 24 #[.int .i64 k, .string id, .string ⟨#[]⟩, .string ⟨#[]⟩, .string ⟨#[]⟩, .int .i64 0, .int .i64 0, .int .i64 0, .int .i64 0, .int .i64 0, .int .i64 0, .int .i64 0, .int .i64 0, .slice none 0 0] := hF.put 1 (.string id)
  have hK := KEY.out _ hK 1 (.string id)
  generalize W0.setCell ⟨w.heap.size, 1, none⟩ (.string id) = W0 at hF hK ⊢
  have hF : Blk (W0.setCell ⟨w.heap.size, 2, none⟩ (.string tg)) w.heap.size 24 #[.int .i64 k, .string id, .string tg, .string ⟨#[]⟩, .string ⟨#[]⟩, .int .i64 0, .int .i64 0, .int .i64 0, .int .i64 0, .int .i64 0, .int .i64 0, .int .i64 0, .int .i64 0, .slice none 0 0] := hF.put 2 (.string tg)
  have hK := KEY.out _ hK 2 (.string tg)
  generalize W0.setCell ⟨w.heap.size, 2, none⟩ (.string tg) = W0 at hF hK ⊢
  have hF : Blk (W0.setCell ⟨w.heap.size, 3, none⟩ (.string ac)) w.heap.size 24 #[.int .i64 k, .string id, .string tg, .string ac, .string ⟨#[]⟩, .int .i64 0, .int .i64 0, .int .i64 0, .int .i64 0, .int .i64 0, .int .i64 0, .int .i64 0, .int .i64 0, .slice none 0 0] := hF.put 3 (.string ac)
  have hK := KEY.out _ hK 3 (.string ac)
  generalize W0.setCell ⟨w.heap.size, 3, none⟩ (.string ac) = W0 at hF hK ⊢
  have hF : Blk (W0.setCell ⟨w.heap.size, 4, none⟩ (.string sy)) w.heap.size 24 #[.int .i64 k, .string id, .string tg, .string ac, .string sy, .int .i64 0, .int .i64 0, .int .i64 0, .int .i64 0, .int .i64 0, .int .i64 0, .int .i64 0, .int .i64 0, .slice none 0 0] := hF.put 4 (.string sy)
  have hK := KEY.out _ hK 4 (.string sy)
  generalize W0.setCell ⟨w.heap.size, 4, none⟩ (.string sy) = W0 at hF hK ⊢
  have hF : Blk (W0.setCell ⟨w.heap.size, 5, none⟩ (.int .i64 sd)) w.heap.size 24 #[.int .i64 k, .string id, .string tg, .string ac, .string sy, .int .i64 sd, .int .i64 0, .int .i64 0, .int .i64 0, .int .i64 0, .int .i64 0, .int .i64 0, .int .i64 0, .slice none 0 0] := hF.put 5 (.int .i64 sd)
  have hK := KEY.out _ hK 5 (.int .i64 sd)
  generalize W0.setCell ⟨w.heap.size, 5, none⟩ (.int .i64 sd) = W0 at hF hK ⊢
  have hF : Blk (W0.setCell ⟨w.heap.size, 6, none⟩ (.int .i64 q)) w.heap.size 24 #[.int .i64 k, .string id, .string tg, .string ac, .string sy, .int .i64 sd, .int .i64 q, .int .i64 0, .int .i64 0, .int .i64 0, .int .i64 0, .int .i64 0, .int .i64 0, .slice none 0 0] := hF.put 6 (.int .i64 q)
  have hK := KEY.out _ hK 6 (.int .i64 q)
  generalize W0.setCell ⟨w.heap.size, 6, none⟩ (.int .i64 q) = W0 at hF hK ⊢
  have hF : Blk (W0.setCell ⟨w.heap.size, 7, none⟩ (.int .i64 p)) w.heap.size 24 #[.int .i64 k, .string id, .string tg, .string ac, .string sy, .int .i64 sd, .int .i64 q, .int .i64 p, .int .i64 0, .int .i64 0, .int .i64 0, .int .i64 0, .int .i64 0, .slice none 0 0] := hF.put 7 (.int .i64 p)
  have hK := KEY.out _ hK 7 (.int .i64 p)
  generalize W0.setCell ⟨w.heap.size, 7, none⟩ (.int .i64 p) = W0 at hF hK ⊢
  have hF : Blk (W0.setCell ⟨w.heap.size, 8, none⟩ (.int .i64 al)) w.heap.size 24 #[.int .i64 k, .string id, .string tg, .string ac, .string sy, .int .i64 sd, .int .i64 q, .int .i64 p, .int .i64 al, .int .i64 0, .int .i64 0, .int .i64 0, .int .i64 0, .slice none 0 0] := hF.put 8 (.int .i64 al)
  have hK := KEY.out _ hK 8 (.int .i64 al)
  generalize W0.setCell ⟨w.heap.size, 8, none⟩ (.int .i64 al) = W0 at hF hK ⊢
  have hF : Blk (W0.setCell ⟨w.heap.size, 9, none⟩ (.int .i64 st)) w.heap.size 24 #[.int .i64 k, .string id, .string tg, .string ac, .string sy, .int .i64 sd, .int .i64 q, .int .i64 p, .int .i64 al, .int .i64 st, .int .i64 0, .int .i64 0, .int .i64 0, .slice none 0 0] := hF.put 9 (.int .i64 st)
  have hK := KEY.out _ hK 9 (.int .i64 st)
  generalize W0.setCell ⟨w.heap.size, 9, none⟩ (.int .i64 st) = W0 at hF hK ⊢
  have hF : Blk (W0.setCell ⟨w.heap.size, 10, none⟩ (.int .i64 en)) w.heap.size 24 #[.int .i64 k, .string id, .string tg, .string ac, .string sy, .int .i64 sd, .int .i64 q, .int .i64 p, .int .i64 al, .int .i64 st, .int .i64 en, .int .i64 0, .int .i64 0, .slice none 0 0] := hF.put 10 (.int .i64 en)
  have hK := KEY.out _ hK 10 (.int .i64 en)
  generalize W0.setCell ⟨w.heap.size, 10, none⟩ (.int .i64 en) = W0 at hF hK ⊢
  have hF : Blk (W0.setCell ⟨w.heap.size, 11, none⟩ (.int .i64 rt)) w.heap.size 24 #[.int .i64 k, .string id, .string tg, .string ac, .string sy, .int .i64 sd, .int .i64 q, .int .i64 p, .int .i64 al, .int .i64 st, .int .i64 en, .int .i64 rt, .int .i64 0, .slice none 0 0] := hF.put 11 (.int .i64 rt)
  have hK := KEY.out _ hK 11 (.int .i64 rt)
  generalize W0.setCell ⟨w.heap.size, 11, none⟩ (.int .i64 rt) = W0 at hF hK ⊢
  have hF : Blk (W0.setCell ⟨w.heap.size, 12, none⟩ (.int .i64 sh)) w.heap.size 24 #[.int .i64 k, .string id, .string tg, .string ac, .string sy, .int .i64 sd, .int .i64 q, .int .i64 p, .int .i64 al, .int .i64 st, .int .i64 en, .int .i64 rt, .int .i64 sh, .slice none 0 0] := hF.put 12 (.int .i64 sh)
  have hK := KEY.out _ hK 12 (.int .i64 sh)
  generalize W0.setCell ⟨w.heap.size, 12, none⟩ (.int .i64 sh) = W0 at hF hK ⊢
  have hF : Blk (W0.setCell ⟨w.heap.size, 13, none⟩ (.slice B l.length d)) w.heap.size 24 #[.int .i64 k, .string id, .string tg, .string ac, .string sy, .int .i64 sd, .int .i64 q, .int .i64 p, .int .i64 al, .int .i64 st, .int .i64 en, .int .i64 rt, .int .i64 sh, .slice B l.length d] := hF.put 13 (.slice B l.length d)
  have hK := KEY.out _ hK 13 (.slice B l.length d)
  generalize W0.setCell ⟨w.heap.size, 13, none⟩ (.slice B l.length d) = W0 at hF hK ⊢
  obtain ⟨_, hR, hB⟩ := hK
  have c0 := hF.cell 0; have c1 := hF.cell 1; have c2 := hF.cell 2; have c3 := hF.cell 3; have c4 := hF.cell 4; have c5 := hF.cell 5; have c6 := hF.cell 6; have c7 := hF.cell 7; have c8 := hF.cell 8; have c9 := hF.cell 9; have c10 := hF.cell 10; have c11 := hF.cell 11; have c12 := hF.cell 12; have c13 := hF.cell 13
  simp at c0 c1 c2 c3 c4 c5 c6 c7 c8 c9 c10 c11 c12 c13
  exact bodyPost_ret (v := .agg (askC k sd q p al st en rt sh id tg ac sy (.slice B l.length d))) (by simp [results, Try.results18, go_sem, c0, c1, c2, c3, c4, c5, c6, c7, c8, c9, c10, c11, c12, c13]) rfl ⟨B, d, rfl, hR, hB⟩
set_option maxHeartbeats 8000000 in
set_option maxRecDepth 100000 in
theorem goal2 (g : Nat) (k sd q p al st en rt sh v0 now vol dn lot x e0 : Int) (id tg ac sy : ByteArray) (cv hv : Value) (hlot : in64 lot) (w : World)
    (hS : Blk w g 56 (slC k sd q p al st en rt sh id tg ac sy cv hv v0))
    (hT : Calls Try.prog 9 #[.pointer (some ⟨g, 0, none⟩), .int .i64 now, .int .i64 vol, .int .i64 dn] w fun e w' => e = .returned (.tuple #[.int .i64 x, .int .i64 e0]) ∧ Below w.heap.size w w') :
    Calls Try.prog 15 #[.pointer (some ⟨g, 0, none⟩), .int .i64 now, .int .i64 vol, .int .i64 dn, .int .i64 lot] w fun e w' => e = .returned (.tuple #[.int .i64 (if e0 = 0 then (goalS x lot q).1 else 0), .int .i64 (if e0 = 0 then (goalS x lot q).2 else e0)]) ∧ Below w.heap.size w w' := by
  have hg := fun w => (U.pace_Goal.calls 2 x lot q (goalS x lot q).1 (goalS x lot q).2 w (goal_is x lot q hlot 2 (by omega)))
  have HT := Lib.hid hT
  have HG := Lib.hid hg
  have HS := Lib.hid hS
  clear hT hg hS
  by_cases h0 : e0 = 0
  · subst h0
    rw [if_pos rfl, if_pos rfl]
    generalize (goalS x lot q).1 = r1 at *
    generalize (goalS x lot q).2 = r2 at *
    go_enter Try.func15, Try.ntmps15
    go_wp2_with (first | (go_at_call 9; (with_reducible refine HT.out.mono ?_); rintro e wi ⟨rfl, hb⟩; have y6 := (HS.out.on hb).cell 6; simp at y6) | (go_at_call 35; (with_reducible refine (HG.out _).mono ?_); rintro e wj ⟨rfl, hb2⟩))
    exact bodyPost_ret (v := .tuple #[.int .i64 r1, .int .i64 r2]) (by simp [results, Try.results15, go_sem]) rfl ⟨rfl, bt hb hb2⟩
  · rw [if_neg h0, if_neg h0]
    have he : (e0 == 0) = false := beq_eq_false_iff_ne.2 h0
    go_enter Try.func15, Try.ntmps15
    go_wp2_with (first | (go_at_call 9; (with_reducible refine HT.out.mono ?_); rintro e wi ⟨rfl, hb⟩))
    exact bodyPost_ret (v := .tuple #[.int .i64 0, .int .i64 e0]) (by simp [results, Try.results15, go_sem]) rfl ⟨rfl, hb⟩
end Go.Proofs.Ytapfidpfjbacgaa.Hand
