/- The slicer's targets: flow and berg. -/
import Derived.Test.YtapfidpfjbacgaaSl0
import Derived.Test.YtapfidpfjbacgaaFx0
set_option linter.unusedVariables false
set_option linter.unusedSimpArgs false
namespace Go.Proofs.Ytapfidpfjbacgaa.Hand
open Go Go.RowKit Go.Proofs.YtapfidpfjbacgaaW.PrintWords Go.Proofs.YtapfidpfjbacgaaW.PrintMore Go.Proofs.Ytapfidpfjbacgaa.RL Go.Proofs.Ytapfidpfjbacgaa.PL Go.Proofs.Ytapfidpfjbacgaa.F
theorem as_a (T : TypeId) (v : Value) (hT : T = 64 ∨ T = 66 ∨ T = 68) (W : World) : (Instr.typeAssert (.iface T v) 20 62 true).run Try.prog W = .ok (.tuple #[.agg #[.slice none 0 0], .bool false]) W := by
  rcases hT with rfl | rfl | rfl <;> kernel_rfl
theorem as_ay (v : Value) (W : World) : (Instr.typeAssert (.iface 62 v) 20 62 true).run Try.prog W = .ok (.tuple #[v, .bool true]) W := by kernel_rfl
theorem as_s (T : TypeId) (v : Value) (hT : T = 62 ∨ T = 66 ∨ T = 68) (W : World) : (Instr.typeAssert (.iface T v) 20 64 true).run Try.prog W = .ok (.tuple #[.agg #[.int .i64 0, .int .i64 0], .bool false]) W := by
  rcases hT with rfl | rfl | rfl <;> kernel_rfl
theorem as_sy (v : Value) (W : World) : (Instr.typeAssert (.iface 64 v) 20 64 true).run Try.prog W = .ok (.tuple #[v, .bool true]) W := by kernel_rfl
theorem as_i (T : TypeId) (v : Value) (hT : T = 62 ∨ T = 64 ∨ T = 68) (W : World) : (Instr.typeAssert (.iface T v) 20 66 true).run Try.prog W = .ok (.tuple #[.agg #[.int .i64 0], .bool false]) W := by
  rcases hT with rfl | rfl | rfl <;> kernel_rfl
theorem as_iy (v : Value) (W : World) : (Instr.typeAssert (.iface 66 v) 20 66 true).run Try.prog W = .ok (.tuple #[v, .bool true]) W := by kernel_rfl
set_option maxHeartbeats 4000000 in
set_option maxRecDepth 100000 in
theorem is_walk (g : Nat) (cs : Array Value) (T : TypeId) (v : Value) (w : World) (hc : w.cell? ⟨g, 14, none⟩ = some (.iface T v)) : Calls Try.prog 23 #[.pointer (some ⟨g, 0, none⟩)] w fun e w' => e = .returned (.bool true) ∧ w' = w := by
  go_enter Try.func23, Try.ntmps23
  go_wp2_with fail
  go_ret
  exact ⟨rfl, rfl⟩
abbrev askC (k sd q p al st en rt sh : Int) (id tg ac sy : ByteArray) (cv : Value) : Array Value := #[.int .i64 k, .string id, .string tg, .string ac, .string sy, .int .i64 sd, .int .i64 q, .int .i64 p, .int .i64 al, .int .i64 st, .int .i64 en, .int .i64 rt, .int .i64 sh, cv]
abbrev slC (k sd q p al st en rt sh : Int) (id tg ac sy : ByteArray) (cv how : Value) (v0 : Int) : Array Value := #[.int .i64 k, .string id, .string tg, .string ac, .string sy, .int .i64 sd, .int .i64 q, .int .i64 p, .int .i64 al, .int .i64 st, .int .i64 en, .int .i64 rt, .int .i64 sh, cv, how, .int .i64 v0]
set_option maxHeartbeats 4000000 in
set_option maxRecDepth 100000 in
theorem traded_walk (g : Nat) (rt v0 vol : Int) (b0 : 0 ≤ v0) (b3 : v0 ≤ vol) (b4 : vol ≤ 4611686018427387904) (w : World) (hc : w.cell? ⟨g, 14, none⟩ = some (.iface 64 (.agg #[.int .i64 rt, .int .i64 v0]))) :
    Calls Try.prog 26 #[.pointer (some ⟨g, 0, none⟩), .int .i64 vol] w fun e w' => e = .returned (.int .i64 (vol - v0)) ∧ Below w.heap.size w w' := by
  have h2 := fun v W => as_sy v W
  go_enter Try.func26, Try.ntmps26
  go_wp2_with fail
  go_ret
  exact ⟨rfl, by repeat (first | exact Below.refl _ _ | apply pw_below_drewN | refine Below.alloc ?_ (by simp <;> omega) _)⟩
set_option maxHeartbeats 8000000 in
set_option maxRecDepth 100000 in
theorem target_flow (g : Nat) (k sd q p al st en rt sh v0 now vol dn r1 r2 : Int) (id tg ac sy : ByteArray) (cA : Option Addr) (cn cc : Nat) (b1 : 0 ≤ now) (b2 : now ≤ 1099511627776) (b3 : v0 ≤ vol) (b4 : vol ≤ 4611686018427387904) (b5 : 0 ≤ dn) (b6 : dn ≤ q) (b7 : st ≤ now) (b0 : 0 ≤ v0)
    (hF : ∀ w : World, Calls Try.prog 25 #[.int .i64 q, .int .i64 rt, .int .i64 (vol - v0)] w fun e w' => e = .returned (.tuple #[.int .i64 r1, .int .i64 r2]) ∧ Below w.heap.size w w') (w : World)
    (hS : Blk w g 56 (slC k sd q p al st en rt sh id tg ac sy (.slice cA cn cc) (.iface 64 (.agg #[.int .i64 rt, .int .i64 v0])) v0)) :
    Calls Try.prog 9 #[.pointer (some ⟨g, 0, none⟩), .int .i64 now, .int .i64 vol, .int .i64 dn] w fun e w' => e = .returned (.tuple #[.int .i64 r1, .int .i64 r2]) ∧ Below w.heap.size w w' := by
  have y0 := hS.cell 0; have y1 := hS.cell 1; have y2 := hS.cell 2; have y3 := hS.cell 3; have y4 := hS.cell 4; have y5 := hS.cell 5; have y6 := hS.cell 6; have y7 := hS.cell 7; have y8 := hS.cell 8; have y9 := hS.cell 9; have y10 := hS.cell 10; have y11 := hS.cell 11; have y12 := hS.cell 12; have y13 := hS.cell 13; have y14 := hS.cell 14; have y15 := hS.cell 15
  simp at y0 y1 y2 y3 y4 y5 y6 y7 y8 y9 y10 y11 y12 y13 y14 y15
  have hlt := hS.lt
  have h1 := fun v W => as_a 64 v (.inl rfl) W
  have h2 := fun v W => as_sy v W
  have hi := fun W h => is_walk g #[] 64 (.agg #[.int .i64 rt, .int .i64 v0]) W h
  have HF := Lib.hid hF; have HI := Lib.hid hi; have HS := Lib.hid hS
  clear hF hi hS
  go_enter Try.func9, Try.ntmps9
  go_wp2_with (first | (go_at_call 23; (with_reducible refine (HI.out _ y14).mono ?_); rintro e wi ⟨rfl, rfl⟩) | go_in)
  have bA := (Blk.new wi 24 #[.int .i64 k, .string id, .string tg, .string ac, .string sy, .int .i64 sd, .int .i64 q, .int .i64 p, .int .i64 al, .int .i64 st, .int .i64 en, .int .i64 rt, .int .i64 sh, .slice cA cn cc]).alloc (.cells #[.int .i64 rt, .int .i64 v0] 64)
  have bX := Blk.new (wi.alloc (.cells #[.int .i64 k, .string id, .string tg, .string ac, .string sy, .int .i64 sd, .int .i64 q, .int .i64 p, .int .i64 al, .int .i64 st, .int .i64 en, .int .i64 rt, .int .i64 sh, .slice cA cn cc] 24)) 64 #[.int .i64 rt, .int .i64 v0]
  have e0 : (wi.alloc (.cells #[.int .i64 k, .string id, .string tg, .string ac, .string sy, .int .i64 sd, .int .i64 q, .int .i64 p, .int .i64 al, .int .i64 st, .int .i64 en, .int .i64 rt, .int .i64 sh, .slice cA cn cc] 24)).heap.size = wi.heap.size + 1 := by simp
  rw [e0] at bX
  have hB := ((Below.refl wi.heap.size wi).alloc (Nat.le_refl _) (.cells #[.int .i64 k, .string id, .string tg, .string ac, .string sy, .int .i64 sd, .int .i64 q, .int .i64 p, .int .i64 al, .int .i64 st, .int .i64 en, .int .i64 rt, .int .i64 sh, .slice cA cn cc] 24)).alloc (by omega) (.cells #[.int .i64 rt, .int .i64 v0] 64)
  have hS := HS.out.on hB
  clear e0 y0 y1 y2 y3 y4 y5 y6 y7 y8 y9 y10 y11 y12 y13 y14 y15 h1 h2
  generalize (wi.alloc (.cells #[.int .i64 k, .string id, .string tg, .string ac, .string sy, .int .i64 sd, .int .i64 q, .int .i64 p, .int .i64 al, .int .i64 st, .int .i64 en, .int .i64 rt, .int .i64 sh, .slice cA cn cc] 24)).alloc (.cells #[.int .i64 rt, .int .i64 v0] 64) = W at *
  have ht := fun w' (hb : Below W.heap.size W w') => traded_walk g rt v0 vol b0 b3 b4 w' ((hS.on hb).cell 14)
  have HT := Lib.hid ht
  have keepS : ∀ w', Below W.heap.size W w' → w'.cell? ⟨wi.heap.size, 6, none⟩ = some (.int .i64 q) ∧ w'.cell? ⟨wi.heap.size + 1, 0, none⟩ = some (.int .i64 rt) ∧ Below W.heap.size W w' := fun w' h => ⟨(bA.on h).cell 6, (bX.on h).cell 0, h⟩
  have KS := Lib.hid keepS
  obtain ⟨y0, y1, _⟩ := keepS W (Below.refl _ _)
  clear ht keepS hS bA bX HS
  go_region_held3 (fun w' => w'.cell? ⟨wi.heap.size, 6, none⟩ = some (.int .i64 q) ∧ w'.cell? ⟨wi.heap.size + 1, 0, none⟩ = some (.int .i64 rt) ∧ Below W.heap.size W w') (first | exact KS.out _ (by repeat (first | exact Below.refl _ _ | assumption | apply pw_below_drewN | apply below_drew1 | refine bt ?_ hb1 | refine bt ?_ hb2))) (first | (go_at_call 26; (with_reducible refine (HT.out _ (by repeat (first | exact Below.refl _ _ | assumption | apply pw_below_drewN | apply below_drew1 | refine bt ?_ hb2))).mono ?_); rintro e wa ⟨rfl, hb1⟩) | (go_at_call 25; (with_reducible refine (HF.out _).mono ?_); rintro e wb ⟨rfl, hb2⟩))
  all_goals (go_wp2_with fail)
  all_goals exact bodyPost_ret (v := .tuple #[.int .i64 r1, .int .i64 r2]) (by simp [results, Try.results9, go_sem]) rfl ⟨rfl, bt hB (by repeat (first | exact Below.refl _ _ | assumption | apply pw_below_drewN | apply below_drew1 | refine bt ?_ hb1 | refine bt ?_ hb2))⟩
set_option maxHeartbeats 8000000 in
set_option maxRecDepth 100000 in
theorem target_berg (g : Nat) (k sd q p al st en rt sh v0 now vol dn r1 r2 : Int) (id tg ac sy : ByteArray) (cA : Option Addr) (cn cc : Nat) (b1 : 0 ≤ now) (b2 : now ≤ 1099511627776) (b3 : v0 ≤ vol) (b4 : vol ≤ 4611686018427387904) (b5 : 0 ≤ dn) (b6 : dn ≤ q) (b7 : st ≤ now)
    (hF : ∀ w : World, Calls Try.prog 27 #[.int .i64 q, .int .i64 sh, .int .i64 dn] w fun e w' => e = .returned (.tuple #[.int .i64 r1, .int .i64 r2]) ∧ Below w.heap.size w w') (w : World)
    (hS : Blk w g 56 (slC k sd q p al st en rt sh id tg ac sy (.slice cA cn cc) (.iface 66 (.agg #[.int .i64 sh])) v0)) :
    Calls Try.prog 9 #[.pointer (some ⟨g, 0, none⟩), .int .i64 now, .int .i64 vol, .int .i64 dn] w fun e w' => e = .returned (.tuple #[.int .i64 r1, .int .i64 r2]) ∧ Below w.heap.size w w' := by
  have y0 := hS.cell 0; have y1 := hS.cell 1; have y2 := hS.cell 2; have y3 := hS.cell 3; have y4 := hS.cell 4; have y5 := hS.cell 5; have y6 := hS.cell 6; have y7 := hS.cell 7; have y8 := hS.cell 8; have y9 := hS.cell 9; have y10 := hS.cell 10; have y11 := hS.cell 11; have y12 := hS.cell 12; have y13 := hS.cell 13; have y14 := hS.cell 14; have y15 := hS.cell 15
  simp at y0 y1 y2 y3 y4 y5 y6 y7 y8 y9 y10 y11 y12 y13 y14 y15
  have hlt := hS.lt
  have h1 := fun v W => as_a 66 v (.inr (.inl rfl)) W
  have h2 := fun v W => as_s 66 v (.inr (.inl rfl)) W
  have h3 := fun v W => as_iy v W
  have hi := fun W h => is_walk g #[] 66 (.agg #[.int .i64 sh]) W h
  have HF := Lib.hid hF; have HI := Lib.hid hi; have HS := Lib.hid hS
  clear hF hi hS
  go_enter Try.func9, Try.ntmps9
  go_wp2_with (first | (go_at_call 23; (with_reducible refine (HI.out _ y14).mono ?_); rintro e wi ⟨rfl, rfl⟩) | (go_at_call 27; (with_reducible refine (HF.out _).mono ?_); rintro e wb ⟨rfl, hb2⟩) | go_in)
  exact bodyPost_ret (v := .tuple #[.int .i64 r1, .int .i64 r2]) (by simp [results, Try.results9, go_sem]) rfl ⟨rfl, bt (by repeat (first | exact Below.refl _ _ | apply pw_below_drewN | refine Below.alloc ?_ (by simp <;> omega) _)) hb2⟩
theorem flow_ex : flow_Target.f 8 100 2500 100 = some (25, 0) := by
  unfold flow_Target.f
  simp only [flow_between_int.f]
  rw [if_pos (by decide), Option.bind_some, if_pos (by decide), if_pos (by decide), Option.bind_some, if_pos (by decide), if_pos (by decide), Option.bind_some]
  simp only [flow_Target.j0]
  rw [if_neg (by decide), down_is 100 2500 10000 (by decide) (by decide) (by decide)]
  decide
theorem berg_ex : berg_Target.f 20 100 30 50 = some (80, 0) := by kernel_rfl
end Go.Proofs.Ytapfidpfjbacgaa.Hand
namespace Go.Proofs.Ytapfidpfjbacgaa.Hand
open Go Go.RowKit Go.Proofs.YtapfidpfjbacgaaW.PrintWords Go.Proofs.YtapfidpfjbacgaaW.PrintMore Go.Proofs.Ytapfidpfjbacgaa.RL Go.Proofs.Ytapfidpfjbacgaa.PL Go.Proofs.Ytapfidpfjbacgaa.F
theorem nm_p : nameV ⟨#[112]⟩ = true := by decide
theorem nm_A : nameV ⟨#[65]⟩ = true := by decide
theorem nm_X : nameV ⟨#[88]⟩ = true := by decide
set_option maxHeartbeats 8000000 in
set_option maxRecDepth 100000 in
theorem awake27 (w : World) : Calls Try.prog 6 #[] w fun e w' => e = .returned (.bool true) ∧ Below w.heap.size w w' := by
  have n1 := fun w => new_flow ⟨#[112]⟩ ⟨#[65]⟩ ⟨#[88]⟩ 1 100 9 0 5 2500 10 nm_p nm_A nm_X (by omega) (by omega) (by omega) (by omega) (by omega) (by omega) (by omega) (by omega) (by omega) (by omega) (by omega) (by omega) (by omega) (by omega) (by omega) w
  have n2 := fun w => new_berg ⟨#[112]⟩ ⟨#[65]⟩ ⟨#[88]⟩ 1 100 9 0 5 30 10 nm_p nm_A nm_X (by omega) (by omega) (by omega) (by omega) (by omega) (by omega) (by omega) (by omega) (by omega) (by omega) (by omega) (by omega) (by omega) (by omega) (by omega) w
  have N1 := Lib.hid n1; have N2 := Lib.hid n2
  have t1 := fun g w h => target_flow g 1 1 100 9 3 0 5 2500 0 10 1 110 0 25 0 ⟨#[112]⟩ ⟨#[]⟩ ⟨#[65]⟩ ⟨#[88]⟩ none 0 0 (by omega) (by omega) (by omega) (by omega) (by omega) (by omega) (by omega) (by omega) (fun w => flow_Target.calls 8 100 2500 (110 - 10) 25 0 w flow_ex) w h
  have t2 := fun g w h => target_berg g 1 1 100 9 4 0 5 0 30 10 1 10 50 80 0 ⟨#[112]⟩ ⟨#[]⟩ ⟨#[65]⟩ ⟨#[88]⟩ none 0 0 (by omega) (by omega) (by omega) (by omega) (by omega) (by omega) (by omega) (fun w => berg_Target.calls 20 100 30 50 80 0 w berg_ex) w h
  have T1 := Lib.hid t1; have T2 := Lib.hid t2
  clear n1 n2 t1 t2
  go_enter Try.func6, Try.ntmps6
  go_wp2_with fail
  have hA := Blk.new w 24 #[.int .i64 1, .string ⟨#[112]⟩, .string ⟨#[]⟩, .string ⟨#[65]⟩, .string ⟨#[88]⟩, .int .i64 1, .int .i64 100, .int .i64 9, .int .i64 3, .int .i64 0, .int .i64 5, .int .i64 2500, .int .i64 0, .slice none 0 0]
  have hB := (Below.refl w.heap.size w).alloc (Nat.le_refl _) (.cells #[.int .i64 1, .string ⟨#[112]⟩, .string ⟨#[]⟩, .string ⟨#[65]⟩, .string ⟨#[88]⟩, .int .i64 1, .int .i64 100, .int .i64 9, .int .i64 3, .int .i64 0, .int .i64 5, .int .i64 2500, .int .i64 0, .slice none 0 0] 24)
  generalize w.alloc (.cells #[.int .i64 1, .string ⟨#[112]⟩, .string ⟨#[]⟩, .string ⟨#[65]⟩, .string ⟨#[88]⟩, .int .i64 1, .int .i64 100, .int .i64 9, .int .i64 3, .int .i64 0, .int .i64 5, .int .i64 2500, .int .i64 0, .slice none 0 0] 24) = w1 at *
  refine (N1.out w1).mono ?_
  rintro e w2 ⟨g, hg, rfl, hG, b2⟩
  have hA := hA.on b2
  have hB := bt hB b2
  clear b2
  go_wp2_with fail
  refine (T1.out g w2 hG).mono ?_
  rintro e w3 ⟨rfl, b3⟩
  have hA := hA.on b3
  have hB := bt hB b3
  clear b3 hG hg
  have y0 := hA.cell 0; have y1 := hA.cell 1; have y2 := hA.cell 2; have y3 := hA.cell 3; have y4 := hA.cell 4; have y5 := hA.cell 5; have y6 := hA.cell 6; have y7 := hA.cell 7; have y8 := hA.cell 8; have y9 := hA.cell 9; have y10 := hA.cell 10; have y11 := hA.cell 11; have y12 := hA.cell 12; have y13 := hA.cell 13
  have f8 := hA.frozen 8; have f11 := hA.frozen 11; have f12 := hA.frozen 12
  simp at y0 y1 y2 y3 y4 y5 y6 y7 y8 y9 y10 y11 y12 y13
  go_upto_region 5 with (fail)
  have hA := ((hA.put 8 (.int .i64 4)).put 11 (.int .i64 0)).put 12 (.int .i64 30)
  have hB := below_set (below_set (below_set hB (p := ⟨w.heap.size, 8, none⟩) (Nat.le_refl _) (.int .i64 4)) (p := ⟨w.heap.size, 11, none⟩) (Nat.le_refl _) (.int .i64 0)) (p := ⟨w.heap.size, 12, none⟩) (Nat.le_refl _) (.int .i64 30)
  clear y0 y1 y2 y3 y4 y5 y6 y7 y8 y9 y10 y11 y12 y13 f8 f11 f12
  generalize ((w3.setCell ⟨w.heap.size, 8, none⟩ (.int .i64 4)).setCell ⟨w.heap.size, 11, none⟩ (.int .i64 0)).setCell ⟨w.heap.size, 12, none⟩ (.int .i64 30) = w4 at *
  have hA : Blk w4 w.heap.size 24 #[.int .i64 1, .string ⟨#[112]⟩, .string ⟨#[]⟩, .string ⟨#[65]⟩, .string ⟨#[88]⟩, .int .i64 1, .int .i64 100, .int .i64 9, .int .i64 4, .int .i64 0, .int .i64 5, .int .i64 0, .int .i64 30, .slice none 0 0] := hA
  have y0 := hA.cell 0; have y1 := hA.cell 1; have y2 := hA.cell 2; have y3 := hA.cell 3; have y4 := hA.cell 4; have y5 := hA.cell 5; have y6 := hA.cell 6; have y7 := hA.cell 7; have y8 := hA.cell 8; have y9 := hA.cell 9; have y10 := hA.cell 10; have y11 := hA.cell 11; have y12 := hA.cell 12; have y13 := hA.cell 13
  simp at y0 y1 y2 y3 y4 y5 y6 y7 y8 y9 y10 y11 y12 y13
  go_wp2_with fail
  refine (N2.out w4).mono ?_
  rintro e w5 ⟨g2, hg2, rfl, hG2, b5⟩
  have hB := bt hB b5
  clear y0 y1 y2 y3 y4 y5 y6 y7 y8 y9 y10 y11 y12 y13 b5 hA
  go_wp2_with fail
  refine (T2.out g2 w5 hG2).mono ?_
  rintro e w6 ⟨rfl, b6⟩
  have hB := bt hB b6
  go_wp2_with fail
  go_ret
  exact ⟨rfl, hB⟩
end Go.Proofs.Ytapfidpfjbacgaa.Hand
