/- The gate's law: Simple, right and awake, walked. -/
import Derived.Test.YtmeengcbfhhncaaGat
set_option linter.unusedVariables false
set_option linter.unusedSimpArgs false
namespace Go.Proofs.Ytmeengcbfhhncaa.Hand
open Go Go.RowKit Go.Proofs.YtmeengcbfhhncaaW.PrintWords Go.Proofs.YtmeengcbfhhncaaW.PrintMore Go.Proofs.YtmeengcbfhhncaaW.PrintLast Go.Proofs.Ytmeengcbfhhncaa.RL Go.Proofs.Ytmeengcbfhhncaa.PL Go.Proofs.Ytmeengcbfhhncaa.K
def accA : Acc := (⟨#[65]⟩, 1000000)
def symX : Sym := (⟨#[88]⟩, 10, 5, 1000, 100, 1000, 1000000)
def venV : Ven := (⟨#[86]⟩, 10, 0, 100, true)
abbrev simC (g : Nat) : Array Value := setC (.slice (some ⟨g, 0, none⟩) 1 1) (.slice (some ⟨g + 1, 0, none⟩) 1 1) (.slice (some ⟨g + 1 + 1, 0, none⟩) 1 1) 2 8 50 5 4 4
theorem four_blk (w : World) (t0 t1 t2 t3 : TypeId) (C0 C1 C2 C3 : Array Value) :
    Blk ((((w.alloc (.cells C0 t0)).alloc (.cells C1 t1)).alloc (.cells C2 t2)).alloc (.cells C3 t3)) w.heap.size t0 C0 ∧ Blk ((((w.alloc (.cells C0 t0)).alloc (.cells C1 t1)).alloc (.cells C2 t2)).alloc (.cells C3 t3)) (w.heap.size + 1) t1 C1 ∧ Blk ((((w.alloc (.cells C0 t0)).alloc (.cells C1 t1)).alloc (.cells C2 t2)).alloc (.cells C3 t3)) (w.heap.size + 1 + 1) t2 C2 ∧ Blk ((((w.alloc (.cells C0 t0)).alloc (.cells C1 t1)).alloc (.cells C2 t2)).alloc (.cells C3 t3)) (w.heap.size + 1 + 1 + 1) t3 C3 ∧ Below w.heap.size w ((((w.alloc (.cells C0 t0)).alloc (.cells C1 t1)).alloc (.cells C2 t2)).alloc (.cells C3 t3)) := by
  have z0 := Blk.new w t0 C0
  have B := (Below.refl w.heap.size w).alloc (Nat.le_refl _) (.cells C0 t0)
  have e0 : (w.alloc (.cells C0 t0)).heap.size = w.heap.size + 1 := by simp
  generalize w.alloc (.cells C0 t0) = w1 at *
  have z1 := Blk.new w1 t1 C1
  have z0 := z0.alloc (.cells C1 t1)
  have B := B.alloc (by omega) (.cells C1 t1)
  have e1 : (w1.alloc (.cells C1 t1)).heap.size = w1.heap.size + 1 := by simp
  generalize w1.alloc (.cells C1 t1) = w2 at *
  have z2 := Blk.new w2 t2 C2
  have z0 := z0.alloc (.cells C2 t2)
  have z1 := z1.alloc (.cells C2 t2)
  have B := B.alloc (by omega) (.cells C2 t2)
  have e2 : (w2.alloc (.cells C2 t2)).heap.size = w2.heap.size + 1 := by simp
  generalize w2.alloc (.cells C2 t2) = w3 at *
  have z3 := Blk.new w3 t3 C3
  have z0 := z0.alloc (.cells C3 t3)
  have z1 := z1.alloc (.cells C3 t3)
  have z2 := z2.alloc (.cells C3 t3)
  have B := B.alloc (by omega) (.cells C3 t3)
  rw [e0] at z1; rw [e1, e0] at z2; rw [e2, e1, e0] at z3
  exact ⟨z0, z1, z2, z3, B⟩
set_option maxHeartbeats 2000000 in
set_option maxRecDepth 100000 in
theorem simple_walk (w : World) : Calls Try.prog 13 #[] w fun e w' => ∃ g, w.heap.size ≤ g ∧ e = .returned (.agg (simC g)) ∧ Blk w' g 60 (cA accA).toArray ∧ Blk w' (g + 1) 23 (cS symX).toArray ∧ Blk w' (g + 1 + 1) 62 (cV venV).toArray ∧ Below w.heap.size w w' := by
  go_enter Try.func13, Try.ntmps13
  go_wp2_with fail
  obtain ⟨z0, z1, z2, z3, B⟩ := four_blk w 44 60 23 62 (simC (w.heap.size + 1)) #[.string ⟨#[65]⟩, .int .i64 1000000] #[.string ⟨#[88]⟩, .int .i64 10, .int .i64 5, .int .i64 1000, .int .i64 100, .int .i64 1000, .int .i64 1000000] #[.string ⟨#[86]⟩, .int .i64 10, .int .i64 0, .int .i64 100, .bool true]
  generalize (((w.alloc (.cells (simC (w.heap.size + 1)) 44)).alloc (.cells #[.string ⟨#[65]⟩, .int .i64 1000000] 60)).alloc (.cells #[.string ⟨#[88]⟩, .int .i64 10, .int .i64 5, .int .i64 1000, .int .i64 100, .int .i64 1000, .int .i64 1000000] 23)).alloc (.cells #[.string ⟨#[86]⟩, .int .i64 10, .int .i64 0, .int .i64 100, .bool true] 62) = w4 at *
  have c0 := z0.cell 0; have c1 := z0.cell 1; have c2 := z0.cell 2; have c3 := z0.cell 3; have c4 := z0.cell 4; have c5 := z0.cell 5; have c6 := z0.cell 6; have c7 := z0.cell 7; have c8 := z0.cell 8
  simp at c0 c1 c2 c3 c4 c5 c6 c7 c8
  exact bodyPost_ret (v := .agg (simC (w.heap.size + 1))) (by simp [results, Try.results13, go_sem, c0, c1, c2, c3, c4, c5, c6, c7, c8]) rfl ⟨w.heap.size + 1, by omega, rfl, z1, z2, z3, B⟩
theorem one_C {α : Type} (d : Kd α) (c : List Value) (x : α) {w : World} {g : Nat} {t : TypeId} (hK : d.K w x c) (hb : Blk w g t c.toArray) : Kd.C d w (some ⟨g, 0, none⟩) 1 [x] := by
  refine ⟨rfl, by decide, fun _ => ⟨_, rfl, fun j p hj => ?_⟩⟩
  match j, hj with
  | 0, hj =>
    obtain rfl : x = p := by simpa using hj
    refine ⟨c, d.K_len hK, hK, fun i u hu => ?_⟩
    have h2 : w.cell? ⟨g, i, none⟩ = some u := by rw [hb.cell i]; simpa using hu
    rw [Nat.zero_mul, Nat.zero_add]
    unfold Addr.add
    split
    · rename_i h0; subst h0; exact h2
    · show w.cell? ⟨g, 0 + i, none⟩ = some u; rw [Nat.zero_add]; exact h2
theorem put7 {W : World} {g : Nat} {t : TypeId} {C : Array Value} (h : Blk W g t C) (v0 v1 v2 v3 v4 v5 v6 : Value) : Blk (((((((W.setCell ⟨g, 0, none⟩ v0).setCell ⟨g, 1, none⟩ v1).setCell ⟨g, 2, none⟩ v2).setCell ⟨g, 3, none⟩ v3).setCell ⟨g, 4, none⟩ v4).setCell ⟨g, 5, none⟩ v5).setCell ⟨g, 6, none⟩ v6) g t (((((((C.setIfInBounds 0 v0).setIfInBounds 1 v1).setIfInBounds 2 v2).setIfInBounds 3 v3).setIfInBounds 4 v4).setIfInBounds 5 v5).setIfInBounds 6 v6) := (((((((h.put 0 v0).put 1 v1).put 2 v2).put 3 v3).put 4 v4).put 5 v5).put 6 v6)
theorem far7 {W : World} {g g' : Nat} {t : TypeId} {C : Array Value} (h : Blk W g' t C) (hne : g' ≠ g) (v0 v1 v2 v3 v4 v5 v6 : Value) : Blk (((((((W.setCell ⟨g, 0, none⟩ v0).setCell ⟨g, 1, none⟩ v1).setCell ⟨g, 2, none⟩ v2).setCell ⟨g, 3, none⟩ v3).setCell ⟨g, 4, none⟩ v4).setCell ⟨g, 5, none⟩ v5).setCell ⟨g, 6, none⟩ v6) g' t C := (((((((h.far (p := ⟨g, 0, none⟩) (show g' ≠ g from hne) v0).far (p := ⟨g, 1, none⟩) (show g' ≠ g from hne) v1).far (p := ⟨g, 2, none⟩) (show g' ≠ g from hne) v2).far (p := ⟨g, 3, none⟩) (show g' ≠ g from hne) v3).far (p := ⟨g, 4, none⟩) (show g' ≠ g from hne) v4).far (p := ⟨g, 5, none⟩) (show g' ≠ g from hne) v5).far (p := ⟨g, 6, none⟩) (show g' ≠ g from hne) v6)
theorem bel7 {W0 W : World} {b g : Nat} (h : Below b W0 W) (hb : b ≤ g) (v0 v1 v2 v3 v4 v5 v6 : Value) : Below b W0 (((((((W.setCell ⟨g, 0, none⟩ v0).setCell ⟨g, 1, none⟩ v1).setCell ⟨g, 2, none⟩ v2).setCell ⟨g, 3, none⟩ v3).setCell ⟨g, 4, none⟩ v4).setCell ⟨g, 5, none⟩ v5).setCell ⟨g, 6, none⟩ v6) := (((((((h.setCell (p := ⟨g, 0, none⟩) (show b ≤ g from hb) v0).setCell (p := ⟨g, 1, none⟩) (show b ≤ g from hb) v1).setCell (p := ⟨g, 2, none⟩) (show b ≤ g from hb) v2).setCell (p := ⟨g, 3, none⟩) (show b ≤ g from hb) v3).setCell (p := ⟨g, 4, none⟩) (show b ≤ g from hb) v4).setCell (p := ⟨g, 5, none⟩) (show b ≤ g from hb) v5).setCell (p := ⟨g, 6, none⟩) (show b ≤ g from hb) v6)
set_option maxHeartbeats 4000000 in
set_option maxRecDepth 100000 in
theorem right16 (s : ByteArray) (n1 n2 n3 n4 n5 n6 : Int) (w : World) : Calls Try.prog 7 #[.agg #[.string s, .int .i64 n1, .int .i64 n2, .int .i64 n3, .int .i64 n4, .int .i64 n5, .int .i64 n6]] w (RigB w [(s, n1, n2, n3, n4, n5, n6)]) := by
  have hS := Blk.new w 23 #[.string s, .int .i64 n1, .int .i64 n2, .int .i64 n3, .int .i64 n4, .int .i64 n5, .int .i64 n6]
  have hB := (Below.refl w.heap.size w).alloc (Nat.le_refl _) (.cells #[.string s, .int .i64 n1, .int .i64 n2, .int .i64 n3, .int .i64 n4, .int .i64 n5, .int .i64 n6] 23)
  have hlt : w.heap.size < (w.alloc (.cells #[.string s, .int .i64 n1, .int .i64 n2, .int .i64 n3, .int .i64 n4, .int .i64 n5, .int .i64 n6] 23)).heap.size := by simp
  go_enter Try.func7, Try.ntmps7
  go_wp2_with fail
  generalize w.alloc (.cells #[.string s, .int .i64 n1, .int .i64 n2, .int .i64 n3, .int .i64 n4, .int .i64 n5, .int .i64 n6] 23) = w0 at *
  refine (simple_walk w0).mono ?_
  rintro e w1 ⟨g, hg, rfl, z1, z2, z3, b1⟩
  have hS := hS.on b1
  have hB := bt hB b1
  have hg1 : w.heap.size < g := Nat.lt_of_lt_of_le hlt hg
  have hX := Blk.new w1 44 (simC g)
  have hS := hS.alloc (.cells (simC g) 44)
  have l2 := z2.lt
  have l3 := z3.lt
  have z1 := z1.alloc (.cells (simC g) 44)
  have z2 := z2.alloc (.cells (simC g) 44)
  have z3 := z3.alloc (.cells (simC g) 44)
  have hB := hB.alloc hB.size (.cells (simC g) 44)
  clear b1 hg
  go_upto_region 2 with (fail)
  generalize w1.alloc (.cells (simC g) 44) = w2 at *
  generalize w1.heap.size = ob at *
  have c1 := hX.cell 1
  have y0 := hS.cell 0; have y1 := hS.cell 1; have y2 := hS.cell 2; have y3 := hS.cell 3; have y4 := hS.cell 4; have y5 := hS.cell 5; have y6 := hS.cell 6
  have u0 := z2.cell 0; have u1 := z2.cell 1; have u2 := z2.cell 2; have u3 := z2.cell 3; have u4 := z2.cell 4; have u5 := z2.cell 5; have u6 := z2.cell 6
  have f0 := z2.frozen 0; have f1 := z2.frozen 1; have f2 := z2.frozen 2; have f3 := z2.frozen 3; have f4 := z2.frozen 4; have f5 := z2.frozen 5; have f6 := z2.frozen 6
  simp [cS, symX] at c1 y0 y1 y2 y3 y4 y5 y6 u0 u1 u2 u3 u4 u5 u6
  go_upto_region 3 with (fail)
  have P2 := put7 z2 (.string s) (.int .i64 n1) (.int .i64 n2) (.int .i64 n3) (.int .i64 n4) (.int .i64 n5) (.int .i64 n6)
  have P1 := far7 (g := g + 1) z1 (by omega) (.string s) (.int .i64 n1) (.int .i64 n2) (.int .i64 n3) (.int .i64 n4) (.int .i64 n5) (.int .i64 n6)
  have P3 := far7 (g := g + 1) z3 (by omega) (.string s) (.int .i64 n1) (.int .i64 n2) (.int .i64 n3) (.int .i64 n4) (.int .i64 n5) (.int .i64 n6)
  have PS := far7 (g := g + 1) hS (by omega) (.string s) (.int .i64 n1) (.int .i64 n2) (.int .i64 n3) (.int .i64 n4) (.int .i64 n5) (.int .i64 n6)
  have PX := far7 (g := g + 1) hX (by omega) (.string s) (.int .i64 n1) (.int .i64 n2) (.int .i64 n3) (.int .i64 n4) (.int .i64 n5) (.int .i64 n6)
  have PB := bel7 (g := g + 1) hB (by omega) (.string s) (.int .i64 n1) (.int .i64 n2) (.int .i64 n3) (.int .i64 n4) (.int .i64 n5) (.int .i64 n6)
  clear hS hX z1 z2 z3 hB c1 y0 y1 y2 y3 y4 y5 y6 u0 u1 u2 u3 u4 u5 u6 f0 f1 f2 f3 f4 f5 f6
  generalize ((((((w2.setCell ⟨g + 1, 0, none⟩ (.string s)).setCell ⟨g + 1, 1, none⟩ (.int .i64 n1)).setCell ⟨g + 1, 2, none⟩ (.int .i64 n2)).setCell ⟨g + 1, 3, none⟩ (.int .i64 n3)).setCell ⟨g + 1, 4, none⟩ (.int .i64 n4)).setCell ⟨g + 1, 5, none⟩ (.int .i64 n5)).setCell ⟨g + 1, 6, none⟩ (.int .i64 n6) = w3 at *
  have P2 : Blk w3 (g + 1) 23 (cS (s, n1, n2, n3, n4, n5, n6)).toArray := P2
  have K1 := one_C kA _ accA (kA_mk w3 accA) P1
  have K2 := one_C kS _ (s, n1, n2, n3, n4, n5, n6) (kS_mk w3 (s, n1, n2, n3, n4, n5, n6)) P2
  have K3 := one_C kV _ venV (kV_mk w3 venV) P3
  have c0 := PX.cell 0; have c1 := PX.cell 1; have c2 := PX.cell 2; have c3 := PX.cell 3; have c4 := PX.cell 4; have c5 := PX.cell 5; have c6 := PX.cell 6; have c7 := PX.cell 7; have c8 := PX.cell 8
  have y0 := PS.cell 0
  simp at c0 c1 c2 c3 c4 c5 c6 c7 c8 y0
  have KP := Lib.hid (plain_walk (some ⟨g, 0, none⟩) (some ⟨g + 1, 0, none⟩) (some ⟨g + 1 + 1, 0, none⟩) 1 1 1 1 1 1 [accA] [(s, n1, n2, n3, n4, n5, n6)] [venV] 2 8 50 5 4 4 w3 rfl rfl rfl (by decide) (by decide) (by decide) K1 K2 K3 (Nat.le_refl _) (Nat.le_refl _) (Nat.le_refl _))
  have HPB := Lib.hid PB
  clear P1 P2 P3 PS PX PB K1 K2 K3
  by_cases hs : s.size ≤ 200
  · go_wp2_with fail
    refine KP.out.mono ?_
    rintro e w4 ⟨B1, B2, B3, d1, d2, d3, rfl, q1, q2, q3, _, _, _, b4⟩
    go_wp2_with fail
    refine (right_walk B1 B2 B3 d1 d2 d3 1 1 1 [accA] [(s, n1, n2, n3, n4, n5, n6)] [venV] 2 8 50 5 4 4 w4 rfl rfl rfl (by decide) (by decide) (by decide) q1 q2 q3 (fun x hx => by rw [List.mem_singleton.1 hx]; decide) (fun x hx => by rw [List.mem_singleton.1 hx]; show s.size ≤ 1000; omega) (fun x hx => by rw [List.mem_singleton.1 hx]; decide)).mono ?_
    rintro e w5 ⟨b, rfl, hb, b5⟩
    go_wp2_with fail
    go_ret
    exact ⟨b, rfl, hb, bt (bt HPB.out b4) b5⟩
  · go_wp2_with fail
    go_ret
    exact RigB.no HPB.out
theorem check_calls (s : ByteArray) (lot tick mid wid most worth side q p : Int) (h : SymOk lot tick mid wid most worth) (w : World) : Calls Try.prog 8 #[.agg #[.string s, .int .i64 lot, .int .i64 tick, .int .i64 mid, .int .i64 wid, .int .i64 most, .int .i64 worth], .int .i64 side, .int .i64 q, .int .i64 p] w fun e w' => e = .returned (.tuple #[.int .i64 (chk lot tick mid wid most worth side q p).1, .int .i64 (chk lot tick mid wid most worth side q p).2.1, .int .i64 (chk lot tick mid wid most worth side q p).2.2]) ∧ Below w.heap.size w w' :=
  gate_Check.calls 8 _ _ _ _ _ _ _ _ _ _ _ _ _ w (chk_is h side q p)
theorem symX_ok : SymOk 10 5 1000 100 1000 1000000 := SymOk.of (x := symX) (by decide)
set_option maxHeartbeats 4000000 in
set_option maxRecDepth 100000 in
theorem awake16 (w : World) : Calls Try.prog 6 #[] w fun e w' => e = .returned (.bool true) ∧ Below w.heap.size w w' := by
  have k1 := fun w => check_calls ⟨#[88]⟩ 10 5 1000 100 1000 1000000 2 20 1000 symX_ok w
  have k2 := fun w => check_calls ⟨#[88]⟩ 10 5 1000 100 1000 1000000 2 20 1003 symX_ok w
  rw [show chk 10 5 1000 100 1000 1000000 2 20 1000 = (1010, 20200, 0) by decide] at k1
  rw [show chk 10 5 1000 100 1000 1000000 2 20 1003 = (0, 0, 21) by decide] at k2
  have K1 := Lib.hid k1; have K2 := Lib.hid k2
  clear k1 k2
  go_enter Try.func6, Try.ntmps6
  go_wp2_with fail
  refine (simple_walk w).mono ?_
  rintro e w1 ⟨g, hg, rfl, z1, z2, z3, b1⟩
  have u0 := z2.cell 0; have u1 := z2.cell 1; have u2 := z2.cell 2; have u3 := z2.cell 3; have u4 := z2.cell 4; have u5 := z2.cell 5; have u6 := z2.cell 6
  simp [cS, symX] at u0 u1 u2 u3 u4 u5 u6
  clear z1 z2 z3
  have hf : (Instr.field 44 (.agg (simC g)) 1).run Try.prog w1 = .ok (.slice (some ⟨g + 1, 0, none⟩) 1 1) w1 := by kernel_rfl
  go_wp2_with fail
  have hS := Blk.new w1 23 #[.string ⟨#[88]⟩, .int .i64 10, .int .i64 5, .int .i64 1000, .int .i64 100, .int .i64 1000, .int .i64 1000000]
  have hB := b1.alloc b1.size (.cells #[.string ⟨#[88]⟩, .int .i64 10, .int .i64 5, .int .i64 1000, .int .i64 100, .int .i64 1000, .int .i64 1000000] 23)
  generalize w1.alloc (.cells #[.string ⟨#[88]⟩, .int .i64 10, .int .i64 5, .int .i64 1000, .int .i64 100, .int .i64 1000, .int .i64 1000000] 23) = w2 at *
  generalize w1.heap.size = ob at *
  clear u0 u1 u2 u3 u4 u5 u6 hf
  refine (K1.out w2).mono ?_
  rintro e w3 ⟨rfl, b3⟩
  have hS := hS.on b3
  have hB := bt hB b3
  have u0 := hS.cell 0; have u1 := hS.cell 1; have u2 := hS.cell 2; have u3 := hS.cell 3; have u4 := hS.cell 4; have u5 := hS.cell 5; have u6 := hS.cell 6
  simp at u0 u1 u2 u3 u4 u5 u6
  clear b3
  go_wp2_with fail
  refine (K2.out w3).mono ?_
  rintro e w4 ⟨rfl, b4⟩
  have hB := bt hB b4
  clear u0 u1 u2 u3 u4 u5 u6
  go_wp2_with fail
  go_ret
  exact ⟨rfl, hB⟩
end Go.Proofs.Ytmeengcbfhhncaa.Hand
