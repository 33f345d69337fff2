/- The slicer's examples, walked. -/
import Derived.Test.YtapfidpfjbacgaaPl
import Derived.Test.YtapfidpfjbacgaaBlk
import Derived.Test.YtapfidpfjbacgaaVar
import Derived.Test.YtapfidpfjbacgaaHandE
import Derived.Laws.MakeOwn
import Derived.Laws.OwnMore
import Derived.LoopTactic
import Derived.BigRegion
import Derived.Outline
import Derived.Deep.QuietTactic
import Derived.BigQuiet
set_option linter.unusedVariables false
set_option linter.unusedSimpArgs false
namespace Go.Proofs.Ytapfidpfjbacgaa.Hand
open Go Go.RowKit Go.Proofs.YtapfidpfjbacgaaW.PrintWords Go.Proofs.YtapfidpfjbacgaaW.PrintMore Go.Proofs.Ytapfidpfjbacgaa.RL Go.Proofs.Ytapfidpfjbacgaa.PL
set_option maxHeartbeats 4000000 in
set_option maxRecDepth 100000 in
theorem algo3 (k sd q p st en rt : Int) (id tg ac sy : ByteArray) (h : 1 ≤ rt ∧ rt ≤ 10000) (w : World) : Calls Try.prog 68 #[.agg #[.int .i64 k, .string id, .string tg, .string ac, .string sy, .int .i64 sd, .int .i64 q, .int .i64 p, .int .i64 3, .int .i64 st, .int .i64 en, .int .i64 rt, .int .i64 0, .slice none 0 0]] w fun e w' => e = .returned (.bool true) ∧ ∃ o m, w' = (w.alloc o).drewN m := by
  obtain ⟨h1, h2⟩ := h
  go_enter Try.func68, Try.ntmps68
  go_wp2_with fail
  go_quiet (fail)
  go_wp2_with go_in
  go_ret
  exact ⟨rfl, _, _, rfl⟩
set_option maxHeartbeats 4000000 in
set_option maxRecDepth 100000 in
theorem algo4 (k sd q p st en sh : Int) (id tg ac sy : ByteArray) (h : 1 ≤ sh ∧ sh ≤ 1099511627776) (w : World) : Calls Try.prog 68 #[.agg #[.int .i64 k, .string id, .string tg, .string ac, .string sy, .int .i64 sd, .int .i64 q, .int .i64 p, .int .i64 4, .int .i64 st, .int .i64 en, .int .i64 0, .int .i64 sh, .slice none 0 0]] w fun e w' => e = .returned (.bool true) ∧ ∃ o m, w' = (w.alloc o).drewN m := by
  obtain ⟨h1, h2⟩ := h
  go_enter Try.func68, Try.ntmps68
  go_wp2_with fail
  go_quiet (fail)
  go_wp2_with go_in
  go_ret
  exact ⟨rfl, _, _, rfl⟩
theorem clone_nil (w : World) : Calls Try.prog 22 #[.slice none 0 0] w fun e w' => e = .returned (.slice none 0 0) ∧ w' = w := by
  have hq : (binOp .eql 22 (.slice none 0 0) (.slice none 0 0)).run Try.prog w = .ok (.bool true) w := by kernel_rfl
  go_enter Try.func22, Try.ntmps22
  go_wp2_with fail
  go_ret
  exact ⟨rfl, rfl⟩
/-- A world is put out of sight: all that is kept is what lay below. -/
theorem hidW {Q : World → Prop} {W : World} (w0 : World) (hb : Below w0.heap.size w0 W) (h : ∀ W', Below w0.heap.size w0 W' → Q W') : Q W := h W hb
theorem Blk.on {w w' : World} {g : Nat} {t : TypeId} {cs : Array Value} (h : Blk w g t cs) (hb : Below w.heap.size w w') : Blk w' g t cs := h.below hb h.lt
theorem below_set {B : Nat} {w0 w : World} (h : Below B w0 w) {p : Addr} (hp : B ≤ p.block) (u : Value) : Below B w0 (w.setCell p u) := h.setCell hp u
theorem below_drewN_mk {B : Nat} {w0 w : World} (h : Below B w0 w) (n : Nat) : Below B w0 (w.drewN n) := pw_below_drewN h n
set_option maxHeartbeats 8000000 in
set_option maxRecDepth 100000 in
theorem aright_flow (id ac sy : ByteArray) (sd q p st en rt : Int) (n1 : nameV id = true) (n2 : nameV ac = true) (n3 : nameV sy = true) (h1 : 1 ≤ sd) (h2 : sd ≤ 2) (h3 : 1 ≤ q) (h4 : q ≤ 1099511627776) (h5 : 1 ≤ p) (h6 : p ≤ 1099511627776) (h7 : 0 ≤ st) (h8 : st ≤ 1099511627776) (h9 : 0 ≤ en) (h10 : en ≤ 1099511627776) (h11 : 1 ≤ en - st) (h12 : en - st ≤ 1073741824) (ha : 1 ≤ rt ∧ rt ≤ 10000) (w : World) :
    Calls Try.prog 20 #[.agg #[.int .i64 1, .string id, .string ⟨#[]⟩, .string ac, .string sy, .int .i64 sd, .int .i64 q, .int .i64 p, .int .i64 3, .int .i64 st, .int .i64 en, .int .i64 rt, .int .i64 0, .slice none 0 0]] w fun e w' => e = .returned (.bool true) ∧ Below w.heap.size w w' := by
  have v1 := fun w => rvalid_walk id w
  have v2 := fun w => rvalid_walk ac w
  have v3 := fun w => rvalid_walk sy w
  rw [n1] at v1; rw [n2] at v2; rw [n3] at v3
  have a1 := fun w => algo3 1 sd q p st en rt id ⟨#[]⟩ ac sy ha w
  have V1 := Lib.hid v1; have V2 := Lib.hid v2; have V3 := Lib.hid v3; have A1 := Lib.hid a1
  clear v1 v2 v3 a1 n1 n2 n3
  go_enter Try.func20, Try.ntmps20
  go_wp2_with (first | (go_at_call 39; first | ((with_reducible refine (V1.out _).mono ?_); rintro e wa ⟨rfl, pa, rfl⟩) | ((with_reducible refine (V2.out _).mono ?_); rintro e wb ⟨rfl, pb, rfl⟩) | ((with_reducible refine (V3.out _).mono ?_); rintro e wc ⟨rfl, pc, rfl⟩)) | (go_at_call 68; (with_reducible refine (A1.out _).mono ?_); rintro e wd ⟨rfl, od, nd, rfl⟩) | go_in)
  go_ret
  exact ⟨rfl, by repeat (first | exact Below.refl _ _ | apply pw_below_drewN | refine Below.alloc ?_ (by simp <;> omega) _)⟩
set_option maxHeartbeats 8000000 in
set_option maxRecDepth 100000 in
theorem new_flow (id ac sy : ByteArray) (sd q p st en rt v : Int) (n1 : nameV id = true) (n2 : nameV ac = true) (n3 : nameV sy = true) (h1 : 1 ≤ sd) (h2 : sd ≤ 2) (h3 : 1 ≤ q) (h4 : q ≤ 1099511627776) (h5 : 1 ≤ p) (h6 : p ≤ 1099511627776) (h7 : 0 ≤ st) (h8 : st ≤ 1099511627776) (h9 : 0 ≤ en) (h10 : en ≤ 1099511627776) (h11 : 1 ≤ en - st) (h12 : en - st ≤ 1073741824) (ha : 1 ≤ rt ∧ rt ≤ 10000) (hv1 : 0 ≤ v) (hv2 : v ≤ 4611686018427387904) (w : World) :
    Calls Try.prog 8 #[.agg #[.int .i64 1, .string id, .string ⟨#[]⟩, .string ac, .string sy, .int .i64 sd, .int .i64 q, .int .i64 p, .int .i64 3, .int .i64 st, .int .i64 en, .int .i64 rt, .int .i64 0, .slice none 0 0], .int .i64 v] w fun e w' => ∃ g, w.heap.size ≤ g ∧ e = .returned (.tuple #[.pointer (some ⟨g, 0, none⟩), .int .i64 0]) ∧ Blk w' g 56 #[.int .i64 1, .string id, .string ⟨#[]⟩, .string ac, .string sy, .int .i64 sd, .int .i64 q, .int .i64 p, .int .i64 3, .int .i64 st, .int .i64 en, .int .i64 rt, .int .i64 0, .slice none 0 0, .iface 64 (.agg #[.int .i64 rt, .int .i64 v]), .int .i64 v] ∧ Below w.heap.size w w' := by
  have r := fun w => aright_flow id ac sy sd q p st en rt n1 n2 n3 h1 h2 h3 h4 h5 h6 h7 h8 h9 h10 h11 h12 ha w
  have R := Lib.hid r
  have hX := Blk.new w 24 #[.int .i64 1, .string id, .string ⟨#[]⟩, .string ac, .string sy, .int .i64 sd, .int .i64 q, .int .i64 p, .int .i64 3, .int .i64 st, .int .i64 en, .int .i64 rt, .int .i64 0, .slice none 0 0]
  have hB := (Below.refl w.heap.size w).alloc (Nat.le_refl _) (.cells #[.int .i64 1, .string id, .string ⟨#[]⟩, .string ac, .string sy, .int .i64 sd, .int .i64 q, .int .i64 p, .int .i64 3, .int .i64 st, .int .i64 en, .int .i64 rt, .int .i64 0, .slice none 0 0] 24)
  clear r n1 n2 n3 ha
  go_enter Try.func8, Try.ntmps8
  go_upto_region 3 with (first | (go_at_call 20; (with_reducible refine (R.out _).mono ?_); rintro e wr ⟨rfl, hb⟩; have hX := hX.on hb; have hB := bt hB hb; have c13 := hX.cell 13; have f13 := hX.frozen 13; simp at c13) | go_in)
  go_upto_region 4 with (go_at_call 22; (with_reducible refine (clone_nil _).mono ?_); rintro e we ⟨rfl, rfl⟩)
  have hX := hX.put 13 (.slice none 0 0)
  have hB := below_set hB (p := ⟨w.heap.size, 13, none⟩) (Nat.le_refl _) (.slice none 0 0)
  generalize we.setCell ⟨w.heap.size, 13, none⟩ (.slice none 0 0) = W2 at *
  have hX : Blk W2 w.heap.size 24 #[.int .i64 1, .string id, .string ⟨#[]⟩, .string ac, .string sy, .int .i64 sd, .int .i64 q, .int .i64 p, .int .i64 3, .int .i64 st, .int .i64 en, .int .i64 rt, .int .i64 0, .slice none 0 0] := hX
  have y0 := hX.cell 0; have y1 := hX.cell 1; have y2 := hX.cell 2; have y3 := hX.cell 3; have y4 := hX.cell 4; have y5 := hX.cell 5; have y6 := hX.cell 6; have y7 := hX.cell 7; have y8 := hX.cell 8; have y9 := hX.cell 9; have y10 := hX.cell 10; have y11 := hX.cell 11; have y12 := hX.cell 12; have y13 := hX.cell 13
  simp at y0 y1 y2 y3 y4 y5 y6 y7 y8 y9 y10 y11 y12 y13
  have hlt := hX.lt
  clear c13 f13
  go_wp2_with fail
  exact bodyPost_ret (v := .tuple #[.pointer (some ⟨W2.heap.size, 0, none⟩), .int .i64 0]) (by simp [results, Try.results8, go_sem]) rfl ⟨W2.heap.size, hB.size, rfl, Blk.new _ _ _, hB.alloc hB.size _⟩
set_option maxHeartbeats 8000000 in
set_option maxRecDepth 100000 in
theorem aright_berg (id ac sy : ByteArray) (sd q p st en sh : Int) (n1 : nameV id = true) (n2 : nameV ac = true) (n3 : nameV sy = true) (h1 : 1 ≤ sd) (h2 : sd ≤ 2) (h3 : 1 ≤ q) (h4 : q ≤ 1099511627776) (h5 : 1 ≤ p) (h6 : p ≤ 1099511627776) (h7 : 0 ≤ st) (h8 : st ≤ 1099511627776) (h9 : 0 ≤ en) (h10 : en ≤ 1099511627776) (h11 : 1 ≤ en - st) (h12 : en - st ≤ 1073741824) (ha : 1 ≤ sh ∧ sh ≤ 1099511627776) (w : World) :
    Calls Try.prog 20 #[.agg #[.int .i64 1, .string id, .string ⟨#[]⟩, .string ac, .string sy, .int .i64 sd, .int .i64 q, .int .i64 p, .int .i64 4, .int .i64 st, .int .i64 en, .int .i64 0, .int .i64 sh, .slice none 0 0]] w fun e w' => e = .returned (.bool true) ∧ Below w.heap.size w w' := by
  have v1 := fun w => rvalid_walk id w
  have v2 := fun w => rvalid_walk ac w
  have v3 := fun w => rvalid_walk sy w
  rw [n1] at v1; rw [n2] at v2; rw [n3] at v3
  have a1 := fun w => algo4 1 sd q p st en sh id ⟨#[]⟩ ac sy ha w
  have V1 := Lib.hid v1; have V2 := Lib.hid v2; have V3 := Lib.hid v3; have A1 := Lib.hid a1
  clear v1 v2 v3 a1 n1 n2 n3
  go_enter Try.func20, Try.ntmps20
  go_wp2_with (first | (go_at_call 39; first | ((with_reducible refine (V1.out _).mono ?_); rintro e wa ⟨rfl, pa, rfl⟩) | ((with_reducible refine (V2.out _).mono ?_); rintro e wb ⟨rfl, pb, rfl⟩) | ((with_reducible refine (V3.out _).mono ?_); rintro e wc ⟨rfl, pc, rfl⟩)) | (go_at_call 68; (with_reducible refine (A1.out _).mono ?_); rintro e wd ⟨rfl, od, nd, rfl⟩) | go_in)
  go_ret
  exact ⟨rfl, by repeat (first | exact Below.refl _ _ | apply pw_below_drewN | refine Below.alloc ?_ (by simp <;> omega) _)⟩
set_option maxHeartbeats 8000000 in
set_option maxRecDepth 100000 in
theorem new_berg (id ac sy : ByteArray) (sd q p st en sh v : Int) (n1 : nameV id = true) (n2 : nameV ac = true) (n3 : nameV sy = true) (h1 : 1 ≤ sd) (h2 : sd ≤ 2) (h3 : 1 ≤ q) (h4 : q ≤ 1099511627776) (h5 : 1 ≤ p) (h6 : p ≤ 1099511627776) (h7 : 0 ≤ st) (h8 : st ≤ 1099511627776) (h9 : 0 ≤ en) (h10 : en ≤ 1099511627776) (h11 : 1 ≤ en - st) (h12 : en - st ≤ 1073741824) (ha : 1 ≤ sh ∧ sh ≤ 1099511627776) (hv1 : 0 ≤ v) (hv2 : v ≤ 4611686018427387904) (w : World) :
    Calls Try.prog 8 #[.agg #[.int .i64 1, .string id, .string ⟨#[]⟩, .string ac, .string sy, .int .i64 sd, .int .i64 q, .int .i64 p, .int .i64 4, .int .i64 st, .int .i64 en, .int .i64 0, .int .i64 sh, .slice none 0 0], .int .i64 v] w fun e w' => ∃ g, w.heap.size ≤ g ∧ e = .returned (.tuple #[.pointer (some ⟨g, 0, none⟩), .int .i64 0]) ∧ Blk w' g 56 #[.int .i64 1, .string id, .string ⟨#[]⟩, .string ac, .string sy, .int .i64 sd, .int .i64 q, .int .i64 p, .int .i64 4, .int .i64 st, .int .i64 en, .int .i64 0, .int .i64 sh, .slice none 0 0, .iface 66 (.agg #[.int .i64 sh]), .int .i64 v] ∧ Below w.heap.size w w' := by
  have r := fun w => aright_berg id ac sy sd q p st en sh n1 n2 n3 h1 h2 h3 h4 h5 h6 h7 h8 h9 h10 h11 h12 ha w
  have R := Lib.hid r
  have hX := Blk.new w 24 #[.int .i64 1, .string id, .string ⟨#[]⟩, .string ac, .string sy, .int .i64 sd, .int .i64 q, .int .i64 p, .int .i64 4, .int .i64 st, .int .i64 en, .int .i64 0, .int .i64 sh, .slice none 0 0]
  have hB := (Below.refl w.heap.size w).alloc (Nat.le_refl _) (.cells #[.int .i64 1, .string id, .string ⟨#[]⟩, .string ac, .string sy, .int .i64 sd, .int .i64 q, .int .i64 p, .int .i64 4, .int .i64 st, .int .i64 en, .int .i64 0, .int .i64 sh, .slice none 0 0] 24)
  clear r n1 n2 n3 ha
  go_enter Try.func8, Try.ntmps8
  go_upto_region 3 with (first | (go_at_call 20; (with_reducible refine (R.out _).mono ?_); rintro e wr ⟨rfl, hb⟩; have hX := hX.on hb; have hB := bt hB hb; have c13 := hX.cell 13; have f13 := hX.frozen 13; simp at c13) | go_in)
  go_upto_region 4 with (go_at_call 22; (with_reducible refine (clone_nil _).mono ?_); rintro e we ⟨rfl, rfl⟩)
  have hX := hX.put 13 (.slice none 0 0)
  have hB := below_set hB (p := ⟨w.heap.size, 13, none⟩) (Nat.le_refl _) (.slice none 0 0)
  generalize we.setCell ⟨w.heap.size, 13, none⟩ (.slice none 0 0) = W2 at *
  have hX : Blk W2 w.heap.size 24 #[.int .i64 1, .string id, .string ⟨#[]⟩, .string ac, .string sy, .int .i64 sd, .int .i64 q, .int .i64 p, .int .i64 4, .int .i64 st, .int .i64 en, .int .i64 0, .int .i64 sh, .slice none 0 0] := hX
  have y0 := hX.cell 0; have y1 := hX.cell 1; have y2 := hX.cell 2; have y3 := hX.cell 3; have y4 := hX.cell 4; have y5 := hX.cell 5; have y6 := hX.cell 6; have y7 := hX.cell 7; have y8 := hX.cell 8; have y9 := hX.cell 9; have y10 := hX.cell 10; have y11 := hX.cell 11; have y12 := hX.cell 12; have y13 := hX.cell 13
  simp at y0 y1 y2 y3 y4 y5 y6 y7 y8 y9 y10 y11 y12 y13
  have hlt := hX.lt
  clear c13 f13
  go_wp2_with fail
  exact bodyPost_ret (v := .tuple #[.pointer (some ⟨W2.heap.size, 0, none⟩), .int .i64 0]) (by simp [results, Try.results8, go_sem]) rfl ⟨W2.heap.size, hB.size, rfl, Blk.new _ _ _, hB.alloc hB.size _⟩
end Go.Proofs.Ytapfidpfjbacgaa.Hand
