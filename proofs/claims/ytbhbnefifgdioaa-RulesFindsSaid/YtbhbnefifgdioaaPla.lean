/- A setup as the document has it: Plain walked. -/
import Derived.Test.YtbhbnefifgdioaaVV
import Derived.Deep.QuietTactic
import Derived.BigQuiet
set_option linter.unusedVariables false
set_option linter.unusedSimpArgs false
namespace Go.Proofs.Ytbhbnefifgdioaa.Hand
open Go Go.RowKit Go.Proofs.YtbhbnefifgdioaaW.PrintWords Go.Proofs.YtbhbnefifgdioaaW.PrintMore Go.Proofs.YtbhbnefifgdioaaW.PrintLast Go.Proofs.Ytbhbnefifgdioaa.RL Go.Proofs.Ytbhbnefifgdioaa.PL
abbrev Acc := ByteArray × Int
def kA : Kd Acc := Kd.pair Kd.string (Kd.int .i64)
def zA : Acc := (⟨#[]⟩, 0)
def cA (x : Acc) : List Value := [.string x.1, .int .i64 x.2]
theorem kA_open {w : World} {x : Acc} {cs : List Value} (h : kA.K w x cs) : cs = cA x := by
  obtain ⟨_, _, rfl, rfl, rfl⟩ := h
  exact rfl
theorem kA_mk (w : World) (x : Acc) : kA.K w x (cA x) := ⟨[.string x.1], [.int .i64 x.2], rfl, rfl, rfl⟩
theorem kA_mkM (w : World) (base : Nat) (ok : Nat → Prop) (x : Acc) : kA.M w base ok x (cA x) := ⟨[.string x.1], [.int .i64 x.2], rfl, rfl, rfl⟩
theorem at_A {w : World} {A : Option Addr} {n : Nat} {xs : List Acc} (h : Kd.C kA w A n xs) (i : Nat) (h1 : i < n) : ∃ ad, A = some ad ∧ ∀ j u, (cA (xs.getD i zA))[j]? = some u → w.cell? (ad.add (i * 2 + j)) = some u := by
  obtain ⟨ad, c, e, _, hK, hc0⟩ := Kd.C_get h zA (i : Int) (by omega) (by omega)
  obtain rfl := kA_open hK
  simp only [Int.toNat_natCast] at hc0
  exact ⟨ad, e, hc0⟩
abbrev Sym := ByteArray × Int × Int × Int × Int × Int × Int
def kS : Kd Sym := Kd.pair Kd.string (Kd.pair (Kd.int .i64) (Kd.pair (Kd.int .i64) (Kd.pair (Kd.int .i64) (Kd.pair (Kd.int .i64) (Kd.pair (Kd.int .i64) (Kd.int .i64))))))
def zS : Sym := (⟨#[]⟩, 0, 0, 0, 0, 0, 0)
def cS (x : Sym) : List Value := [.string x.1, .int .i64 x.2.1, .int .i64 x.2.2.1, .int .i64 x.2.2.2.1, .int .i64 x.2.2.2.2.1, .int .i64 x.2.2.2.2.2.1, .int .i64 x.2.2.2.2.2.2]
theorem kS_open {w : World} {x : Sym} {cs : List Value} (h : kS.K w x cs) : cs = cS x := by
  obtain ⟨_, _, rfl, rfl, ⟨_, _, rfl, rfl, ⟨_, _, rfl, rfl, ⟨_, _, rfl, rfl, ⟨_, _, rfl, rfl, ⟨_, _, rfl, rfl, rfl⟩⟩⟩⟩⟩⟩ := h
  exact rfl
theorem kS_mk (w : World) (x : Sym) : kS.K w x (cS x) := ⟨[.string x.1], [.int .i64 x.2.1, .int .i64 x.2.2.1, .int .i64 x.2.2.2.1, .int .i64 x.2.2.2.2.1, .int .i64 x.2.2.2.2.2.1, .int .i64 x.2.2.2.2.2.2], rfl, rfl, ⟨[.int .i64 x.2.1], [.int .i64 x.2.2.1, .int .i64 x.2.2.2.1, .int .i64 x.2.2.2.2.1, .int .i64 x.2.2.2.2.2.1, .int .i64 x.2.2.2.2.2.2], rfl, rfl, ⟨[.int .i64 x.2.2.1], [.int .i64 x.2.2.2.1, .int .i64 x.2.2.2.2.1, .int .i64 x.2.2.2.2.2.1, .int .i64 x.2.2.2.2.2.2], rfl, rfl, ⟨[.int .i64 x.2.2.2.1], [.int .i64 x.2.2.2.2.1, .int .i64 x.2.2.2.2.2.1, .int .i64 x.2.2.2.2.2.2], rfl, rfl, ⟨[.int .i64 x.2.2.2.2.1], [.int .i64 x.2.2.2.2.2.1, .int .i64 x.2.2.2.2.2.2], rfl, rfl, ⟨[.int .i64 x.2.2.2.2.2.1], [.int .i64 x.2.2.2.2.2.2], rfl, rfl, rfl⟩⟩⟩⟩⟩⟩
theorem kS_mkM (w : World) (base : Nat) (ok : Nat → Prop) (x : Sym) : kS.M w base ok x (cS x) := ⟨[.string x.1], [.int .i64 x.2.1, .int .i64 x.2.2.1, .int .i64 x.2.2.2.1, .int .i64 x.2.2.2.2.1, .int .i64 x.2.2.2.2.2.1, .int .i64 x.2.2.2.2.2.2], rfl, rfl, ⟨[.int .i64 x.2.1], [.int .i64 x.2.2.1, .int .i64 x.2.2.2.1, .int .i64 x.2.2.2.2.1, .int .i64 x.2.2.2.2.2.1, .int .i64 x.2.2.2.2.2.2], rfl, rfl, ⟨[.int .i64 x.2.2.1], [.int .i64 x.2.2.2.1, .int .i64 x.2.2.2.2.1, .int .i64 x.2.2.2.2.2.1, .int .i64 x.2.2.2.2.2.2], rfl, rfl, ⟨[.int .i64 x.2.2.2.1], [.int .i64 x.2.2.2.2.1, .int .i64 x.2.2.2.2.2.1, .int .i64 x.2.2.2.2.2.2], rfl, rfl, ⟨[.int .i64 x.2.2.2.2.1], [.int .i64 x.2.2.2.2.2.1, .int .i64 x.2.2.2.2.2.2], rfl, rfl, ⟨[.int .i64 x.2.2.2.2.2.1], [.int .i64 x.2.2.2.2.2.2], rfl, rfl, rfl⟩⟩⟩⟩⟩⟩
theorem at_S {w : World} {A : Option Addr} {n : Nat} {xs : List Sym} (h : Kd.C kS w A n xs) (i : Nat) (h1 : i < n) : ∃ ad, A = some ad ∧ ∀ j u, (cS (xs.getD i zS))[j]? = some u → w.cell? (ad.add (i * 7 + j)) = some u := by
  obtain ⟨ad, c, e, _, hK, hc0⟩ := Kd.C_get h zS (i : Int) (by omega) (by omega)
  obtain rfl := kS_open hK
  simp only [Int.toNat_natCast] at hc0
  exact ⟨ad, e, hc0⟩
abbrev Ven := ByteArray × Int × Int × Int × Bool
def kV : Kd Ven := Kd.pair Kd.string (Kd.pair (Kd.int .i64) (Kd.pair (Kd.int .i64) (Kd.pair (Kd.int .i64) Kd.bool)))
def zV : Ven := (⟨#[]⟩, 0, 0, 0, false)
def cV (x : Ven) : List Value := [.string x.1, .int .i64 x.2.1, .int .i64 x.2.2.1, .int .i64 x.2.2.2.1, .bool x.2.2.2.2]
theorem kV_open {w : World} {x : Ven} {cs : List Value} (h : kV.K w x cs) : cs = cV x := by
  obtain ⟨_, _, rfl, rfl, ⟨_, _, rfl, rfl, ⟨_, _, rfl, rfl, ⟨_, _, rfl, rfl, rfl⟩⟩⟩⟩ := h
  exact rfl
theorem kV_mk (w : World) (x : Ven) : kV.K w x (cV x) := ⟨[.string x.1], [.int .i64 x.2.1, .int .i64 x.2.2.1, .int .i64 x.2.2.2.1, .bool x.2.2.2.2], rfl, rfl, ⟨[.int .i64 x.2.1], [.int .i64 x.2.2.1, .int .i64 x.2.2.2.1, .bool x.2.2.2.2], rfl, rfl, ⟨[.int .i64 x.2.2.1], [.int .i64 x.2.2.2.1, .bool x.2.2.2.2], rfl, rfl, ⟨[.int .i64 x.2.2.2.1], [.bool x.2.2.2.2], rfl, rfl, rfl⟩⟩⟩⟩
theorem kV_mkM (w : World) (base : Nat) (ok : Nat → Prop) (x : Ven) : kV.M w base ok x (cV x) := ⟨[.string x.1], [.int .i64 x.2.1, .int .i64 x.2.2.1, .int .i64 x.2.2.2.1, .bool x.2.2.2.2], rfl, rfl, ⟨[.int .i64 x.2.1], [.int .i64 x.2.2.1, .int .i64 x.2.2.2.1, .bool x.2.2.2.2], rfl, rfl, ⟨[.int .i64 x.2.2.1], [.int .i64 x.2.2.2.1, .bool x.2.2.2.2], rfl, rfl, ⟨[.int .i64 x.2.2.2.1], [.bool x.2.2.2.2], rfl, rfl, rfl⟩⟩⟩⟩
theorem at_V {w : World} {A : Option Addr} {n : Nat} {xs : List Ven} (h : Kd.C kV w A n xs) (i : Nat) (h1 : i < n) : ∃ ad, A = some ad ∧ ∀ j u, (cV (xs.getD i zV))[j]? = some u → w.cell? (ad.add (i * 5 + j)) = some u := by
  obtain ⟨ad, c, e, _, hK, hc0⟩ := Kd.C_get h zV (i : Int) (by omega) (by omega)
  obtain rfl := kV_open hK
  simp only [Int.toNat_natCast] at hc0
  exact ⟨ad, e, hc0⟩
/-- A row of another kind than the one that has grown. -/
theorem R_other {α β : Type} {d1 : Kd α} {d2 : Kd β} {e1 e2 : Nat} {W w1 : World} {b : Nat} {ok1 ok2 : Nat → Prop} {v1 v2 : Value} {xs1 : List α} {xs2 : List β} (h2 : d2.R e2 W b ok2 v2 xs2) (h1 : d1.R e1 W b ok1 v1 xs1) (hg : W.grownBy w1 v1.ownBlock) (hne : ∀ q, q ∈ e2 :: d2.E → q ∉ e1 :: d1.E) : d2.R e2 w1 b ok2 v2 xs2 := by
  refine Kd.R_mono (Kd.R_grown (Kd.R_bound h2) hg (fun k hk hq => ?_)) (fun _ hk => hk.1)
  obtain ⟨_, _, _, q, hq1, cells, hc⟩ := hk
  obtain ⟨_, _, _, q', hq2, cells', hc'⟩ := (Kd.R_bound h1).1 k hq.symm
  rw [hc] at hc'
  injection hc' with hc'
  injection hc' with _ hc' _
  exact hne q hq1 (hc' ▸ hq2)
theorem R_ne {α : Type} {d1 : Kd α} {e1 : Nat} {W : World} {b g t : Nat} {ok1 : Nat → Prop} {v1 : Value} {xs1 : List α} {cs : Array Value} (h1 : d1.R e1 W b ok1 v1 xs1) (hb : Blk W g t cs) (hne : t ∉ e1 :: d1.E) : some g ≠ v1.ownBlock := by
  intro hq
  obtain ⟨_, _, _, q', hq2, cells', hc'⟩ := (Kd.R_bound h1).1 g hq.symm
  unfold Blk at hb
  rw [hb] at hc'
  injection hc' with hc'
  injection hc' with _ hc' _
  exact hne (hc' ▸ hq2)
abbrev setC (v1 v2 v3 : Value) (p1 p2 p3 p4 p5 p6 : Int) : Array Value := #[v1, v2, v3, .int .i64 p1, .int .i64 p2, .int .i64 p3, .int .i64 p4, .int .i64 p5, .int .i64 p6]
/-- How far the walk of Plain is. -/
structure PlaI (w wr : World) (C0 : Array Value) (v1 v2 v3 : Value) (p1 p2 p3 p4 p5 p6 : Int) (L1 : List Acc) (L2 : List Sym) (L3 : List Ven) : Prop where
  bX : Blk wr w.heap.size 26 C0
  bR : Blk wr (w.heap.size + 1) 34 (setC (.slice none 0 0) (.slice none 0 0) (.slice none 0 0) 0 0 0 0 0 0)
  bO : Blk wr (w.heap.size + 1 + 1) 34 (setC v1 v2 v3 p1 p2 p3 p4 p5 p6)
  r1 : Kd.R kA 63 wr w.heap.size (fun _ => True) v1 L1
  r2 : Kd.R kS 52 wr w.heap.size (fun _ => True) v2 L2
  r3 : Kd.R kV 64 wr w.heap.size (fun _ => True) v3 L3
  bel : Below w.heap.size w wr
theorem PlaI.on {w wr w' : World} {C0 : Array Value} {v1 v2 v3 : Value} {p1 p2 p3 p4 p5 p6 : Int} {L1 : List Acc} {L2 : List Sym} {L3 : List Ven} (h : PlaI w wr C0 v1 v2 v3 p1 p2 p3 p4 p5 p6 L1 L2 L3) (b : Below wr.heap.size wr w') : PlaI w w' C0 v1 v2 v3 p1 p2 p3 p4 p5 p6 L1 L2 L3 :=
  ⟨h.bX.below b h.bX.lt, h.bR.below b h.bR.lt, h.bO.below b h.bO.lt, Kd.R_below h.r1 b, Kd.R_below h.r2 b, Kd.R_below h.r3 b, bt h.bel b⟩
theorem PlaI.start (w : World) (C0 : Array Value) (p1 p2 p3 p4 p5 p6 : Int) : PlaI w (((w.alloc (.cells C0 26)).alloc (.cells (setC (.slice none 0 0) (.slice none 0 0) (.slice none 0 0) 0 0 0 0 0 0) 34)).alloc (.cells (setC (.slice none 0 0) (.slice none 0 0) (.slice none 0 0) p1 p2 p3 p4 p5 p6) 34)) C0 (.slice none 0 0) (.slice none 0 0) (.slice none 0 0) p1 p2 p3 p4 p5 p6 [] [] [] := by
  have h0 := Blk.new w 26 C0
  have B0 := (Below.refl w.heap.size w).alloc (Nat.le_refl _) (.cells C0 26)
  have s0 : (w.alloc (.cells C0 26)).heap.size = w.heap.size + 1 := by simp
  generalize w.alloc (.cells C0 26) = w1 at *
  have h1 := Blk.new w1 34 (setC (.slice none 0 0) (.slice none 0 0) (.slice none 0 0) 0 0 0 0 0 0)
  have h0 := h0.alloc (.cells (setC (.slice none 0 0) (.slice none 0 0) (.slice none 0 0) 0 0 0 0 0 0) 34)
  have B0 := B0.alloc (by omega) (.cells (setC (.slice none 0 0) (.slice none 0 0) (.slice none 0 0) 0 0 0 0 0 0) 34)
  have s1 : (w1.alloc (.cells (setC (.slice none 0 0) (.slice none 0 0) (.slice none 0 0) 0 0 0 0 0 0) 34)).heap.size = w1.heap.size + 1 := by simp
  generalize w1.alloc (.cells (setC (.slice none 0 0) (.slice none 0 0) (.slice none 0 0) 0 0 0 0 0 0) 34) = w2 at *
  have h2 := Blk.new w2 34 (setC (.slice none 0 0) (.slice none 0 0) (.slice none 0 0) p1 p2 p3 p4 p5 p6)
  have h0 := h0.alloc (.cells (setC (.slice none 0 0) (.slice none 0 0) (.slice none 0 0) p1 p2 p3 p4 p5 p6) 34)
  have h1 := h1.alloc (.cells (setC (.slice none 0 0) (.slice none 0 0) (.slice none 0 0) p1 p2 p3 p4 p5 p6) 34)
  have B0 := B0.alloc (by omega) (.cells (setC (.slice none 0 0) (.slice none 0 0) (.slice none 0 0) p1 p2 p3 p4 p5 p6) 34)
  rw [s0] at h1; rw [s1, s0] at h2
  exact ⟨h0, h1, h2, Kd.R_nil _ _ _ _ _, Kd.R_nil _ _ _ _ _, Kd.R_nil _ _ _ _ _, B0⟩
/-- The result's block is filled. -/
structure FinI (w wr : World) (cs : Array Value) (v1 v2 v3 : Value) (L1 : List Acc) (L2 : List Sym) (L3 : List Ven) : Prop where
  bR : Blk wr (w.heap.size + 1) 34 cs
  r1 : Kd.R kA 63 wr w.heap.size (fun _ => True) v1 L1
  r2 : Kd.R kS 52 wr w.heap.size (fun _ => True) v2 L2
  r3 : Kd.R kV 64 wr w.heap.size (fun _ => True) v3 L3
  bel : Below w.heap.size w wr
theorem FinI.put {w wr : World} {cs : Array Value} {v1 v2 v3 : Value} {L1 : List Acc} {L2 : List Sym} {L3 : List Ven} (h : FinI w wr cs v1 v2 v3 L1 L2 L3) (j : Nat) (u : Value) : FinI w (wr.setCell ⟨w.heap.size + 1, j, none⟩ u) (cs.setIfInBounds j u) v1 v2 v3 L1 L2 L3 :=
  ⟨h.bR.put j u, Kd.R_set h.r1 h.bR (by decide) j u, Kd.R_set h.r2 h.bR (by decide) j u, Kd.R_set h.r3 h.bR (by decide) j u, h.bel.setCell (by show w.heap.size ≤ w.heap.size + 1; omega) u⟩
theorem PlaI.growA {w W w7 : World} {C0 : Array Value} {v1 v2 v3 v' : Value} {p1 p2 p3 p4 p5 p6 : Int} {L1 : List Acc} {L2 : List Sym} {L3 : List Ven} {L' : List Acc} (h : PlaI w W C0 v1 v2 v3 p1 p2 p3 p4 p5 p6 L1 L2 L3) (ho : Kd.R kA 63 w7 w.heap.size (fun _ => True) v' L') (hb : Below w.heap.size w w7) (hg : W.grownBy w7 v1.ownBlock) : PlaI w (w7.setCell ⟨w.heap.size + 1 + 1, 0, none⟩ v') C0 v' v2 v3 p1 p2 p3 p4 p5 p6 L' L2 L3 := by
  have hO := h.bO.same (hg.block _ h.bO.lt (R_ne h.r1 h.bO (by decide)))
  have hX := h.bX.same (hg.block _ h.bX.lt (R_ne h.r1 h.bX (by decide)))
  have hR := h.bR.same (hg.block _ h.bR.lt (R_ne h.r1 h.bR (by decide)))
  have q1 := ho
  have q2 := R_other h.r2 h.r1 hg (by decide)
  have q3 := R_other h.r3 h.r1 hg (by decide)
  have hO2 := hO.put 0 v'
  exact ⟨hX.far (by show w.heap.size ≠ w.heap.size + 1 + 1; omega) v', hR.far (by show w.heap.size + 1 ≠ w.heap.size + 1 + 1; omega) v', hO2, Kd.R_set q1 hO (by decide) 0 v', Kd.R_set q2 hO (by decide) 0 v', Kd.R_set q3 hO (by decide) 0 v', hb.setCell (by show w.heap.size ≤ w.heap.size + 1 + 1; omega) v'⟩
theorem PlaI.growS {w W w7 : World} {C0 : Array Value} {v1 v2 v3 v' : Value} {p1 p2 p3 p4 p5 p6 : Int} {L1 : List Acc} {L2 : List Sym} {L3 : List Ven} {L' : List Sym} (h : PlaI w W C0 v1 v2 v3 p1 p2 p3 p4 p5 p6 L1 L2 L3) (ho : Kd.R kS 52 w7 w.heap.size (fun _ => True) v' L') (hb : Below w.heap.size w w7) (hg : W.grownBy w7 v2.ownBlock) : PlaI w (w7.setCell ⟨w.heap.size + 1 + 1, 1, none⟩ v') C0 v1 v' v3 p1 p2 p3 p4 p5 p6 L1 L' L3 := by
  have hO := h.bO.same (hg.block _ h.bO.lt (R_ne h.r2 h.bO (by decide)))
  have hX := h.bX.same (hg.block _ h.bX.lt (R_ne h.r2 h.bX (by decide)))
  have hR := h.bR.same (hg.block _ h.bR.lt (R_ne h.r2 h.bR (by decide)))
  have q1 := R_other h.r1 h.r2 hg (by decide)
  have q2 := ho
  have q3 := R_other h.r3 h.r2 hg (by decide)
  have hO2 := hO.put 1 v'
  exact ⟨hX.far (by show w.heap.size ≠ w.heap.size + 1 + 1; omega) v', hR.far (by show w.heap.size + 1 ≠ w.heap.size + 1 + 1; omega) v', hO2, Kd.R_set q1 hO (by decide) 1 v', Kd.R_set q2 hO (by decide) 1 v', Kd.R_set q3 hO (by decide) 1 v', hb.setCell (by show w.heap.size ≤ w.heap.size + 1 + 1; omega) v'⟩
theorem PlaI.growV {w W w7 : World} {C0 : Array Value} {v1 v2 v3 v' : Value} {p1 p2 p3 p4 p5 p6 : Int} {L1 : List Acc} {L2 : List Sym} {L3 : List Ven} {L' : List Ven} (h : PlaI w W C0 v1 v2 v3 p1 p2 p3 p4 p5 p6 L1 L2 L3) (ho : Kd.R kV 64 w7 w.heap.size (fun _ => True) v' L') (hb : Below w.heap.size w w7) (hg : W.grownBy w7 v3.ownBlock) : PlaI w (w7.setCell ⟨w.heap.size + 1 + 1, 2, none⟩ v') C0 v1 v2 v' p1 p2 p3 p4 p5 p6 L1 L2 L' := by
  have hO := h.bO.same (hg.block _ h.bO.lt (R_ne h.r3 h.bO (by decide)))
  have hX := h.bX.same (hg.block _ h.bX.lt (R_ne h.r3 h.bX (by decide)))
  have hR := h.bR.same (hg.block _ h.bR.lt (R_ne h.r3 h.bR (by decide)))
  have q1 := R_other h.r1 h.r3 hg (by decide)
  have q2 := R_other h.r2 h.r3 hg (by decide)
  have q3 := ho
  have hO2 := hO.put 2 v'
  exact ⟨hX.far (by show w.heap.size ≠ w.heap.size + 1 + 1; omega) v', hR.far (by show w.heap.size + 1 ≠ w.heap.size + 1 + 1; omega) v', hO2, Kd.R_set q1 hO (by decide) 2 v', Kd.R_set q2 hO (by decide) 2 v', Kd.R_set q3 hO (by decide) 2 v', hb.setCell (by show w.heap.size ≤ w.heap.size + 1 + 1; omega) v'⟩
set_option maxHeartbeats 8000000 in
set_option maxRecDepth 100000 in
theorem plain_walk (A1 A2 A3 : Option Addr) (c1 c2 c3 n1 n2 n3 : Nat) (l1 : List Acc) (l2 : List Sym) (l3 : List Ven) (p1 p2 p3 p4 p5 p6 : Int) (w : World) (hn1 : l1.length = n1) (hn2 : l2.length = n2) (hn3 : l3.length = n3) (hm1 : n1 ≤ 900) (hm2 : n2 ≤ 900) (hm3 : n3 ≤ 900)
    (h1 : Kd.C kA w A1 n1 l1) (h2 : Kd.C kS w A2 n2 l2) (h3 : Kd.C kV w A3 n3 l3) (hc1 : n1 ≤ c1) (hc2 : n2 ≤ c2) (hc3 : n3 ≤ c3) :
    Calls Try.prog 8 #[.agg (setC (.slice A1 n1 c1) (.slice A2 n2 c2) (.slice A3 n3 c3) p1 p2 p3 p4 p5 p6)] w fun e w' => ∃ B1 B2 B3 d1 d2 d3, e = .returned (.agg (setC (.slice B1 n1 d1) (.slice B2 n2 d2) (.slice B3 n3 d3) p1 p2 p3 p4 p5 p6)) ∧ Kd.C kA w' B1 n1 l1 ∧ Kd.C kS w' B2 n2 l2 ∧ Kd.C kV w' B3 n3 l3 ∧ n1 ≤ d1 ∧ n2 ≤ d2 ∧ n3 ≤ d3 ∧ Below w.heap.size w w' := by
  obtain ⟨C0, hC0⟩ : ∃ C0 : Array Value, C0 = setC (.slice A1 n1 c1) (.slice A2 n2 c2) (.slice A3 n3 c3) p1 p2 p3 p4 p5 p6 := ⟨_, rfl⟩
  have hst := PlaI.start w C0 p1 p2 p3 p4 p5 p6
  rw [hC0] at hst
  have H1 := Lib.hid h1; have H2 := Lib.hid h2; have H3 := Lib.hid h3
  clear h1 h2 h3
  have inf1 : (Try.prog.info? 63).map (fun i => (i.zero, i.size, i.bytes)) = some (some (.agg #[.string ⟨#[]⟩, .int .i64 0]), 2, 24) := by kernel_rfl
  have inf2 : (Try.prog.info? 52).map (fun i => (i.zero, i.size, i.bytes)) = some (some (.agg #[.string ⟨#[]⟩, .int .i64 0, .int .i64 0, .int .i64 0, .int .i64 0, .int .i64 0, .int .i64 0]), 7, 64) := by kernel_rfl
  have inf3 : (Try.prog.info? 64).map (fun i => (i.zero, i.size, i.bytes)) = some (some (.agg #[.string ⟨#[]⟩, .int .i64 0, .int .i64 0, .int .i64 0, .bool false]), 5, 48) := by kernel_rfl
  have INF1 := Lib.hid inf1; have INF2 := Lib.hid inf2; have INF3 := Lib.hid inf3
  clear inf1 inf2 inf3
  go_enter Try.func8, Try.ntmps8
  go_wp2_with fail
  generalize ((w.alloc (.cells (setC (.slice A1 n1 c1) (.slice A2 n2 c2) (.slice A3 n3 c3) p1 p2 p3 p4 p5 p6) 26)).alloc (.cells (setC (.slice none 0 0) (.slice none 0 0) (.slice none 0 0) 0 0 0 0 0 0) 34)).alloc (.cells (setC (.slice none 0 0) (.slice none 0 0) (.slice none 0 0) p1 p2 p3 p4 p5 p6) 34) = w3 at *
  rw [← hC0] at hst
  have HS1 : ∃ v1 v2 v3, PlaI w w3 C0 v1 v2 v3 p1 p2 p3 p4 p5 p6 (l1.take 0) [] [] := ⟨_, _, _, hst⟩
  clear hst
  go_loopw [26] (fun i wr => ∃ k : Nat, k ≤ n1 ∧ i = .int .i64 k ∧ Hid (∃ v1 v2 v3, PlaI w wr C0 v1 v2 v3 p1 p2 p3 p4 p5 p6 (l1.take k) [] [])) (fun i _ => n1 - (intOf i).toNat)
  case atStart => exact ⟨0, Nat.zero_le _, rfl, Lib.hid HS1⟩
  case round =>
    clear HS1
    obtain ⟨k, hk, rfl, H⟩ := hrel
    by_cases hlt : k < n1
    · obtain ⟨v1, v2, v3, hI⟩ := H.out
      clear H
      obtain ⟨ad, rfl, hcell⟩ := at_A (Kd.C_below H1.out hI.bel) k hlt
      have hkl : k < l1.length := by rw [hn1]; exact hlt
      have e1 : l1.getD k zA = l1[k] := by simp [hkl]
      have hs1 : l1.take (k + 1) = l1.take k ++ [l1[k]] := List.take_succ_eq_append_getElem hkl
      rw [e1] at hcell
      generalize l1[k] = x at *
      obtain ⟨xn, x1⟩ := x
      have q0 : wr.cell? (ad.add (k * 2)) = some (.string xn) := hcell 0 _ rfl
      have q1 : wr.cell? ⟨(ad.add (k * 2)).block, (ad.add (k * 2)).off + 1, none⟩ = some (.int .i64 x1) := by rw [← add_field _ _ 1 (by omega)]; exact hcell 1 _ rfl
      clear hcell e1
      have hx := Blk.new wr 60 #[.string xn, .int .i64 x1]
      have h5 := hI.on ((Below.refl wr.heap.size wr).alloc (Nat.le_refl _) (.cells #[.string xn, .int .i64 x1] 60))
      have so : wr.heap.size < (wr.alloc (.cells #[.string xn, .int .i64 x1] 60)).heap.size := by simp
      have hwl : w.heap.size ≤ wr.heap.size := hI.bel.size
      have HX := Lib.hid hx
      have H5 := Lib.hid h5
      clear hx h5 hI
      go_upto_region 5 with (fail)
      clear q0 q1
      generalize wr.alloc (.cells #[.string xn, .int .i64 x1] 60) = W5 at *
      generalize wr.heap.size = ob at *
      have y0 : W5.cell? ⟨ob, 0, none⟩ = some (.string xn) := HX.out.cell 0
      have y1 : W5.cell? ⟨ob, 1, none⟩ = some (.int .i64 x1) := HX.out.cell 1
      have z0 : W5.cell? ⟨w.heap.size + 1 + 1, 0, none⟩ = some v1 := H5.out.bO.cell 0
      have hlb : w.heap.size ≤ W5.heap.size := H5.out.bel.size
      have htk : (l1.take k).length ≤ 1000 := by rw [List.length_take]; omega
      go_wp2_with (at_builtin; (refine Kd.R_append kA (w0 := w) w.heap.size rfl (.tmp 31) (.tmp 33) 30 63 (.agg #[.string ⟨#[]⟩, .int .i64 0]) 24 rfl Try.underlying30 INF1.out rfl (by decide) (by omega) v1 (l1.take k) (xn, x1) [.string xn, .int .i64 x1] (fun _ => True) (fun _ => False) rfl rfl (kA_mkM _ _ _ (xn, x1)) (fun _ hk => hk.elim) (fun _ _ => trivial) H5.out.r1 H5.out.bel hlb (by omega) ?_); intro v' w7 ho hb hg hat; obtain ⟨Aq, cq, rfl⟩ := Kd.R_slice ho; have h7 := H5.out.growA ho hb hg; have fr := (H5.out.bO.same (hg.block _ H5.out.bO.lt (R_ne H5.out.r1 H5.out.bO (by decide)))).frozen 0; have cc := (H5.out.bO.same (hg.block _ H5.out.bO.lt (R_ne H5.out.r1 H5.out.bO (by decide)))).cell 0; simp at cc)
      rw [← hs1, show (l1.take (k + 1)).length = k + 1 by rw [List.length_take]; omega] at h7
      go_roundw
      case rel => exact ⟨k + 1, by omega, by go_num, Lib.hid ⟨_, _, _, h7⟩⟩
      case measure => simp [intOf]; omega
    · obtain rfl : n1 = k := by omega
      rw [List.take_of_length_le (by omega)] at H
      obtain ⟨v1, v2, v3, hI⟩ := H.out
      clear H
      have HS2 : ∃ v1 v2 v3, PlaI w wr C0 v1 v2 v3 p1 p2 p3 p4 p5 p6 l1 (l2.take 0) [] := ⟨_, _, _, hI⟩
      have u1 : wr.cell? ⟨w.heap.size, 1, none⟩ = some (.slice A2 n2 c2) := by have := hI.bX.cell 1; rw [hC0] at this; exact this
      go_wp2_with fail
      clear hI u1
      go_loopw [40] (fun i wr => ∃ k : Nat, k ≤ n2 ∧ i = .int .i64 k ∧ Hid (∃ v1 v2 v3, PlaI w wr C0 v1 v2 v3 p1 p2 p3 p4 p5 p6 l1 (l2.take k) [])) (fun i _ => n2 - (intOf i).toNat)
      case atStart => exact ⟨0, Nat.zero_le _, rfl, Lib.hid HS2⟩
      case round =>
        clear HS2
        obtain ⟨k, hk, rfl, H⟩ := hrel
        by_cases hlt : k < n2
        · obtain ⟨v1, v2, v3, hI⟩ := H.out
          clear H
          obtain ⟨ad, rfl, hcell⟩ := at_S (Kd.C_below H2.out hI.bel) k hlt
          have hkl : k < l2.length := by rw [hn2]; exact hlt
          have e1 : l2.getD k zS = l2[k] := by simp [hkl]
          have hs1 : l2.take (k + 1) = l2.take k ++ [l2[k]] := List.take_succ_eq_append_getElem hkl
          rw [e1] at hcell
          generalize l2[k] = x at *
          obtain ⟨xn, x1, x2, x3, x4, x5, x6⟩ := x
          have q0 : wr.cell? (ad.add (k * 7)) = some (.string xn) := hcell 0 _ rfl
          have q1 : wr.cell? ⟨(ad.add (k * 7)).block, (ad.add (k * 7)).off + 1, none⟩ = some (.int .i64 x1) := by rw [← add_field _ _ 1 (by omega)]; exact hcell 1 _ rfl
          have q2 : wr.cell? ⟨(ad.add (k * 7)).block, (ad.add (k * 7)).off + 2, none⟩ = some (.int .i64 x2) := by rw [← add_field _ _ 2 (by omega)]; exact hcell 2 _ rfl
          have q3 : wr.cell? ⟨(ad.add (k * 7)).block, (ad.add (k * 7)).off + 3, none⟩ = some (.int .i64 x3) := by rw [← add_field _ _ 3 (by omega)]; exact hcell 3 _ rfl
          have q4 : wr.cell? ⟨(ad.add (k * 7)).block, (ad.add (k * 7)).off + 4, none⟩ = some (.int .i64 x4) := by rw [← add_field _ _ 4 (by omega)]; exact hcell 4 _ rfl
          have q5 : wr.cell? ⟨(ad.add (k * 7)).block, (ad.add (k * 7)).off + 5, none⟩ = some (.int .i64 x5) := by rw [← add_field _ _ 5 (by omega)]; exact hcell 5 _ rfl
          have q6 : wr.cell? ⟨(ad.add (k * 7)).block, (ad.add (k * 7)).off + 6, none⟩ = some (.int .i64 x6) := by rw [← add_field _ _ 6 (by omega)]; exact hcell 6 _ rfl
          clear hcell e1
          have hx := Blk.new wr 41 #[.string xn, .int .i64 x1, .int .i64 x2, .int .i64 x3, .int .i64 x4, .int .i64 x5, .int .i64 x6]
          have h5 := hI.on ((Below.refl wr.heap.size wr).alloc (Nat.le_refl _) (.cells #[.string xn, .int .i64 x1, .int .i64 x2, .int .i64 x3, .int .i64 x4, .int .i64 x5, .int .i64 x6] 41))
          have so : wr.heap.size < (wr.alloc (.cells #[.string xn, .int .i64 x1, .int .i64 x2, .int .i64 x3, .int .i64 x4, .int .i64 x5, .int .i64 x6] 41)).heap.size := by simp
          have hwl : w.heap.size ≤ wr.heap.size := hI.bel.size
          have HX := Lib.hid hx
          have H5 := Lib.hid h5
          clear hx h5 hI
          go_upto_region 10 with (fail)
          clear q0 q1 q2 q3 q4 q5 q6
          generalize wr.alloc (.cells #[.string xn, .int .i64 x1, .int .i64 x2, .int .i64 x3, .int .i64 x4, .int .i64 x5, .int .i64 x6] 41) = W5 at *
          generalize wr.heap.size = ob at *
          have y0 : W5.cell? ⟨ob, 0, none⟩ = some (.string xn) := HX.out.cell 0
          have y1 : W5.cell? ⟨ob, 1, none⟩ = some (.int .i64 x1) := HX.out.cell 1
          have y2 : W5.cell? ⟨ob, 2, none⟩ = some (.int .i64 x2) := HX.out.cell 2
          have y3 : W5.cell? ⟨ob, 3, none⟩ = some (.int .i64 x3) := HX.out.cell 3
          have y4 : W5.cell? ⟨ob, 4, none⟩ = some (.int .i64 x4) := HX.out.cell 4
          have y5 : W5.cell? ⟨ob, 5, none⟩ = some (.int .i64 x5) := HX.out.cell 5
          have y6 : W5.cell? ⟨ob, 6, none⟩ = some (.int .i64 x6) := HX.out.cell 6
          have z0 : W5.cell? ⟨w.heap.size + 1 + 1, 1, none⟩ = some v2 := H5.out.bO.cell 1
          have hlb : w.heap.size ≤ W5.heap.size := H5.out.bel.size
          have htk : (l2.take k).length ≤ 1000 := by rw [List.length_take]; omega
          go_wp2_with (at_builtin; (refine Kd.R_append kS (w0 := w) w.heap.size rfl (.tmp 45) (.tmp 47) 31 52 (.agg #[.string ⟨#[]⟩, .int .i64 0, .int .i64 0, .int .i64 0, .int .i64 0, .int .i64 0, .int .i64 0]) 64 rfl Try.underlying31 INF2.out rfl (by decide) (by omega) v2 (l2.take k) (xn, x1, x2, x3, x4, x5, x6) [.string xn, .int .i64 x1, .int .i64 x2, .int .i64 x3, .int .i64 x4, .int .i64 x5, .int .i64 x6] (fun _ => True) (fun _ => False) rfl rfl (kS_mkM _ _ _ (xn, x1, x2, x3, x4, x5, x6)) (fun _ hk => hk.elim) (fun _ _ => trivial) H5.out.r2 H5.out.bel hlb (by omega) ?_); intro v' w7 ho hb hg hat; obtain ⟨Aq, cq, rfl⟩ := Kd.R_slice ho; have h7 := H5.out.growS ho hb hg; have fr := (H5.out.bO.same (hg.block _ H5.out.bO.lt (R_ne H5.out.r2 H5.out.bO (by decide)))).frozen 1; have cc := (H5.out.bO.same (hg.block _ H5.out.bO.lt (R_ne H5.out.r2 H5.out.bO (by decide)))).cell 1; simp at cc)
          rw [← hs1, show (l2.take (k + 1)).length = k + 1 by rw [List.length_take]; omega] at h7
          go_roundw
          case rel => exact ⟨k + 1, by omega, by go_num, Lib.hid ⟨_, _, _, h7⟩⟩
          case measure => simp [intOf]; omega
        · obtain rfl : n2 = k := by omega
          rw [List.take_of_length_le (by omega)] at H
          obtain ⟨v1, v2, v3, hI⟩ := H.out
          clear H
          have HS3 : ∃ v1 v2 v3, PlaI w wr C0 v1 v2 v3 p1 p2 p3 p4 p5 p6 l1 l2 (l3.take 0) := ⟨_, _, _, hI⟩
          have u1 : wr.cell? ⟨w.heap.size, 2, none⟩ = some (.slice A3 n3 c3) := by have := hI.bX.cell 2; rw [hC0] at this; exact this
          go_wp2_with fail
          clear hI u1
          go_loopw [54] (fun i wr => ∃ k : Nat, k ≤ n3 ∧ i = .int .i64 k ∧ Hid (∃ v1 v2 v3, PlaI w wr C0 v1 v2 v3 p1 p2 p3 p4 p5 p6 l1 l2 (l3.take k))) (fun i _ => n3 - (intOf i).toNat)
          case atStart => exact ⟨0, Nat.zero_le _, rfl, Lib.hid HS3⟩
          case round =>
            clear HS3
            obtain ⟨k, hk, rfl, H⟩ := hrel
            by_cases hlt : k < n3
            · obtain ⟨v1, v2, v3, hI⟩ := H.out
              clear H
              obtain ⟨ad, rfl, hcell⟩ := at_V (Kd.C_below H3.out hI.bel) k hlt
              have hkl : k < l3.length := by rw [hn3]; exact hlt
              have e1 : l3.getD k zV = l3[k] := by simp [hkl]
              have hs1 : l3.take (k + 1) = l3.take k ++ [l3[k]] := List.take_succ_eq_append_getElem hkl
              rw [e1] at hcell
              generalize l3[k] = x at *
              obtain ⟨xn, x1, x2, x3, x4⟩ := x
              have q0 : wr.cell? (ad.add (k * 5)) = some (.string xn) := hcell 0 _ rfl
              have q1 : wr.cell? ⟨(ad.add (k * 5)).block, (ad.add (k * 5)).off + 1, none⟩ = some (.int .i64 x1) := by rw [← add_field _ _ 1 (by omega)]; exact hcell 1 _ rfl
              have q2 : wr.cell? ⟨(ad.add (k * 5)).block, (ad.add (k * 5)).off + 2, none⟩ = some (.int .i64 x2) := by rw [← add_field _ _ 2 (by omega)]; exact hcell 2 _ rfl
              have q3 : wr.cell? ⟨(ad.add (k * 5)).block, (ad.add (k * 5)).off + 3, none⟩ = some (.int .i64 x3) := by rw [← add_field _ _ 3 (by omega)]; exact hcell 3 _ rfl
              have q4 : wr.cell? ⟨(ad.add (k * 5)).block, (ad.add (k * 5)).off + 4, none⟩ = some (.bool x4) := by rw [← add_field _ _ 4 (by omega)]; exact hcell 4 _ rfl
              clear hcell e1
              have hx := Blk.new wr 62 #[.string xn, .int .i64 x1, .int .i64 x2, .int .i64 x3, .bool x4]
              have h5 := hI.on ((Below.refl wr.heap.size wr).alloc (Nat.le_refl _) (.cells #[.string xn, .int .i64 x1, .int .i64 x2, .int .i64 x3, .bool x4] 62))
              have so : wr.heap.size < (wr.alloc (.cells #[.string xn, .int .i64 x1, .int .i64 x2, .int .i64 x3, .bool x4] 62)).heap.size := by simp
              have hwl : w.heap.size ≤ wr.heap.size := hI.bel.size
              have HX := Lib.hid hx
              have H5 := Lib.hid h5
              clear hx h5 hI
              go_upto_region 15 with (fail)
              clear q0 q1 q2 q3 q4
              generalize wr.alloc (.cells #[.string xn, .int .i64 x1, .int .i64 x2, .int .i64 x3, .bool x4] 62) = W5 at *
              generalize wr.heap.size = ob at *
              have y0 : W5.cell? ⟨ob, 0, none⟩ = some (.string xn) := HX.out.cell 0
              have y1 : W5.cell? ⟨ob, 1, none⟩ = some (.int .i64 x1) := HX.out.cell 1
              have y2 : W5.cell? ⟨ob, 2, none⟩ = some (.int .i64 x2) := HX.out.cell 2
              have y3 : W5.cell? ⟨ob, 3, none⟩ = some (.int .i64 x3) := HX.out.cell 3
              have y4 : W5.cell? ⟨ob, 4, none⟩ = some (.bool x4) := HX.out.cell 4
              have z0 : W5.cell? ⟨w.heap.size + 1 + 1, 2, none⟩ = some v3 := H5.out.bO.cell 2
              have hlb : w.heap.size ≤ W5.heap.size := H5.out.bel.size
              have htk : (l3.take k).length ≤ 1000 := by rw [List.length_take]; omega
              go_wp2_with (at_builtin; (refine Kd.R_append kV (w0 := w) w.heap.size rfl (.tmp 59) (.tmp 61) 32 64 (.agg #[.string ⟨#[]⟩, .int .i64 0, .int .i64 0, .int .i64 0, .bool false]) 48 rfl Try.underlying32 INF3.out rfl (by decide) (by omega) v3 (l3.take k) (xn, x1, x2, x3, x4) [.string xn, .int .i64 x1, .int .i64 x2, .int .i64 x3, .bool x4] (fun _ => True) (fun _ => False) rfl rfl (kV_mkM _ _ _ (xn, x1, x2, x3, x4)) (fun _ hk => hk.elim) (fun _ _ => trivial) H5.out.r3 H5.out.bel hlb (by omega) ?_); intro v' w7 ho hb hg hat; obtain ⟨Aq, cq, rfl⟩ := Kd.R_slice ho; have h7 := H5.out.growV ho hb hg; have fr := (H5.out.bO.same (hg.block _ H5.out.bO.lt (R_ne H5.out.r3 H5.out.bO (by decide)))).frozen 2; have cc := (H5.out.bO.same (hg.block _ H5.out.bO.lt (R_ne H5.out.r3 H5.out.bO (by decide)))).cell 2; simp at cc)
              rw [← hs1, show (l3.take (k + 1)).length = k + 1 by rw [List.length_take]; omega] at h7
              go_roundw
              case rel => exact ⟨k + 1, by omega, by go_num, Lib.hid ⟨_, _, _, h7⟩⟩
              case measure => simp [intOf]; omega
            · obtain rfl : n3 = k := by omega
              rw [List.take_of_length_le (by omega)] at H
              obtain ⟨v1, v2, v3, hI⟩ := H.out
              clear H
              have hO := hI.bO
              obtain ⟨B1, d1, rfl, g1, k1⟩ := Kd.R_reads hI.r1
              obtain ⟨B2, d2, rfl, g2, k2⟩ := Kd.R_reads hI.r2
              obtain ⟨B3, d3, rfl, g3, k3⟩ := Kd.R_reads hI.r3
              simp only [hn1, hn2, hn3] at hO g1 g2 g3
              have hF : FinI w wr _ (.slice B1 l1.length d1) (.slice B2 l2.length d2) (.slice B3 l3.length d3) l1 l2 l3 := ⟨hI.bR, hI.r1, hI.r2, hI.r3, hI.bel⟩
              have hR := hI.bR
              rw [hn1, hn2, hn3] at hF
              have hG := Lib.hid (((((((((hF.put 0 (.slice B1 n1 d1)).put 1 (.slice B2 n2 d2)).put 2 (.slice B3 n3 d3)).put 3 (.int .i64 p1)).put 4 (.int .i64 p2)).put 5 (.int .i64 p3)).put 6 (.int .i64 p4)).put 7 (.int .i64 p5)).put 8 (.int .i64 p6))
              have z0 := hR.cell 0; have z1 := hR.cell 1; have z2 := hR.cell 2; have z3 := hR.cell 3; have z4 := hR.cell 4; have z5 := hR.cell 5; have z6 := hR.cell 6; have z7 := hR.cell 7; have z8 := hR.cell 8
              simp at z0 z1 z2 z3 z4 z5 z6 z7 z8
              have f0 := hR.frozen 0; have f1 := hR.frozen 1; have f2 := hR.frozen 2; have f3 := hR.frozen 3; have f4 := hR.frozen 4; have f5 := hR.frozen 5; have f6 := hR.frozen 6; have f7 := hR.frozen 7; have f8 := hR.frozen 8
              have y0 := hO.cell 0; have y1 := hO.cell 1; have y2 := hO.cell 2; have y3 := hO.cell 3; have y4 := hO.cell 4; have y5 := hO.cell 5; have y6 := hO.cell 6; have y7 := hO.cell 7; have y8 := hO.cell 8
              simp at y0 y1 y2 y3 y4 y5 y6 y7 y8
              clear hI hF hR hO
              go_wp2_with fail
              have bR := hG.out.bR
              have s0 := bR.cell 0; have s1 := bR.cell 1; have s2 := bR.cell 2; have s3 := bR.cell 3; have s4 := bR.cell 4; have s5 := bR.cell 5; have s6 := bR.cell 6; have s7 := bR.cell 7; have s8 := bR.cell 8
              simp at s0 s1 s2 s3 s4 s5 s6 s7 s8
              have G := hG.out
              clear hG bR z0 z1 z2 z3 z4 z5 z6 z7 z8 f0 f1 f2 f3 f4 f5 f6 f7 f8
              generalize ((((((((wr.setCell ⟨w.heap.size + 1, 0, none⟩ (.slice B1 n1 d1)).setCell ⟨w.heap.size + 1, 1, none⟩ (.slice B2 n2 d2)).setCell ⟨w.heap.size + 1, 2, none⟩ (.slice B3 n3 d3)).setCell ⟨w.heap.size + 1, 3, none⟩ (.int .i64 p1)).setCell ⟨w.heap.size + 1, 4, none⟩ (.int .i64 p2)).setCell ⟨w.heap.size + 1, 5, none⟩ (.int .i64 p3)).setCell ⟨w.heap.size + 1, 6, none⟩ (.int .i64 p4)).setCell ⟨w.heap.size + 1, 7, none⟩ (.int .i64 p5)).setCell ⟨w.heap.size + 1, 8, none⟩ (.int .i64 p6) = WF at *
              have j1 := (Kd.R_reads' G.r1).2
              have j2 := (Kd.R_reads' G.r2).2
              have j3 := (Kd.R_reads' G.r3).2
              exact bodyPost_ret (v := .agg (setC (.slice B1 n1 d1) (.slice B2 n2 d2) (.slice B3 n3 d3) p1 p2 p3 p4 p5 p6)) (by simp [results, Try.results8, go_sem, s0, s1, s2, s3, s4, s5, s6, s7, s8]) rfl ⟨B1, B2, B3, d1, d2, d3, rfl, hn1 ▸ j1.2, hn2 ▸ j2.2, hn3 ▸ j3.2, g1, g2, g3, G.bel⟩
end Go.Proofs.Ytbhbnefifgdioaa.Hand
