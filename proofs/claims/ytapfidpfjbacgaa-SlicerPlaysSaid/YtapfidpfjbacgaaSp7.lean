/- SlicerPlays: the state of a play, its steps. -/
import Derived.Test.YtapfidpfjbacgaaSp6
import Derived.Test.YtapfidpfjbacgaaRowKit
set_option linter.unusedVariables false
set_option linter.unusedSimpArgs false
namespace Go.Proofs.Ytapfidpfjbacgaa.Walk
open Go Go.RowKit Go.Proofs.Ytapfidpfjbacgaa.Row Go.Proofs.YtapfidpfjbacgaaW.PrintWords Go.Proofs.YtapfidpfjbacgaaW.PrintMore Go.Proofs.Ytapfidpfjbacgaa.Hand Go.Proofs.Ytapfidpfjbacgaa.PL Go.Proofs.Ytapfidpfjbacgaa.RL
set_option maxHeartbeats 4000000 in
set_option maxRecDepth 100000 in
theorem few27p (k sd q p al st en rt sh : Int) (id tg ac sy : ByteArray) (A : Option Addr) (c : Nat) (l : List Int) (w : World) :
    Calls Try.prog 7 #[.agg #[.int .i64 k, .string id, .string tg, .string ac, .string sy, .int .i64 sd, .int .i64 q, .int .i64 p, .int .i64 al, .int .i64 st, .int .i64 en, .int .i64 rt, .int .i64 sh, .slice A l.length c]] w fun e w' => ∃ b : Bool, e = .returned (.bool b) ∧ (b = true → l.length ≤ 100 ∧ id.size ≤ 100 ∧ ac.size ≤ 100 ∧ sy.size ≤ 100) ∧ Below w.heap.size w w' := by
  obtain ⟨b, hb⟩ : ∃ b : Bool, b = (decide ((id.size : Int) ≤ 100) && decide ((ac.size : Int) ≤ 100) && decide ((sy.size : Int) ≤ 100) && decide ((l.length : Int) ≤ 100) && decide ((tg.size : Int) ≤ 100)) := ⟨_, rfl⟩
  have hB := Lib.hid ((Below.refl w.heap.size w).alloc (Nat.le_refl _) (.cells #[.int .i64 k, .string id, .string tg, .string ac, .string sy, .int .i64 sd, .int .i64 q, .int .i64 p, .int .i64 al, .int .i64 st, .int .i64 en, .int .i64 rt, .int .i64 sh, .slice A l.length c] 24))
  have hh : Hid (∀ (e : Ending) (w' : World), (e = .returned (.bool b) ∧ Below w.heap.size w w') → ∃ b : Bool, e = .returned (.bool b) ∧ (b = true → l.length ≤ 100 ∧ id.size ≤ 100 ∧ ac.size ≤ 100 ∧ sy.size ≤ 100) ∧ Below w.heap.size w w') := Lib.hid fun e w' h => ⟨b, h.1, fun q => by rw [hb] at q; simp at q; omega, h.2⟩
  refine Calls.mono ?_ (fun e w' h => hh.out e w' h)
  clear hh
  have HB := Lib.hid hb
  clear hb
  go_enter Try.func7, Try.ntmps7
  go_wp2_with fail
  all_goals go_ret
  all_goals exact ⟨by (rw [HB.out]; simp <;> omega), hB.out⟩
/-- What a slicer answers at any time, with any volume and anything done. -/
def tgA (al q st en rt sh : Int) (l : List Int) (v now vol dn : Int) : Int × Int :=
  if (0 ≤ now ∧ now ≤ 1099511627776) ∧ (v ≤ vol ∧ vol ≤ 4611686018427387904) ∧ 0 ≤ dn ∧ dn ≤ q then (if now < st then (0, 0) else tgtS al q st en rt sh l now (vol - v) dn) else (0, 2)
theorem how_is (al rt sh v : Int) (B : Option Addr) (n d : Nat) : ∃ T hv, howV al rt sh v B n d = .iface T hv := by unfold howV; (repeat' split) <;> exact ⟨_, _, rfl⟩
/-- How far the play is. -/
structure PlayS (gs gd : Nat) (sd al st rt sh v : Int) (id tg ac sy : ByteArray) (B : Option Addr) (d : Nat) (A : Option Addr) (c : Nat) (l : List Int) (b : Nat) (W wr : World) (q p en : Int) : Prop where
  S : Blk wr gs 56 (slC 1 sd q p al st en rt sh id tg ac sy (.slice B l.length d) (howV al rt sh v B l.length d) v)
  D : Blk wr gd 44 (docC 1 sd q p al st en rt sh id tg ac sy (.slice A l.length c) v)
  R : Kd.R (Kd.int .i64) 3 wr b (fun _ => True) (.slice B l.length d) l
  bel : Below W.heap.size W wr
  hq : 1 ≤ q ∧ q ≤ 1099511627776
  he : 0 ≤ en ∧ en ≤ 1099511627776
  hs : 1 ≤ en - st ∧ en - st ≤ 1073741824
  ls : W.heap.size ≤ gs
  ld : W.heap.size ≤ gd
  ne : gs ≠ gd
theorem PlayS.on {gs gd : Nat} {sd al st rt sh v : Int} {id tg ac sy : ByteArray} {B : Option Addr} {d : Nat} {A : Option Addr} {c : Nat} {l : List Int} {b : Nat} {W wr w' : World} {q p en : Int} (h : PlayS gs gd sd al st rt sh v id tg ac sy B d A c l b W wr q p en) (hb : Below wr.heap.size wr w') : PlayS gs gd sd al st rt sh v id tg ac sy B d A c l b W w' q p en :=
  ⟨h.S.on hb, h.D.on hb, Kd.R_below h.R hb, bt h.bel hb, h.hq, h.he, h.hs, h.ls, h.ld, h.ne⟩
/-- What stands fast in a play. -/
structure FixS (al st rt sh v : Int) (A : Option Addr) (l : List Int) (c : Nat) (W : World) : Prop where
  C0 : Kd.C (Kd.int .i64) W A l.length l
  hst : 0 ≤ st ∧ st ≤ 1099511627776
  f5 : al = 2 → rightW l = true
  f6 : al = 3 → 1 ≤ rt ∧ rt ≤ 10000
  f7 : al = 4 → 1 ≤ sh ∧ sh ≤ 1099511627776
  hv : 0 ≤ v ∧ v ≤ 4611686018427387904
  hm : l.length ≤ 1000
  hc : l.length ≤ c
section
variable {gs gd : Nat} {sd al st rt sh v : Int} {id tg ac sy : ByteArray} {B : Option Addr} {d : Nat} {A : Option Addr} {c : Nat} {l : List Int} {b : Nat} {W wr : World} {q p en : Int}
theorem starget_all (F : FixS al st rt sh v A l c W) (h : PlayS gs gd sd al st rt sh v id tg ac sy B d A c l b W wr q p en) (now vol dn : Int) :
    Calls Try.prog 9 #[.pointer (some ⟨gs, 0, none⟩), .int .i64 now, .int .i64 vol, .int .i64 dn] wr fun e w' => e = .returned (.tuple #[.int .i64 (tgA al q st en rt sh l v now vol dn).1, .int .i64 (tgA al q st en rt sh l v now vol dn).2]) ∧ Below wr.heap.size wr w' := by
  unfold tgA
  have hC := (Kd.R_reads' h.R).2.2
  have hcd := (Kd.R_reads' h.R).2.1
  by_cases g : (0 ≤ now ∧ now ≤ 1099511627776) ∧ (v ≤ vol ∧ vol ≤ 4611686018427387904) ∧ 0 ≤ dn ∧ dn ≤ q
  · rw [if_pos g]
    by_cases e : now < st
    · rw [if_pos e]
      obtain ⟨T, hv, hh⟩ := how_is al rt sh v B l.length d
      have hS := h.S
      rw [hh] at hS
      exact (target_early gs 1 sd q p al st en rt sh v now vol dn id tg ac sy B l.length d T hv g.1 g.2.1 g.2.2 e wr hS).mono fun e w' h => ⟨h.1, h.2 ▸ Below.refl _ _⟩
    · rw [if_neg e]
      have hq := h.hq
      exact target_walk gs 1 sd q p al st en rt sh v now vol dn id tg ac sy B d l hcd (by omega) F.f6 F.f7 g.1 F.hv.1 g.2.1 g.2.2 e wr hC h.S
  · rw [if_neg g]
    obtain ⟨T, hv, hh⟩ := how_is al rt sh v B l.length d
    have hS := h.S
    rw [hh] at hS
    exact (target_bad gs 1 sd q p al st en rt sh v now vol dn id tg ac sy B l.length d T hv g wr hS).mono fun e w' h => ⟨h.1, h.2 ▸ Below.refl _ _⟩
theorem dtarget_all (F : FixS al st rt sh v A l c W) (h : PlayS gs gd sd al st rt sh v id tg ac sy B d A c l b W wr q p en) (now vol dn : Int) :
    Calls Try.prog 14 #[.pointer (some ⟨gd, 0, none⟩), .int .i64 now, .int .i64 vol, .int .i64 dn] wr fun e w' => e = .returned (.tuple #[.int .i64 (tgA al q st en rt sh l v now vol dn).1, .int .i64 (tgA al q st en rt sh l v now vol dn).2]) ∧ Below wr.heap.size wr w' := by
  unfold tgA
  by_cases g : (0 ≤ now ∧ now ≤ 1099511627776) ∧ (v ≤ vol ∧ vol ≤ 4611686018427387904) ∧ 0 ≤ dn ∧ dn ≤ q
  · rw [if_pos g]
    have hq := h.hq
    have := dtarget_ok gd 1 sd q p al st en rt sh v now vol dn id tg ac sy A c l F.hc (by omega) F.f6 F.f7 g.1 F.hv.1 g.2.1 g.2.2 wr (Kd.C_below F.C0 h.bel) h.D
    by_cases e : now < st
    · rw [if_pos e, if_pos e] at this; rw [if_pos e]; exact this
    · rw [if_neg e, if_neg e] at this; rw [if_neg e]; exact this
  · rw [if_neg g]
    exact (dtarget_bad gd 1 sd q p al st en rt sh v now vol dn id tg ac sy _ g wr h.D).mono fun e w' h => ⟨h.1, h.2 ▸ Below.refl _ _⟩
theorem samend (F : FixS al st rt sh v A l c W) (h : PlayS gs gd sd al st rt sh v id tg ac sy B d A c l b W wr q p en) (q2 p2 en2 : Int) :
    Calls Try.prog 12 #[.pointer (some ⟨gs, 0, none⟩), .int .i64 q2, .int .i64 p2, .int .i64 en2] wr fun e w' => e = .returned (.int .i64 (amS st q2 p2 en2)) ∧ w' = (if amS st q2 p2 en2 = 0 then ((wr.setCell ⟨gs, 6, none⟩ (.int .i64 q2)).setCell ⟨gs, 7, none⟩ (.int .i64 p2)).setCell ⟨gs, 10, none⟩ (.int .i64 en2) else wr) := by
  obtain ⟨T, hv, hh⟩ := how_is al rt sh v B l.length d
  have hS := h.S
  rw [hh] at hS
  by_cases g : amS st q2 p2 en2 = 0
  · rw [if_pos g, g]
    exact amend_ok2 gs 1 sd q p al st en rt sh v q2 p2 en2 id tg ac sy _ T hv F.hst g wr hS
  · rw [if_neg g]
    exact amend_no2 gs 1 sd q p al st en rt sh v q2 p2 en2 id tg ac sy _ T hv F.hst g wr hS
theorem blk3 {w : World} {g : Nat} {t : TypeId} {cs : Array Value} (h : Blk w g t cs) {g2 : Nat} (hne : g ≠ g2) (a b c : Nat) (x y z : Value) : Blk (((w.setCell ⟨g2, a, none⟩ x).setCell ⟨g2, b, none⟩ y).setCell ⟨g2, c, none⟩ z) g t cs :=
  ((h.far (p := ⟨g2, a, none⟩) hne x).far (p := ⟨g2, b, none⟩) hne y).far (p := ⟨g2, c, none⟩) hne z
theorem damend (F : FixS al st rt sh v A l c W) (hD : Blk wr gd 44 (docC 1 sd q p al st en rt sh id tg ac sy (.slice A l.length c) v)) (q2 p2 en2 : Int) :
    Calls Try.prog 13 #[.pointer (some ⟨gd, 0, none⟩), .int .i64 q2, .int .i64 p2, .int .i64 en2] wr fun e w' => e = .returned (.int .i64 (amS st q2 p2 en2)) ∧ w' = (if amS st q2 p2 en2 = 0 then ((wr.setCell ⟨gd, 6, none⟩ (.int .i64 q2)).setCell ⟨gd, 7, none⟩ (.int .i64 p2)).setCell ⟨gd, 10, none⟩ (.int .i64 en2) else wr) := by
  by_cases g : amS st q2 p2 en2 = 0
  · rw [if_pos g, g]
    exact damend_ok gd 1 sd q p al st en rt sh v q2 p2 en2 id tg ac sy _ F.hst g wr hD
  · rw [if_neg g]
    exact damend_no gd 1 sd q p al st en rt sh v q2 p2 en2 id tg ac sy _ F.hst g wr hD
theorem bel3 {b : Nat} {w0 w : World} (h : Below b w0 w) {g : Nat} (hg : b ≤ g) (a b' c : Nat) (x y z : Value) : Below b w0 (((w.setCell ⟨g, a, none⟩ x).setCell ⟨g, b', none⟩ y).setCell ⟨g, c, none⟩ z) :=
  ((h.setCell (p := ⟨g, a, none⟩) hg x).setCell (p := ⟨g, b', none⟩) hg y).setCell (p := ⟨g, c, none⟩) hg z
theorem R3 {w : World} {b g : Nat} {v : Value} {l : List Int} (h : Kd.R (Kd.int .i64) 3 w b (fun _ => True) v l) {t : TypeId} {cs : Array Value} (hb : Blk w g t cs) (ht : 3 ≠ t) (i j k : Nat) (x y z : Value) : Kd.R (Kd.int .i64) 3 (((w.setCell ⟨g, i, none⟩ x).setCell ⟨g, j, none⟩ y).setCell ⟨g, k, none⟩ z) b (fun _ => True) v l :=
  R_put (R_put (R_put h hb ht i x) (hb.put i x) ht j y) ((hb.put i x).put j y) ht k z
/-- The slicer's block, changed. -/
theorem setS (h : PlayS gs gd sd al st rt sh v id tg ac sy B d A c l b W wr q p en) (q2 p2 en2 : Int) :
    Blk (((wr.setCell ⟨gs, 6, none⟩ (.int .i64 q2)).setCell ⟨gs, 7, none⟩ (.int .i64 p2)).setCell ⟨gs, 10, none⟩ (.int .i64 en2)) gs 56 (slC 1 sd q2 p2 al st en2 rt sh id tg ac sy (.slice B l.length d) (howV al rt sh v B l.length d) v) := by
  have h0 := h.S
  have h1 : Blk _ gs 56 (slC 1 sd q2 p al st en rt sh id tg ac sy (.slice B l.length d) (howV al rt sh v B l.length d) v) := h0.put 6 (.int .i64 q2)
  have h2 : Blk _ gs 56 (slC 1 sd q2 p2 al st en rt sh id tg ac sy (.slice B l.length d) (howV al rt sh v B l.length d) v) := h1.put 7 (.int .i64 p2)
  exact h2.put 10 (.int .i64 en2)
theorem setD {w : World} (h0 : Blk w gd 44 (docC 1 sd q p al st en rt sh id tg ac sy (.slice A l.length c) v)) (q2 p2 en2 : Int) :
    Blk (((w.setCell ⟨gd, 6, none⟩ (.int .i64 q2)).setCell ⟨gd, 7, none⟩ (.int .i64 p2)).setCell ⟨gd, 10, none⟩ (.int .i64 en2)) gd 44 (docC 1 sd q2 p2 al st en2 rt sh id tg ac sy (.slice A l.length c) v) := by
  have h1 : Blk _ gd 44 (docC 1 sd q2 p al st en rt sh id tg ac sy (.slice A l.length c) v) := h0.put 6 (.int .i64 q2)
  have h2 : Blk _ gd 44 (docC 1 sd q2 p2 al st en rt sh id tg ac sy (.slice A l.length c) v) := h1.put 7 (.int .i64 p2)
  exact h2.put 10 (.int .i64 en2)
theorem PlayS.amend (h : PlayS gs gd sd al st rt sh v id tg ac sy B d A c l b W wr q p en) (q2 p2 en2 : Int) (hok : amS st q2 p2 en2 = 0) :
    PlayS gs gd sd al st rt sh v id tg ac sy B d A c l b W ((((((wr.setCell ⟨gs, 6, none⟩ (.int .i64 q2)).setCell ⟨gs, 7, none⟩ (.int .i64 p2)).setCell ⟨gs, 10, none⟩ (.int .i64 en2)).setCell ⟨gd, 6, none⟩ (.int .i64 q2)).setCell ⟨gd, 7, none⟩ (.int .i64 p2)).setCell ⟨gd, 10, none⟩ (.int .i64 en2)) q2 p2 en2 := by
  obtain ⟨a1, a2, a3, a4⟩ := amS_open hok
  have hS := setS h q2 p2 en2
  have hD := blk3 h.D (Ne.symm h.ne) 6 7 10 (.int .i64 q2) (.int .i64 p2) (.int .i64 en2)
  have hR := R3 h.R h.S (by decide) 6 7 10 (.int .i64 q2) (.int .i64 p2) (.int .i64 en2)
  have hB := bel3 h.bel h.ls 6 7 10 (.int .i64 q2) (.int .i64 p2) (.int .i64 en2)
  generalize ((wr.setCell ⟨gs, 6, none⟩ (.int .i64 q2)).setCell ⟨gs, 7, none⟩ (.int .i64 p2)).setCell ⟨gs, 10, none⟩ (.int .i64 en2) = w1 at *
  exact ⟨blk3 hS h.ne 6 7 10 _ _ _, setD hD q2 p2 en2, R3 hR hD (by decide) 6 7 10 _ _ _, bel3 hB h.ld 6 7 10 _ _ _, a1, a3, a4, h.ls, h.ld, h.ne⟩
/-- Both say the same, and are changed alike. -/
theorem both_same (F : FixS al st rt sh v A l c W) (h : PlayS gs gd sd al st rt sh v id tg ac sy B d A c l b W wr q p en) :
    Calls Try.prog 18 #[.pointer (some ⟨gs, 0, none⟩)] wr fun e w' => ∃ B2 d2, e = .returned (.agg (askC 1 sd q p al st en rt sh id tg ac sy (.slice B2 l.length d2))) ∧ l.length ≤ d2 ∧ Kd.C (Kd.int .i64) w' B2 l.length l ∧ Below wr.heap.size wr w' := by
  obtain ⟨T, hv, hh⟩ := how_is al rt sh v B l.length d
  have hS := h.S
  rw [hh] at hS
  refine (ask2 gs 1 sd q p al st en rt sh v id tg ac sy B d l F.hm T hv wr (Kd.R_reads' h.R).2.2 hS).mono ?_
  rintro e w' ⟨B2, d2, rfl, hR, hb⟩
  exact ⟨B2, d2, rfl, (Kd.R_reads' hR).2.1, (Kd.R_reads' hR).2.2, hb⟩
theorem both_eq (F : FixS al st rt sh v A l c W) (B2 : Option Addr) (d2 : Nat) (hd : l.length ≤ d2) (w : World) (hW : Below W.heap.size W w) (hC : Kd.C (Kd.int .i64) w B2 l.length l) :
    Calls Try.prog 17 #[.agg (askC 1 sd q p al st en rt sh id tg ac sy (.slice B2 l.length d2)), .agg (askC 1 sd q p al st en rt sh id tg ac sy (.slice A l.length c))] w fun e w' => e = .returned (.bool true) ∧ Below w.heap.size w w' := by
  have hS := fun w' (hb : Below w.heap.size w w') => same03_walk B2 A d2 c l l w' (Kd.C_below hC hb) (Kd.C_below F.C0 (bt hW hb)) hd F.hc F.hm
  refine (same12_walk 1 sd q p al st en rt sh rt sh id tg ac sy B2 A l.length d2 l.length c _ w hS).mono fun e w' h => ⟨?_, h.2⟩
  rw [h.1]; simp
theorem sover (h : PlayS gs gd sd al st rt sh v id tg ac sy B d A c l b W wr q p en) (now : Int) :
    Calls Try.prog 19 #[.pointer (some ⟨gs, 0, none⟩), .int .i64 now] wr fun e w' => e = .returned (.bool (decide (en ≤ now))) ∧ w' = wr := by
  obtain ⟨T, hv, hh⟩ := how_is al rt sh v B l.length d
  have hS := h.S
  rw [hh] at hS
  exact over2 gs 1 sd q p al st en rt sh v now id tg ac sy _ T hv wr hS
end
end Go.Proofs.Ytapfidpfjbacgaa.Walk
