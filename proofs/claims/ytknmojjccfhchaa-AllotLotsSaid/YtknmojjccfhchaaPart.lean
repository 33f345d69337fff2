/- The reference's Part and Add, walked by hand. -/
import Derived.Test.YtknmojjccfhchaaRx0
import Derived.Test.YtknmojjccfhchaaRx1
import Derived.Test.YtknmojjccfhchaaRx2
import Derived.Test.YtknmojjccfhchaaAid
set_option linter.unusedVariables false
set_option linter.unusedSimpArgs false
namespace Go.Proofs.Ytknmojjccfhchaa.Hand
open Go Go.RowKit Go.Proofs.YtknmojjccfhchaaW.PrintWords Go.Proofs.YtknmojjccfhchaaW.PrintMore

theorem one_true (W : World) (base : Nat) (hb : base ≤ W.heap.size) : Kd.C Kd.bool (W.alloc (.cells #[.bool true] 4)) (some ⟨W.heap.size, 0, none⟩) 1 [true] := by
  have hown := own_lit_of (enc := Value.bool) W base 4 [true] hb (by simp)
  exact (Kd.R_reads' (Kd.R_of_own (h1 := fun _ => rfl) (ok := fun _ => True) hown (fun _ _ => trivial))).2.2
theorem far2 {w1 : World} {b : Nat} {ok : Nat → Prop} {v : Value} {l : List Bool} {x y : Value} (h : Kd.R Kd.bool 4 w1 (b + 3) ok v l) (_h : b ≤ b + 3) : Kd.R Kd.bool 4 ((w1.setCell ⟨b + 2, 0, none⟩ x).setCell ⟨b + 2, 1, none⟩ y) b (fun _ => True) v l :=
  Kd.R_mono (Kd.R_lower (Kd.R_far (p := ⟨b + 2, 1, none⟩) (Kd.R_far (p := ⟨b + 2, 0, none⟩) (Kd.R_bound h) (fun k hk => by have := hk.2.1; show k ≠ b + 2; omega) x) (fun k hk => by have := hk.2.1; show k ≠ b + 2; omega) y) (by omega)) (fun _ _ => trivial)
theorem one_len : [true].length ≤ 1 := by simp
def pos (l : List Bool) : Bool := decide (0 < l.length)
theorem plus_one (k : Nat) (A : Option Addr) (c : Nat) (q q1 : List Bool) (W : World) (g : Nat) (h0 : Kd.C Kd.bool W A q.length q) (h1 : q.length ≤ c) (h2 : Kd.C Kd.bool W (some ⟨g, 0, none⟩) 1 [true]) (h : R.spigotref01_plus.f k q [true] = some q1) :
    Calls Try.prog 57 #[.slice A q.length c, .slice (some ⟨g, 0, none⟩) 1 1] W fun e w' => ∃ v0_ : Value, e = .returned (v0_) ∧ Kd.R Kd.bool 4 w' W.heap.size (fun _ => True) v0_ q1 ∧ Below W.heap.size W w' :=
  R.spigotref01_plus.calls k A c q (some ⟨g, 0, none⟩) 1 [true] q1 W h0 h1 h2 one_len h
/-- What Part tells of a quotient, a rest and a quotient and one. -/
def partR (s1 s2 up : Bool) (q r q1 : List Bool) : Bool × List Bool := if pos r = true ∧ (up != (s1 != s2)) = true then ((s1 != s2) && pos q1, q1) else ((s1 != s2) && pos q, q)
set_option maxHeartbeats 4000000 in
theorem part_walk (k : Nat) (s1 s2 up : Bool) (A0 : Option Addr) (c0 : Nat) (l0 : List Bool) (A1 : Option Addr) (c1 : Nat) (l1 q r q1 : List Bool) (w : World) (hr0 : Kd.C Kd.bool w A0 l0.length l0) (hc0 : l0.length ≤ c0) (hr1 : Kd.C Kd.bool w A1 l1.length l1) (hc1 : l1.length ≤ c1)
    (hdiv : R.spigotref01_div.f k l0 l1 = some (q, r)) (hplus : R.spigotref01_plus.f k q [true] = some q1) :
    Calls Try.prog 42 #[.agg #[.bool s1, .slice A0 l0.length c0], .agg #[.bool s2, .slice A1 l1.length c1], .bool up] w fun e w' => ∃ v1_ : Value, e = .returned (.agg #[.bool (partR s1 s2 up q r q1).1, v1_]) ∧ Kd.R Kd.bool 4 w' w.heap.size (fun _ => True) v1_ (partR s1 s2 up q r q1).2 ∧ Below w.heap.size w w' := by
  have hd := fun (W : World) (h : Below w.heap.size w W) => R.spigotref01_div.calls k A0 c0 l0 A1 c1 l1 q r W (Kd.C_below hr0 h) hc0 (Kd.C_below hr1 h) hc1 hdiv
  have Hd := Lib.hid hd
  clear hd hr0 hr1 hdiv hc0 hc1
  have Hp := Lib.hid hplus
  clear hplus
  have hu := Try.underlying57
  by_cases hr : 0 < r.length <;> cases s1 <;> cases s2 <;> cases up
  all_goals
    go_enter Try.func42, Try.ntmps42
    go_wp2_with fail
    refine (Hd.out _ ((((Below.refl w.heap.size w).alloc (Nat.le_refl _) _).alloc (by simp) _).alloc (by simp; omega) _)).mono ?_
    rintro e w1 ⟨v0, v1, rfl, hR0, hR1, hb1⟩
    obtain ⟨A, c, rfl⟩ := Kd.R_slice hR0
    obtain ⟨A2, c2, rfl⟩ := Kd.R_slice hR1
    obtain ⟨hcell, hfroz⟩ := bcell hb1
    have hz : w.heap.size + 2 < w1.heap.size := Nat.lt_of_lt_of_le (by simp) hb1.size
    have B1 : Below w.heap.size w w1 := ((((Below.refl w.heap.size w).alloc (Nat.le_refl _) _).alloc (by simp) _).alloc (by simp; omega) _).trans (hb1.mono (by simp; omega))
    have hC0 := (Kd.R_reads' hR0).2
    have hRb := Kd.R_lower (base' := w.heap.size + 3) hR0 (by simp)
    clear hR0 hR1 hb1
    have HC0 := Lib.hid hC0
    have HRb := Lib.hid hRb
    clear hC0 hRb
    go_wp2_with fail
    first
      | (exact bodyPost_ret (v := _) (by simp [results, Try.results42, go_sem, hcell, hz, partR, pos, hr]) rfl ⟨.slice A q.length c, rfl, by simp only [partR, pos, hr]; exact far2 HRb.out (by omega), (B1.setCell (by simp; omega) _).setCell (by simp; omega) _⟩)
      | ((with_reducible refine (plus_one k _ _ q q1 _ _ (Kd.C_alloc HC0.out.2 _) HC0.out.1 (one_true w1 0 (Nat.zero_le _)) Hp.out).mono ?_); rintro e w2 ⟨v2, rfl, hR2, hb2⟩; obtain ⟨A3, c3, rfl⟩ := Kd.R_slice hR2; obtain ⟨hcell2, hfroz2⟩ := bcell hb2; have hz2 : w.heap.size + 1 + 1 < w2.heap.size := Nat.lt_of_lt_of_le (by simp; omega) hb2.size; have f0 := hcell2 (w.heap.size + 1 + 1) 0 (by simp; omega); have f1 := hcell2 (w.heap.size + 1 + 1) 1 (by simp; omega); have g0 := hfroz2 (w.heap.size + 1 + 1) 0 (by simp; omega); have g1 := hfroz2 (w.heap.size + 1 + 1) 1 (by simp; omega); clear hcell2 hfroz2; have B2 : Below w.heap.size w w2 := (B1.alloc (by omega) _).trans (hb2.mono (by simp; omega)); have hRb2 := Kd.R_lower (base' := w.heap.size + 3) hR2 (by simp; omega); clear hR2 hb2; have HRb2 := Lib.hid hRb2; clear hRb2; go_wp2_with fail; exact bodyPost_ret (v := _) (by simp [results, Try.results42, go_sem, hcell, hz, f0, f1, hz2, partR, pos, hr]) rfl ⟨.slice A3 q1.length c3, rfl, by simp only [partR, pos, hr]; exact far2 HRb2.out (by omega), (B2.setCell (by simp; omega) _).setCell (by simp; omega) _⟩)
end Go.Proofs.Ytknmojjccfhchaa.Hand
