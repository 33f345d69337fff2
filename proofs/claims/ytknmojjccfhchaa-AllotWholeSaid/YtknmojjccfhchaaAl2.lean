/- allot: who is behind whom, who may have more; walked. -/
import Derived.Test.YtknmojjccfhchaaAl1
import Derived.Test.YtknmojjccfhchaaChk
import Derived.Test.YtknmojjccfhchaaUx1
import Derived.Deep.QuietTactic
import Derived.BigQuiet
set_option linter.unusedVariables false
set_option linter.unusedSimpArgs false
namespace Go.Proofs.Ytknmojjccfhchaa.Hand
open Go Go.RowKit Go.Proofs.YtknmojjccfhchaaW.PrintWords Go.Proofs.YtknmojjccfhchaaW.PrintMore Go.Proofs.Ytknmojjccfhchaa.RL Go.Proofs.Ytknmojjccfhchaa.PL
theorem mul64_c (a b : Int) (ha0 : 0 ≤ a) (ha : a ≤ 18446744073709551615) (hb0 : 0 ≤ b) (hb : b ≤ 18446744073709551615) (w : World) : Calls Try.prog 71 #[.int .u64 a, .int .u64 b] w fun e w' => e = .returned (.tuple #[.int .u64 (pHi a b), .int .u64 (pLo a b)]) ∧ w' = w := by
  obtain ⟨a, rfl⟩ := Int.eq_ofNat_of_zero_le ha0
  obtain ⟨b, rfl⟩ := Int.eq_ofNat_of_zero_le hb0
  have := Try.bits_Mul64 a b (by omega) (by omega) w
  have e1 : ((a * b / 18446744073709551616 : Nat) : Int) = pHi a b := by unfold pHi; omega
  have e2 : ((a * b % 18446744073709551616 : Nat) : Int) = pLo a b := by unfold pLo; omega
  rw [e1, e2] at this
  exact this
theorem u64_in {a : Int} (h0 : 0 ≤ a) (h1 : a ≤ 18446744073709551615) : IntKind.u64.wrap a = a := by rw [IntKind.wrap_u64]; omega
set_option maxHeartbeats 800000 in
theorem wide_walk (a b c d : Int) (a0 : 0 ≤ a) (a1 : a ≤ 9223372036854775807) (b0 : 0 ≤ b) (b1 : b ≤ 9223372036854775807) (c0 : 0 ≤ c) (c1 : c ≤ 9223372036854775807) (d0 : 0 ≤ d) (d1 : d ≤ 9223372036854775807) (hs : a * b + c * d < 340282366920938463463374607431768211456) (w : World) :
    Calls Try.prog 62 #[.int .i64 a, .int .i64 b, .int .i64 c, .int .i64 d] w fun e w' => e = .returned (.agg #[.int .u64 ((a * b + c * d) / 18446744073709551616), .int .u64 ((a * b + c * d) % 18446744073709551616)]) ∧ Below w.heap.size w w' := by
  have wa := u64_in a0 (by omega); have wb := u64_in b0 (by omega); have wc := u64_in c0 (by omega); have wd := u64_in d0 (by omega)
  have m1 := fun w => mul64_c a b a0 (by omega) b0 (by omega) w
  have m2 := fun w => mul64_c c d c0 (by omega) d0 (by omega) w
  have l1 := pLo_b a b; have l2 := pLo_b c d
  have e1 := halves a b; have e2 := halves c d
  have h1 := pHi_b a0 (show a ≤ 18446744073709551615 by omega) b0 (show b ≤ 18446744073709551615 by omega)
  have h2 := pHi_b c0 (show c ≤ 18446744073709551615 by omega) d0 (show d ≤ 18446744073709551615 by omega)
  have p0 : 0 ≤ a * b := Int.mul_nonneg a0 b0
  have p1 : 0 ≤ c * d := Int.mul_nonneg c0 d0
  generalize pHi a b = h at *
  generalize pLo a b = l at *
  generalize pHi c d = i at *
  generalize pLo c d = m at *
  have ad1 := fun w => run_add l m 0 l1.1 l2.1 (by omega) (by omega) w
  rw [Int.add_zero] at ad1
  have ad2 := fun w => run_add h i ((l + m) / 18446744073709551616) h1.1 h2.1 (by omega) (by omega) w
  have s1 : (h + i + (l + m) / 18446744073709551616) % 18446744073709551616 = (a * b + c * d) / 18446744073709551616 := by
    rw [← e1, ← e2] at hs ⊢; omega
  have s2 : (l + m) % 18446744073709551616 = (a * b + c * d) % 18446744073709551616 := by rw [← e1, ← e2]; omega
  rw [s1] at ad2
  rw [s2] at ad1
  generalize (l + m) / 18446744073709551616 = cy at *
  generalize (a * b + c * d) / 18446744073709551616 = r1 at *
  generalize (a * b + c * d) % 18446744073709551616 = r2 at *
  have M1 := Lib.hid m1; have M2 := Lib.hid m2
  clear m1 m2 e1 e2 s1 s2 hs h1 h2 l1 l2 p0 p1 a0 a1 b0 b1 c0 c1 d0 d1
  go_enter Try.func62, Try.ntmps62
  go_wp2_with (first | (go_at_call 71; first | ((with_reducible refine (M1.out _).mono ?_); rintro e w1 ⟨rfl, rfl⟩) | ((with_reducible refine (M2.out _).mono ?_); rintro e w2 ⟨rfl, rfl⟩)) | (simp only [ad1, ad2]; done) | simp only [ad1] | simp only [ad2])
  exact bodyPost_ret (v := .agg #[.int .u64 r1, .int .u64 r2]) (by simp [results, Try.results62, go_sem]) rfl ⟨rfl, (Below.refl _ _).alloc (Nat.le_refl _) _⟩
theorem pless_is (x y : Int) (hx : 0 ≤ x) (hy : 0 ≤ y) : U.allot_pair_less.f (x / 18446744073709551616) (x % 18446744073709551616) (y / 18446744073709551616) (y % 18446744073709551616) = some (decide (x < y)) := by
  unfold U.allot_pair_less.f
  by_cases h1 : x / 18446744073709551616 < y / 18446744073709551616
  · rw [if_pos h1, decide_eq_true (by omega)]
  · rw [if_neg h1]
    by_cases h2 : x / 18446744073709551616 = y / 18446744073709551616
    · rw [if_pos h2, decide_eq_decide.2 (show x % 18446744073709551616 < y % 18446744073709551616 ↔ x < y by omega)]
    · rw [if_neg h2, decide_eq_false (by omega)]
/-- What is shared out in lots, in memory. -/
structure Pot (w : World) (g gg : Nat) (q all left : Int) (A : Option Addr) (c : Nat) (l : List Shr) (G : List Int) : Prop where
  P : Blk w g 61 #[.int .i64 q, .int .i64 all, .int .i64 left, .slice A l.length c, .slice (some ⟨gg, 0, none⟩) l.length l.length]
  R : Blk w gg 3 (ints G)
  L : Kd.C kS w A l.length l
  n : G.length = l.length
theorem Pot.on {w w' : World} {g gg : Nat} {q all left : Int} {A : Option Addr} {c : Nat} {l : List Shr} {G : List Int} (h : Pot w g gg q all left A c l G) (hb : Below w.heap.size w w') : Pot w' g gg q all left A c l G :=
  ⟨h.P.below hb h.P.lt, h.R.below hb h.R.lt, Kd.C_below h.L hb, h.n⟩
/-- One of the shares. -/
abbrev shr (l : List Shr) (i : Nat) : Shr := U.rd_T42 l (i : Int)
theorem Pot.row {w : World} {g gg : Nat} {q all left : Int} {A : Option Addr} {c : Nat} {l : List Shr} {G : List Int} (h : Pot w g gg q all left A c l G) (i : Nat) (hi : i < l.length) :
    (∃ ad, A = some ad ∧ w.cell? (ad.add (i * 3)) = some (.int .i64 (shr l i).f0) ∧ w.cell? ⟨(ad.add (i * 3)).block, (ad.add (i * 3)).off + 1, none⟩ = some (.int .i64 (shr l i).f1) ∧ w.cell? ⟨(ad.add (i * 3)).block, (ad.add (i * 3)).off + 2, none⟩ = some (.int .i64 (shr l i).f2)) ∧ w.cell? ⟨gg, i, none⟩ = some (.int .i64 (G.getD i 0)) := by
  have h1 := U.at_T42 h.L (i : Int) (by omega) (by omega)
  rw [Int.toNat_natCast] at h1
  refine ⟨h1, ?_⟩
  have hn := h.n
  rw [h.R.cell i, ints_at G i (by omega)]
  rw [List.getD_eq_getElem?_getD, List.getElem?_eq_getElem (show i < G.length by omega)]
  rfl
/-- May one have a lot more? -/
def mayS (l : List Shr) (G : List Int) (left : Int) (i : Nat) : Bool := decide ((shr l i).f2 ≤ left) && decide (G.getD i 0 ≤ (shr l i).f1 - (shr l i).f2)
/-- Is one behind another? -/
def behS (q all : Int) (l : List Shr) (G : List Int) (i k : Nat) : Bool := decide (G.getD i 0 * all + q * (shr l k).f0 < G.getD k 0 * all + q * (shr l i).f0)
set_option maxHeartbeats 4000000 in
set_option maxRecDepth 100000 in
theorem may_walk (g gg : Nat) (q all left : Int) (A : Option Addr) (c : Nat) (l : List Shr) (G : List Int) (i : Nat) (hi : i < l.length) (hok : okShr (shr l i) = true) (hm : l.length ≤ 64) (w : World) (h : Pot w g gg q all left A c l G) :
    Calls Try.prog 49 #[.pointer (some ⟨g, 0, none⟩), .int .i64 i] w fun e w' => e = .returned (.bool (mayS l G left i)) ∧ Below w.heap.size w w' := by
  obtain ⟨⟨ad, rfl, c0, c1, c2⟩, g0⟩ := h.row i hi
  have y2 := h.P.cell 2; have y3 := h.P.cell 3; have y4 := h.P.cell 4
  simp at y2 y3 y4
  unfold okShr at hok
  simp only [Bool.and_eq_true, decide_eq_true_eq] at hok
  unfold mayS
  generalize shr l i = X at *
  obtain ⟨x0, x1, x2⟩ := X
  dsimp only at *
  generalize G.getD i 0 = gi at *
  have hgs := h.P.lt
  have hgg := h.R.lt
  have hB := (Below.refl w.heap.size w).alloc (Nat.le_refl _) (.cells #[.int .i64 x0, .int .i64 x1, .int .i64 x2] 42)
  have p1 : (0 : Int) ≤ (i : Int) := by omega
  have q1 : (i : Int) < (l.length : Int) := by omega
  have hwr : IntKind.i64.wrap (x1 - x2) = x1 - x2 := IntWalk.i64_in _ (by omega)
  clear h
  by_cases d1 : x2 ≤ left
  · have b0 : decide (x2 ≤ left) = true := decide_eq_true d1
    go_enter Try.func49, Try.ntmps49
    go_wp2_with fail
    repeat (go_quiet (fail); try go_wp2)
    go_ret
    exact ⟨by simp [d1], bt hB (by repeat (first | exact Below.refl _ _ | apply below_drew1 | apply pw_below_drewN))⟩
  · have b0 : decide (x2 ≤ left) = false := decide_eq_false d1
    go_enter Try.func49, Try.ntmps49
    go_wp2_with fail
    repeat (go_quiet (fail); try go_wp2)
    go_ret
    exact ⟨congrArg (fun b => Ending.returned (.bool b)) (show false = (decide (x2 ≤ left) && decide (gi ≤ x1 - x2)) by simp only [b0, Bool.false_and]), bt hB (by repeat (first | exact Below.refl _ _ | apply below_drew1 | apply pw_below_drewN))⟩
set_option maxHeartbeats 4000000 in
set_option maxRecDepth 100000 in
theorem behind_walk (g gg : Nat) (q all left : Int) (A : Option Addr) (c : Nat) (l : List Shr) (G : List Int) (i k : Nat) (hi : i < l.length) (hk : k < l.length) (hoki : okShr (shr l i) = true) (hokk : okShr (shr l k) = true) (hm : l.length ≤ 64) (hq : 0 ≤ q ∧ q ≤ 1099511627776) (ha : 0 ≤ all ∧ all ≤ 70368744177664) (gi : 0 ≤ G.getD i 0 ∧ G.getD i 0 ≤ 1099511627776) (gk : 0 ≤ G.getD k 0 ∧ G.getD k 0 ≤ 1099511627776) (w : World) (h : Pot w g gg q all left A c l G) :
    Calls Try.prog 50 #[.pointer (some ⟨g, 0, none⟩), .int .i64 i, .int .i64 k] w fun e w' => e = .returned (.bool (behS q all l G i k)) ∧ Below w.heap.size w w' := by
  unfold okShr at hoki hokk
  simp only [Bool.and_eq_true, decide_eq_true_eq] at hoki hokk
  have ub : ∀ a b : Int, 0 ≤ a → a ≤ 1099511627776 → 0 ≤ b → b ≤ 70368744177664 → 0 ≤ a * b ∧ a * b ≤ 77371252455336267181195264 := fun a b h1 h2 h3 h4 => ⟨Int.mul_nonneg h1 h3, by have := Int.mul_le_mul h2 h4 h3 (by decide); exact Int.le_trans this (by decide)⟩
  have u1 := ub (G.getD i 0) all gi.1 gi.2 ha.1 ha.2
  have u2 := ub (G.getD k 0) all gk.1 gk.2 ha.1 ha.2
  have u3 := ub q (shr l k).f0 hq.1 hq.2 hokk.1.1.1 (by omega)
  have u4 := ub q (shr l i).f0 hq.1 hq.2 hoki.1.1.1 (by omega)
  have w1 := fun w => wide_walk (G.getD i 0) all q (shr l k).f0 gi.1 (by omega) ha.1 (by omega) hq.1 (by omega) hokk.1.1.1 (by omega) (by omega) w
  have w2 := fun w => wide_walk (G.getD k 0) all q (shr l i).f0 gk.1 (by omega) ha.1 (by omega) hq.1 (by omega) hoki.1.1.1 (by omega) (by omega) w
  have hl := fun w => U.allot_pair_less.calls _ _ _ _ _ w (pless_is (G.getD i 0 * all + q * (shr l k).f0) (G.getD k 0 * all + q * (shr l i).f0) (by omega) (by omega))
  unfold behS
  generalize G.getD i 0 * all + q * (shr l k).f0 = S1 at *
  generalize G.getD k 0 * all + q * (shr l i).f0 = S2 at *
  have keepS : ∀ w', Below w.heap.size w w' → (w'.cell? ⟨g, 0, none⟩ = some (.int .i64 q) ∧ w'.cell? ⟨g, 1, none⟩ = some (.int .i64 all) ∧ w'.cell? ⟨g, 3, none⟩ = some (.slice A l.length c) ∧ w'.cell? ⟨g, 4, none⟩ = some (.slice (some ⟨gg, 0, none⟩) l.length l.length) ∧ w'.cell? ⟨gg, i, none⟩ = some (.int .i64 (G.getD i 0)) ∧ w'.cell? ⟨gg, k, none⟩ = some (.int .i64 (G.getD k 0))) ∧ (∃ ad, A = some ad ∧ w'.cell? (ad.add (i * 3)) = some (.int .i64 (shr l i).f0) ∧ w'.cell? (ad.add (k * 3)) = some (.int .i64 (shr l k).f0)) ∧ Below w.heap.size w w' := fun w' hb => by
    have hP := h.on hb
    obtain ⟨⟨ad, e1, c0, _⟩, g0⟩ := hP.row i hi
    obtain ⟨⟨ad2, e2, c1, _⟩, g1⟩ := hP.row k hk
    rw [e1] at e2
    obtain rfl := Option.some.inj e2
    exact ⟨⟨hP.P.cell 0, hP.P.cell 1, hP.P.cell 3, hP.P.cell 4, g0, g1⟩, ⟨ad, e1, c0, c1⟩, hb⟩
  obtain ⟨ad, rfl⟩ : ∃ ad, A = some ad := by obtain ⟨_, ⟨ad, e, _⟩, _⟩ := keepS w (Below.refl _ _); exact ⟨ad, e⟩
  have keepS2 : ∀ w', Below w.heap.size w w' → (w'.cell? ⟨g, 0, none⟩ = some (.int .i64 q) ∧ w'.cell? ⟨g, 1, none⟩ = some (.int .i64 all) ∧ w'.cell? ⟨g, 3, none⟩ = some (.slice (some ad) l.length c) ∧ w'.cell? ⟨g, 4, none⟩ = some (.slice (some ⟨gg, 0, none⟩) l.length l.length) ∧ w'.cell? ⟨gg, i, none⟩ = some (.int .i64 (G.getD i 0)) ∧ w'.cell? ⟨gg, k, none⟩ = some (.int .i64 (G.getD k 0))) ∧ (w'.cell? (ad.add (i * 3)) = some (.int .i64 (shr l i).f0) ∧ w'.cell? (ad.add (k * 3)) = some (.int .i64 (shr l k).f0)) ∧ Below w.heap.size w w' := fun w' hb => by
    obtain ⟨h1, ⟨ad2, e2, h2⟩, h3⟩ := keepS w' hb
    obtain rfl := Option.some.inj e2
    exact ⟨h1, h2, h3⟩
  have p1 : (0 : Int) ≤ (i : Int) := by omega
  have q1 : (i : Int) < (l.length : Int) := by omega
  have p2 : (0 : Int) ≤ (k : Int) := by omega
  have q2 : (k : Int) < (l.length : Int) := by omega
  generalize G.getD i 0 = Gi at *
  generalize G.getD k 0 = Gk at *
  generalize (shr l i).f0 = fi at *
  generalize (shr l k).f0 = fk at *
  have KS := Lib.hid keepS2; have W1 := Lib.hid w1; have W2 := Lib.hid w2; have HL := Lib.hid hl
  obtain ⟨⟨y0, y1, y3, y4, z0, z1⟩, ⟨t0, t1⟩, _⟩ := keepS2 w (Below.refl _ _)
  clear keepS keepS2 w1 w2 hl u1 u2 u3 u4 ub h hoki hokk gi gk ha hq
  go_enter Try.func50, Try.ntmps50
  go_wp2_with fail
  go_region_held3 (fun w' => (w'.cell? ⟨g, 0, none⟩ = some (.int .i64 q) ∧ w'.cell? ⟨g, 1, none⟩ = some (.int .i64 all) ∧ w'.cell? ⟨g, 3, none⟩ = some (.slice (some ad) l.length c) ∧ w'.cell? ⟨g, 4, none⟩ = some (.slice (some ⟨gg, 0, none⟩) l.length l.length) ∧ w'.cell? ⟨gg, i, none⟩ = some (.int .i64 Gi) ∧ w'.cell? ⟨gg, k, none⟩ = some (.int .i64 Gk)) ∧ (w'.cell? (ad.add (i * 3)) = some (.int .i64 fi) ∧ w'.cell? (ad.add (k * 3)) = some (.int .i64 fk)) ∧ Below w.heap.size w w') (first | exact KS.out _ (by repeat (first | exact Below.refl _ _ | assumption | apply below_drew1 | apply pw_below_drewN | refine bt ?_ hb1 | refine bt ?_ hb2 | refine bt ?_ hb3))) (first | (go_at_call 62; first | ((with_reducible refine (W1.out _).mono ?_); rintro e wa ⟨rfl, hb1⟩) | ((with_reducible refine (W2.out _).mono ?_); rintro e wb ⟨rfl, hb2⟩)) | (go_at_call 63; (with_reducible refine (HL.out _).mono ?_); rintro e wc ⟨rfl, hb3⟩))
  go_wp2_with fail
  go_ret
  exact ⟨rfl, by repeat (first | exact Below.refl _ _ | assumption | apply below_drew1 | apply pw_below_drewN | refine bt ?_ hb1 | refine bt ?_ hb2 | refine bt ?_ hb3)⟩
end Go.Proofs.Ytknmojjccfhchaa.Hand
