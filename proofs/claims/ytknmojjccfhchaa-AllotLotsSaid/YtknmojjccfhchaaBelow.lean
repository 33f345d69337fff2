/- Texts laid together by join.py: Add Neg Below. -/
import Derived.Test.YtknmojjccfhchaaAx0
import Derived.Test.YtknmojjccfhchaaAx1
import Derived.Test.YtknmojjccfhchaaHandI
import Derived.Test.YtknmojjccfhchaaPl
import Derived.Test.YtknmojjccfhchaaBlk
import Derived.Outline
import Derived.Deep.RegionHeld3
/- The reference's Add, as a function of whole numbers. -/
set_option linter.unusedVariables false
set_option linter.unusedSimpArgs false
namespace Go.Proofs.Ytknmojjccfhchaa.Hand
open Go Go.RowKit Go.Proofs.YtknmojjccfhchaaW.PrintWords Go.Proofs.YtknmojjccfhchaaW.PrintMore Go.Proofs.Ytknmojjccfhchaa.RL

theorem add_at (a b : Int) (ha : small a) (hb : small b) : A.spigotref01_Add.f 100000000 (enc a).1 (enc a).2 (enc b).1 (enc b).2 = some (enc (a + b)) := by
  have la : (Bl.nbits a.natAbs).length ≤ 1000000 := ha
  have lb : (Bl.nbits b.natAbs).length ≤ 1000000 := hb
  have hp := plus_at (Bl.nbits a.natAbs) (Bl.nbits b.natAbs) (by omega) (by omega) 100000000 (by omega)
  have hc := cmp_at (Bl.nbits a.natAbs) (Bl.nbits b.natAbs) (by omega) (by omega) 100000000 (by omega)
  rw [Bl.val_bits, Bl.val_bits] at hp hc
  unfold A.spigotref01_Add.f
  show (if ((enc a).1 == (enc b).1) = true then _ else _) = _
  by_cases hs : decide (a < 0) = decide (b < 0)
  · have e1 : ((enc a).1 == (enc b).1) = true := by show (decide (a < 0) == decide (b < 0)) = true; simp [hs]
    rw [if_pos e1]
    rw [show R.spigotref01_plus.f 100000000 (enc a).2 (enc b).2 = _ from hp, Option.bind_some]
    unfold enc
    rw [decide_eq_decide] at hs
    congr 2
    · rw [decide_eq_decide]; omega
    · congr 1; omega
  · have e1 : ¬ ((enc a).1 == (enc b).1) = true := by show ¬ (decide (a < 0) == decide (b < 0)) = true; simpa using hs
    rw [if_neg e1, show R.spigotref01_cmp.f 100000000 (enc a).2 (enc b).2 = _ from hc, Option.bind_some]
    rw [decide_eq_decide] at hs
    by_cases hlt : a.natAbs < b.natAbs
    · rw [if_pos hlt, if_pos (by omega)]
      have hm := minus_at (Bl.nbits b.natAbs) (Bl.nbits a.natAbs) (by rw [Bl.val_bits, Bl.val_bits]; omega) (by omega) 100000000 (by omega)
      rw [Bl.val_bits, Bl.val_bits] at hm
      rw [show R.spigotref01_minus.f 100000000 (enc b).2 (enc a).2 = _ from hm, Option.bind_some]
      unfold enc
      congr 2
      · rw [decide_eq_decide]; omega
      · congr 1; omega
    · have hge : ¬ (if a.natAbs < b.natAbs then (-1 : Int) else if a.natAbs = b.natAbs then 0 else 1) < 0 := by rw [if_neg hlt]; split <;> omega
      rw [if_neg hge]
      have hm := minus_at (Bl.nbits a.natAbs) (Bl.nbits b.natAbs) (by rw [Bl.val_bits, Bl.val_bits]; omega) (by omega) 100000000 (by omega)
      rw [Bl.val_bits, Bl.val_bits] at hm
      rw [show R.spigotref01_minus.f 100000000 (enc a).2 (enc b).2 = _ from hm, Option.bind_some, pos_ifs]
      show (if decide (a < 0) = true then _ else _) = _
      unfold enc
      have e3 : a.natAbs - b.natAbs = (a + b).natAbs := by omega
      rw [e3]
      by_cases h0 : a < 0
      · rw [if_pos (by simpa using h0)]
        congr 2
        rw [decide_eq_decide]; omega
      · rw [if_neg (by simpa using h0)]
        congr 2
        rw [eq_comm, decide_eq_false_iff_not]; omega
def spigotref01_Add.f (a0_0 : Bool) (l0_1 : List Bool) (a1_0 : Bool) (l1_1 : List Bool) : Option (Bool × List Bool) := if okB a0_0 l0_1 = true ∧ okB a1_0 l1_1 = true then some (enc (dec a0_0 l0_1 + dec a1_0 l1_1)) else none
theorem spigotref01_Add.calls (a0_0 : Bool) (A0_1 : Option Addr) (c0_1 : Nat) (l0_1 : List Bool) (a1_0 : Bool) (A1_1 : Option Addr) (c1_1 : Nat) (l1_1 : List Bool) (r1 : Bool) (r2 : List Bool) (w : World) (hr0_1 : Kd.C Kd.bool w A0_1 l0_1.length l0_1) (hc0_1 : l0_1.length ≤ c0_1) (hr1_1 : Kd.C Kd.bool w A1_1 l1_1.length l1_1) (hc1_1 : l1_1.length ≤ c1_1) (h : spigotref01_Add.f a0_0 l0_1 a1_0 l1_1 = some (r1, r2)) :
    Calls Try.prog 45 #[.agg #[.bool a0_0, .slice A0_1 l0_1.length c0_1], .agg #[.bool a1_0, .slice A1_1 l1_1.length c1_1]] w fun e w' => ∃ v1_ : Value, e = .returned (.agg #[.bool r1, v1_]) ∧ Kd.R Kd.bool 4 w' w.heap.size (fun _ => True) v1_ r2 ∧ Below w.heap.size w w' := by
  unfold spigotref01_Add.f at h
  by_cases c : okB a0_0 l0_1 = true ∧ okB a1_0 l1_1 = true
  · rw [if_pos c] at h
    obtain ⟨z, rfl, rfl, hs, hd⟩ := okB_open c.1
    obtain ⟨y, rfl, rfl, hs2, hd2⟩ := okB_open c.2
    rw [hd, hd2] at h
    have hk := add_at z y hs hs2
    rw [Option.some.inj h] at hk
    exact A.spigotref01_Add.calls _ _ _ _ _ _ _ _ _ r1 r2 w hr0_1 hc0_1 hr1_1 hc1_1 hk
  · rw [if_neg c] at h; exact absurd h (by simp)
end Go.Proofs.Ytknmojjccfhchaa.Hand

/- The reference's Neg, walked. -/
set_option linter.unusedVariables false
set_option linter.unusedSimpArgs false
namespace Go.Proofs.Ytknmojjccfhchaa.Hand
open Go Go.RowKit Go.Proofs.YtknmojjccfhchaaW.PrintWords Go.Proofs.YtknmojjccfhchaaW.PrintMore Go.Proofs.Ytknmojjccfhchaa.RL Go.Proofs.Ytknmojjccfhchaa.PL
set_option maxHeartbeats 1000000 in
theorem neg_walk (s : Bool) (A : Option Addr) (n c : Nat) (w : World) :
    Calls Try.prog 46 #[.agg #[.bool s, .slice A n c]] w fun e w' => e = .returned (.agg #[.bool (!s && decide (0 < n)), .slice A n c]) ∧ Below w.heap.size w w' := by
  by_cases h : 0 < n <;> cases s
  all_goals
    go_enter Try.func46, Try.ntmps46
    go_wp2_with fail
    exact bodyPost_ret (v := .agg #[.bool _, .slice A n c]) (by simp [results, Try.results46, go_sem, h]; rfl) rfl ⟨by simp [h], ((Below.refl w.heap.size w).alloc (Nat.le_refl _) _).alloc (by simp) _⟩
theorem neg_enc (b : Int) (A : Option Addr) (c : Nat) (w : World) :
    Calls Try.prog 46 #[.agg #[.bool (enc b).1, .slice A (enc b).2.length c]] w fun e w' => e = .returned (.agg #[.bool (enc (-b)).1, .slice A (enc b).2.length c]) ∧ Below w.heap.size w w' := by
  have e : (!(enc b).1 && decide (0 < (enc b).2.length)) = (enc (-b)).1 := by
    have hl := len_pos b.natAbs
    show (!decide (b < 0) && decide (0 < (Bl.nbits b.natAbs).length)) = decide (-b < 0)
    by_cases h : b < 0
    · have h2 : ¬ -b < 0 := by omega
      simp [h]; omega
    · by_cases h2 : 0 < b.natAbs
      · have h3 := hl.2 h2
        have h4 : -b < 0 := by omega
        have h5 : 0 < (Bl.nbits b.natAbs).length := by omega
        simp [h, h5]; omega
      · have h3 : ¬ 0 < (Bl.nbits b.natAbs).length := fun q => h2 (hl.1 (by omega))
        have h4 : ¬ -b < 0 := by omega
        simp [h3]; omega
  have := neg_walk (enc b).1 A (enc b).2.length c w
  rw [e] at this
  exact this
theorem bcell_new {W w1 : World} {o : Obj} (hb : Below (W.alloc o).heap.size (W.alloc o) w1) (k : Nat) : w1.cell? ⟨W.heap.size, k, none⟩ = (W.alloc o).cell? ⟨W.heap.size, k, none⟩ ∧ w1.frozen? ⟨W.heap.size, k, none⟩ = (W.alloc o).frozen? ⟨W.heap.size, k, none⟩ ∧ W.heap.size < w1.heap.size := by
  have hs : W.heap.size < (W.alloc o).heap.size := by simp
  exact ⟨(bcell hb).1 _ _ hs, (bcell hb).2 _ _ hs, Nat.lt_of_lt_of_le hs hb.size⟩
theorem bcell_newd {W w1 : World} {o : Obj} (hb : Below ((W.alloc o).drew).heap.size ((W.alloc o).drew) w1) (k : Nat) : w1.cell? ⟨W.heap.size, k, none⟩ = (W.alloc o).cell? ⟨W.heap.size, k, none⟩ ∧ w1.frozen? ⟨W.heap.size, k, none⟩ = (W.alloc o).frozen? ⟨W.heap.size, k, none⟩ ∧ W.heap.size < w1.heap.size := by
  have hs : W.heap.size < (W.alloc o).heap.size := by simp
  exact ⟨(bcell hb).1 _ _ hs, (bcell hb).2 _ _ hs, Nat.lt_of_lt_of_le hs hb.size⟩
end Go.Proofs.Ytknmojjccfhchaa.Hand

/- The reference's Below and Neg, walked. -/
set_option linter.unusedVariables false
set_option linter.unusedSimpArgs false
namespace Go.Proofs.Ytknmojjccfhchaa.Hand
open Go Go.RowKit Go.Proofs.YtknmojjccfhchaaW.PrintWords Go.Proofs.YtknmojjccfhchaaW.PrintMore Go.Proofs.Ytknmojjccfhchaa.RL Go.Proofs.Ytknmojjccfhchaa.PL
theorem s4_below {w W W' : World} {a b c d : Value} (h : W.cell? ⟨w.heap.size, 0, none⟩ = some a ∧ W.cell? ⟨w.heap.size, 1, none⟩ = some b ∧ W.cell? ⟨w.heap.size + 1, 0, none⟩ = some c ∧ W.cell? ⟨w.heap.size + 1, 1, none⟩ = some d ∧ Below w.heap.size w W ∧ w.heap.size + 1 < W.heap.size) (hb : Below W.heap.size W W') :
    W'.cell? ⟨w.heap.size, 0, none⟩ = some a ∧ W'.cell? ⟨w.heap.size, 1, none⟩ = some b ∧ W'.cell? ⟨w.heap.size + 1, 0, none⟩ = some c ∧ W'.cell? ⟨w.heap.size + 1, 1, none⟩ = some d ∧ Below w.heap.size w W' ∧ w.heap.size + 1 < W'.heap.size :=
  ⟨(hb.cell (p := ⟨w.heap.size, 0, none⟩) (by show w.heap.size < _; omega)).trans h.1, (hb.cell (p := ⟨w.heap.size, 1, none⟩) (by show w.heap.size < _; omega)).trans h.2.1, (hb.cell (p := ⟨w.heap.size + 1, 0, none⟩) h.2.2.2.2.2).trans h.2.2.1, (hb.cell (p := ⟨w.heap.size + 1, 1, none⟩) h.2.2.2.2.2).trans h.2.2.2.1, bt h.2.2.2.2.1 hb, Nat.lt_of_lt_of_le h.2.2.2.2.2 hb.size⟩
theorem s4_set {w W : World} {a b c d : Value} (h : W.cell? ⟨w.heap.size, 0, none⟩ = some a ∧ W.cell? ⟨w.heap.size, 1, none⟩ = some b ∧ W.cell? ⟨w.heap.size + 1, 0, none⟩ = some c ∧ W.cell? ⟨w.heap.size + 1, 1, none⟩ = some d ∧ Below w.heap.size w W ∧ w.heap.size + 1 < W.heap.size) {g : Nat} (hg : w.heap.size + 1 < g) (o : Nat) (v : Value) :
    (W.setCell ⟨g, o, none⟩ v).cell? ⟨w.heap.size, 0, none⟩ = some a ∧ (W.setCell ⟨g, o, none⟩ v).cell? ⟨w.heap.size, 1, none⟩ = some b ∧ (W.setCell ⟨g, o, none⟩ v).cell? ⟨w.heap.size + 1, 0, none⟩ = some c ∧ (W.setCell ⟨g, o, none⟩ v).cell? ⟨w.heap.size + 1, 1, none⟩ = some d ∧ Below w.heap.size w (W.setCell ⟨g, o, none⟩ v) ∧ w.heap.size + 1 < (W.setCell ⟨g, o, none⟩ v).heap.size := by
  have e : ∀ b' o', b' ≤ w.heap.size + 1 → (W.setCell ⟨g, o, none⟩ v).cell? ⟨b', o', none⟩ = W.cell? ⟨b', o', none⟩ := fun b' o' hb => World.cell?_setCell_other W _ _ v (fun q => by injection q with q1 _; omega)
  exact ⟨(e _ _ (by omega)).trans h.1, (e _ _ (by omega)).trans h.2.1, (e _ _ (by omega)).trans h.2.2.1, (e _ _ (by omega)).trans h.2.2.2.1, h.2.2.2.2.1.setCell (by show w.heap.size ≤ g; omega) v, by simpa [World.setCell] using h.2.2.2.2.2⟩
set_option maxHeartbeats 4000000 in
set_option maxRecDepth 100000 in
theorem below_walk (a b : Int) (ha : small a) (hb : small b) (A0 A1 : Option Addr) (c0 c1 : Nat) (w : World) (hr0 : Kd.C Kd.bool w A0 (enc a).2.length (enc a).2) (hc0 : (enc a).2.length ≤ c0) (hr1 : Kd.C Kd.bool w A1 (enc b).2.length (enc b).2) (hc1 : (enc b).2.length ≤ c1) :
    Calls Try.prog 30 #[.agg #[.bool (enc a).1, .slice A0 (enc a).2.length c0], .agg #[.bool (enc b).1, .slice A1 (enc b).2.length c1]] w fun e w' => e = .returned (.bool (decide (a < b))) ∧ Below w.heap.size w w' := by
  have hn := fun W => neg_enc b A1 c1 W
  have e2 : (enc (-b)).2 = (enc b).2 := by show Bl.nbits (-b).natAbs = Bl.nbits b.natAbs; rw [Int.natAbs_neg]
  have hs : spigotref01_Add.f (enc a).1 (enc a).2 (enc (-b)).1 (enc b).2 = some ((enc (a + -b)).1, (enc (a + -b)).2) := by
    rw [← e2]
    unfold spigotref01_Add.f; rw [if_pos ⟨okB_enc ha, okB_enc (by unfold small at hb ⊢; rwa [Int.natAbs_neg])⟩, dec_enc, dec_enc]
  have hadd : ∀ W, Below w.heap.size w W → Calls Try.prog 45 #[.agg #[.bool (enc a).1, .slice A0 (enc a).2.length c0], .agg #[.bool (enc (-b)).1, .slice A1 (enc b).2.length c1]] W fun e W' => ∃ A2 n2 c2, e = .returned (.agg #[.bool (decide (a < b)), .slice A2 n2 c2]) ∧ Below W.heap.size W W' := by
    intro W hW
    have := spigotref01_Add.calls (enc a).1 A0 c0 (enc a).2 (enc (-b)).1 A1 c1 (enc b).2 _ _ W (Kd.C_below hr0 hW) hc0 (Kd.C_below hr1 hW) hc1 hs
    refine this.mono ?_
    rintro e W' ⟨v, rfl, hR, hB⟩
    obtain ⟨A2, c2, rfl⟩ := Kd.R_slice hR
    have e3 : (enc (a + -b)).1 = decide (a < b) := by show decide (a + -b < 0) = decide (a < b); rw [decide_eq_decide]; omega
    rw [e3]
    exact ⟨_, _, _, rfl, hB⟩
  have Hn := Lib.hid hn
  have Hadd := Lib.hid hadd
  clear hn hs hadd e2 hr0 hr1 hc0 hc1 ha hb
  generalize (enc a).1 = sa at *
  generalize (enc (-b)).1 = sb2 at *
  generalize (enc b).1 = sb at *
  generalize (enc a).2.length = na at *
  generalize (enc b).2.length = nb at *
  generalize decide (a < b) = r at *
  clear a b
  go_enter Try.func30, Try.ntmps30
  go_wp2_with fail
  have B0 : Below w.heap.size w ((w.alloc (.cells #[.bool sa, .slice A0 na c0] 57)).alloc (.cells #[.bool sb, .slice A1 nb c1] 57)) := ((Below.refl w.heap.size w).alloc (Nat.le_refl _) _).alloc (by simp) _
  have z0 : w.heap.size + 1 < ((w.alloc (.cells #[.bool sa, .slice A0 na c0] 57)).alloc (.cells #[.bool sb, .slice A1 nb c1] 57)).heap.size := by simp
  have x0 : ((w.alloc (.cells #[.bool sa, .slice A0 na c0] 57)).alloc (.cells #[.bool sb, .slice A1 nb c1] 57)).cell? ⟨w.heap.size, 0, none⟩ = some (.bool sa) := by simp [go_sem]
  have x1 : ((w.alloc (.cells #[.bool sa, .slice A0 na c0] 57)).alloc (.cells #[.bool sb, .slice A1 nb c1] 57)).cell? ⟨w.heap.size, 1, none⟩ = some (.slice A0 na c0) := by simp [go_sem]
  have x2 : ((w.alloc (.cells #[.bool sa, .slice A0 na c0] 57)).alloc (.cells #[.bool sb, .slice A1 nb c1] 57)).cell? ⟨w.heap.size + 1, 0, none⟩ = some (.bool sb) := by simp [go_sem]
  have x3 : ((w.alloc (.cells #[.bool sa, .slice A0 na c0] 57)).alloc (.cells #[.bool sb, .slice A1 nb c1] 57)).cell? ⟨w.heap.size + 1, 1, none⟩ = some (.slice A1 nb c1) := by simp [go_sem]
  generalize (w.alloc (.cells #[.bool sa, .slice A0 na c0] 57)).alloc (.cells #[.bool sb, .slice A1 nb c1] 57) = W0 at *
  go_region_held3 (fun w' => w'.cell? ⟨w.heap.size, 0, none⟩ = some (.bool sa) ∧ w'.cell? ⟨w.heap.size, 1, none⟩ = some (.slice A0 na c0) ∧ w'.cell? ⟨w.heap.size + 1, 0, none⟩ = some (.bool sb) ∧ w'.cell? ⟨w.heap.size + 1, 1, none⟩ = some (.slice A1 nb c1) ∧ Below w.heap.size w w' ∧ w.heap.size + 1 < w'.heap.size)
    (first
      | exact ⟨x0, x1, x2, x3, B0, z0⟩
      | exact s4_below ⟨x0, x1, x2, x3, B0, z0⟩ (pw_below_drewN (Below.refl _ _) 1)
      | exact s4_below (by assumption) hb1
      | exact s4_below (by assumption) hb2
      | exact s4_below (by assumption) ((Below.refl _ _).alloc (Nat.le_refl _) _)
      | exact s4_below (s4_below (s4_below (s4_below ⟨x0, x1, x2, x3, B0, z0⟩ (pw_below_drewN (Below.refl _ _) 1)) hb1) hb2) ((Below.refl _ _).alloc (Nat.le_refl _) _)
      | exact s4_set (s4_set (by assumption) (s4_below (s4_below ⟨x0, x1, x2, x3, B0, z0⟩ (pw_below_drewN (Below.refl _ _) 1)) hb1).2.2.2.2.2 _ _) (s4_below (s4_below ⟨x0, x1, x2, x3, B0, z0⟩ (pw_below_drewN (Below.refl _ _) 1)) hb1).2.2.2.2.2 _ _
      | exact s4_set (s4_set (by assumption) z0 _ _) z0 _ _)
    (first
      | (go_at_call 46; refine (Hn.out _).mono ?_; rintro e w1 ⟨rfl, hb1⟩; first | (have u := bcell_newd hb1 0; have v := bcell_newd hb1 1; obtain ⟨u0, i0, is⟩ := u; obtain ⟨u1, i1, _⟩ := v; simp at u0 u1 i0 i1) | skip)
      | (go_at_call 45; refine (Hadd.out _ (by first | assumption | (go_split_ands; assumption))).mono ?_; rintro e w2 ⟨A2, n2, c2, rfl, hb2⟩; first | (have y0 := ((bcell hb2).1 W0.heap.size 0 is).trans u0; have y1 := ((bcell hb2).1 W0.heap.size 1 is).trans u1; have q0 := ((bcell hb2).2 W0.heap.size 0 is).trans i0; have q1 := ((bcell hb2).2 W0.heap.size 1 is).trans i1) | (have u := bcell_new hb2 0; have v := bcell_new hb2 1; obtain ⟨y0, q0, _⟩ := u; obtain ⟨y1, q1, _⟩ := v; simp at y0 y1 q0 q1) | skip))
  all_goals
    go_wp2_with fail
    go_ret
    first
      | exact ⟨rfl, bt (bt (bt (bt B0 (pw_below_drewN (Below.refl _ _) 1)) hb1) hb2) ((Below.refl _ _).alloc (Nat.le_refl _) _)⟩
      | exact ⟨rfl, ((bt (bt (bt (bt B0 (pw_below_drewN (Below.refl _ _) 1)) hb1) ((Below.refl _ _).alloc (Nat.le_refl _) _)) hb2).setCell (bt (bt B0 (pw_below_drewN (Below.refl _ _) 1)) hb1).size _).setCell (bt (bt B0 (pw_below_drewN (Below.refl _ _) 1)) hb1).size _⟩
      | exact ⟨rfl, ((bt (bt (bt B0 (pw_below_drewN ((Below.refl _ _).alloc (Nat.le_refl _) _) 1)) hb1) hb2).setCell B0.size _).setCell B0.size _⟩
/-- Whether one number is below another one. -/
def spigotref01_Below.f (a0_0 : Bool) (l0_1 : List Bool) (a1_0 : Bool) (l1_1 : List Bool) : Option Bool := if okB a0_0 l0_1 = true ∧ okB a1_0 l1_1 = true then some (decide (dec a0_0 l0_1 < dec a1_0 l1_1)) else none
theorem spigotref01_Below.calls (a0_0 : Bool) (A0_1 : Option Addr) (c0_1 : Nat) (l0_1 : List Bool) (a1_0 : Bool) (A1_1 : Option Addr) (c1_1 : Nat) (l1_1 : List Bool) (r : Bool) (w : World) (hr0_1 : Kd.C Kd.bool w A0_1 l0_1.length l0_1) (hc0_1 : l0_1.length ≤ c0_1) (hr1_1 : Kd.C Kd.bool w A1_1 l1_1.length l1_1) (hc1_1 : l1_1.length ≤ c1_1) (h : spigotref01_Below.f a0_0 l0_1 a1_0 l1_1 = some r) :
    Calls Try.prog 30 #[.agg #[.bool a0_0, .slice A0_1 l0_1.length c0_1], .agg #[.bool a1_0, .slice A1_1 l1_1.length c1_1]] w fun e w' => e = .returned (.bool r) ∧ Below w.heap.size w w' := by
  unfold spigotref01_Below.f at h
  by_cases c : okB a0_0 l0_1 = true ∧ okB a1_0 l1_1 = true
  · rw [if_pos c] at h
    obtain ⟨z, rfl, rfl, hs, hd⟩ := okB_open c.1
    obtain ⟨y, rfl, rfl, hs2, hd2⟩ := okB_open c.2
    rw [hd, hd2] at h
    have := below_walk z y hs hs2 A0_1 A1_1 c0_1 c1_1 w hr0_1 hc0_1 hr1_1 hc1_1
    rw [Option.some.inj h] at this
    exact this
  · rw [if_neg c] at h; exact absurd h (by simp)
theorem below_is (a b : Int) (ha : small a) (hb : small b) : spigotref01_Below.f (enc a).1 (enc a).2 (enc b).1 (enc b).2 = some (decide (a < b)) := by
  unfold spigotref01_Below.f; rw [if_pos ⟨okB_enc ha, okB_enc hb⟩, dec_enc, dec_enc]
end Go.Proofs.Ytknmojjccfhchaa.Hand

