/- allot.Lots, walked. -/
import Derived.Test.YtknmojjccfhchaaAl3
set_option linter.unusedVariables false
set_option linter.unusedSimpArgs false
namespace Go.Proofs.Ytknmojjccfhchaa.Hand
open Go Go.RowKit Go.Proofs.YtknmojjccfhchaaW.PrintWords Go.Proofs.YtknmojjccfhchaaW.PrintMore Go.Proofs.Ytknmojjccfhchaa.RL Go.Proofs.Ytknmojjccfhchaa.PL
/-- Lot for lot. -/
def lotsN (q all : Int) (l : List Shr) : Nat → List Int → Int → List Int × Int
  | 0, G, left => (G, left)
  | k + 1, G, left => if nextN q all left l G l.length < 0 then (G, left) else lotsN q all l k (G.set (nextN q all left l G l.length).toNat (G.getD (nextN q all left l G l.length).toNat 0 + (shr l (nextN q all left l G l.length).toNat).f2)) (left - (shr l (nextN q all left l G l.length).toNat).f2)
/-- The first part of one. -/
def firstI (q all : Int) (x : Shr) : Int := min (q * x.f0 / all) x.f1 / x.f2 * x.f2
def firstG (q all : Int) (l : List Shr) : List Int := l.map (firstI q all)
theorem make_n (n : Nat) (hn : n ≤ 1000) (w : World) : (Instr.makeSlice 24 (.int .i64 n) (.int .i64 n)).run Try.prog w = .ok (.slice (some ⟨w.heap.size, 0, none⟩) n n) (w.alloc (.cells (ints (List.replicate n 0)) 3)) := by
  have info : (Try.prog.info? 3).map (fun i => (i.zero, i.size, i.bytes)) = some (some (.int .i64 0), 1, 8) := by kernel_rfl
  obtain ⟨i0, hi, hz0, hz1, hz2⟩ := info_parts info
  have := run_makeSlice (P := Try.prog) (w := w) 24 3 i0 (.int .i64 0) Try.underlying24 hi hz0 .i64 .i64 (n : Int) (n : Int) (by omega) (Int.le_refl _) (by rw [hz1]; omega) (by rw [hz2]; omega) (by omega)
  rw [this, hz1]
  have e : madeCells (Value.int .i64 0).cells (Int.toNat n * 1) = ints (List.replicate n 0) := by
    unfold ints
    apply Array.ext'
    rw [show (Value.int .i64 0).cells = #[.int .i64 0] from rfl, toList_madeCells_one]
    simp
  rw [e]
  rfl
theorem Pot.setG {w0 w : World} {g gg : Nat} {q all left : Int} {A : Option Addr} {c : Nat} {l : List Shr} {G : List Int} (h : Pot w g gg q all left A c l G) (hl : Kd.C kS w0 A l.length l) (hB : Below w0.heap.size w0 w) (hgg : w0.heap.size ≤ gg) (hne : g ≠ gg) (j : Nat) (v : Int) : Pot (w.setCell ⟨gg, j, none⟩ (.int .i64 v)) g gg q all left A c l (G.set j v) ∧ Below w0.heap.size w0 (w.setCell ⟨gg, j, none⟩ (.int .i64 v)) := by
  have hB2 := hB.setCell (p := ⟨gg, j, none⟩) hgg (.int .i64 v)
  have hR := h.R.put j (.int .i64 v)
  rw [ints_set] at hR
  exact ⟨⟨h.P.far (p := ⟨gg, j, none⟩) hne _, hR, Kd.C_below hl hB2, by rw [List.length_set]; exact h.n⟩, hB2⟩
theorem Pot.setLeft {w0 w : World} {g gg : Nat} {q all left : Int} {A : Option Addr} {c : Nat} {l : List Shr} {G : List Int} (h : Pot w g gg q all left A c l G) (hl : Kd.C kS w0 A l.length l) (hB : Below w0.heap.size w0 w) (hg : w0.heap.size ≤ g) (hne : g ≠ gg) (x : Int) : Pot (w.setCell ⟨g, 2, none⟩ (.int .i64 x)) g gg q all x A c l G ∧ Below w0.heap.size w0 (w.setCell ⟨g, 2, none⟩ (.int .i64 x)) := by
  have hB2 := hB.setCell (p := ⟨g, 2, none⟩) hg (.int .i64 x)
  have hP : Blk (w.setCell ⟨g, 2, none⟩ (.int .i64 x)) g 61 #[.int .i64 q, .int .i64 all, .int .i64 x, .slice A l.length c, .slice (some ⟨gg, 0, none⟩) l.length l.length] := h.P.put 2 (.int .i64 x)
  exact ⟨⟨hP, h.R.far (p := ⟨g, 2, none⟩) (Ne.symm hne) _, Kd.C_below hl hB2, h.n⟩, hB2⟩
/-- The parts of the first j, and noughts. -/
def initG (q all : Int) (l : List Shr) (j : Nat) : List Int := (firstG q all l).take j ++ List.replicate (l.length - j) 0
def initL (q all : Int) (l : List Shr) (j : Nat) : Int := q - ((firstG q all l).take j).sum
theorem firstG_len (q all : Int) (l : List Shr) : (firstG q all l).length = l.length := by simp [firstG]
theorem firstG_at (q all : Int) (l : List Shr) (j : Nat) (hj : j < l.length) : (firstG q all l)[j]'(by rw [firstG_len]; exact hj) = firstI q all (shr l j) := by
  unfold firstG shr U.rd_T42
  rw [List.getElem_map, Int.toNat_natCast, List.getD_eq_getElem?_getD, List.getElem?_eq_getElem hj]
  rfl
theorem initG_step (q all : Int) (l : List Shr) (j : Nat) (hj : j < l.length) : (initG q all l j).set j (firstI q all (shr l j)) = initG q all l (j + 1) := by
  have hlen : ((firstG q all l).take j).length = j := by rw [List.length_take, firstG_len]; omega
  unfold initG
  rw [List.set_append_right _ _ (by omega), hlen, Nat.sub_self, show l.length - j = (l.length - (j + 1)) + 1 by omega, List.replicate_succ, List.set_cons_zero, List.take_succ_eq_append_getElem (by rw [firstG_len]; exact hj), firstG_at q all l j hj, List.append_assoc]
  rfl
theorem initG_at (q all : Int) (l : List Shr) (j : Nat) (hj : j < l.length) : (initG q all l (j + 1)).getD j 0 = firstI q all (shr l j) := by
  unfold initG
  rw [List.getD_eq_getElem?_getD, List.getElem?_append_left (by rw [List.length_take, firstG_len]; omega), List.getElem?_take_of_lt (by omega), List.getElem?_eq_getElem (by rw [firstG_len]; exact hj), firstG_at q all l j hj]
  rfl
theorem initL_step (q all : Int) (l : List Shr) (j : Nat) (hj : j < l.length) : initL q all l (j + 1) = initL q all l j - firstI q all (shr l j) := by
  unfold initL
  rw [List.take_succ_eq_append_getElem (by rw [firstG_len]; exact hj), firstG_at q all l j hj, List.sum_append]
  simp only [List.sum_cons, List.sum_nil]
  omega
theorem initG_end (q all : Int) (l : List Shr) : initG q all l l.length = firstG q all l ∧ initL q all l l.length = q - (firstG q all l).sum := by
  have h : (firstG q all l).take l.length = firstG q all l := by rw [← firstG_len q all l, List.take_length]
  unfold initG initL
  rw [h, Nat.sub_self]
  exact ⟨by simp, rfl⟩
theorem first_b {q all : Int} {x : Shr} (hq : 0 ≤ q ∧ q ≤ 1099511627776) (hx : okShr x = true) (ha : x.f0 ≤ all) (hall : 1 ≤ all) : 0 ≤ q * x.f0 / all ∧ q * x.f0 / all ≤ q ∧ 0 ≤ firstI q all x ∧ firstI q all x ≤ x.f1 ∧ firstI q all x ≤ q * x.f0 / all := by
  unfold okShr at hx
  simp only [Bool.and_eq_true, decide_eq_true_eq] at hx
  have h0 : 0 ≤ q * x.f0 := Int.mul_nonneg hq.1 hx.1.1.1
  have h1 : q * x.f0 ≤ q * all := Int.mul_le_mul_of_nonneg_left ha hq.1
  have h2 : q * x.f0 / all ≤ q := by
    have := Int.ediv_le_ediv (show 0 < all by omega) h1
    rwa [Int.mul_ediv_cancel _ (by omega)] at this
  have h3 : 0 ≤ q * x.f0 / all := Int.ediv_nonneg h0 (by omega)
  unfold firstI
  have hmn : 0 ≤ min (q * x.f0 / all) x.f1 ∧ min (q * x.f0 / all) x.f1 ≤ x.f1 ∧ min (q * x.f0 / all) x.f1 ≤ q * x.f0 / all := by omega
  generalize min (q * x.f0 / all) x.f1 = m at *
  have hd := div_b (n := m) (s := x.f2) (by omega) hmn.1
  exact ⟨h3, h2, hd.2.2.2, by omega, by omega⟩
theorem f0_le {l : List Shr} (hb : ∀ x ∈ l, okA x) (j : Nat) (hj : j < l.length) : (shr l j).f0 ≤ sumA l := by
  have h1 := sumA_take l j hj
  have h2 := sumA_b (l.take j) (fun x hx => hb x (List.mem_of_mem_take hx))
  have h3 : sumA l = sumA (l.take (j + 1)) + sumA (l.drop (j + 1)) := by
    unfold sumA
    rw [← List.sum_append, ← List.map_append, List.take_append_drop]
  have h4 := sumA_b (l.drop (j + 1)) (fun x hx => hb x (List.mem_of_mem_drop hx))
  show (U.rd_T42 l (j : Int)).f0 ≤ sumA l
  omega
theorem initL_b {q all : Int} {l : List Shr} (hq : 0 ≤ q ∧ q ≤ 1099511627776) (hok : l.all okShr = true) (hall : all = sumA l) (h1 : 1 ≤ all) (hm : l.length ≤ 64) (j : Nat) (hj : j ≤ l.length) : q - j * 1099511627776 ≤ initL q all l j ∧ initL q all l j ≤ q := by
  induction j with
  | zero => unfold initL; simp
  | succ j ih =>
    have ih := ih (by omega)
    have hs := initL_step q all l j (by omega)
    have hb := first_b (x := shr l j) hq (rd_all hok j (by omega)) (by rw [hall]; exact f0_le (fun x hx => okShr_A (List.all_eq_true.1 hok x hx)) j (by omega)) h1
    omega
theorem fair_all (q a all : Int) (hq : 0 ≤ q ∧ q ≤ 1099511627776) (ha : 0 ≤ a ∧ a ≤ all) (hall : 1 ≤ all ∧ all ≤ 70368744177664) : ∃ r : Int, ∀ w : World, Calls Try.prog 32 #[.int .i64 q, .int .i64 a, .int .i64 all] w fun e w' => e = .returned (.tuple #[.int .i64 (q * a / all), .int .i64 r]) ∧ Below w.heap.size w w' := by
  have h0 : 0 ≤ q * a := Int.mul_nonneg hq.1 ha.1
  have h1 : q * a ≤ q * all := Int.mul_le_mul_of_nonneg_left ha.2 hq.1
  have h2 : q * a / all ≤ q := by
    have := Int.ediv_le_ediv (show 0 < all by omega) h1
    rwa [Int.mul_ediv_cancel _ (by omega)] at this
  have h3 : 0 ≤ q * a / all := Int.ediv_nonneg h0 (by omega)
  have hd : checked_Down.f q a all = some (q * a / all, 0) := by
    rw [down_is q a all (by unfold in64; omega) (by unfold in64; omega) (by unfold in64; omega)]
    unfold fr frac flo
    rw [if_neg (by omega)]
    simp only [Bool.false_eq_true, if_false]
    rw [if_neg (by omega), tell_in (by unfold in64; omega)]
  have hf : ∃ r, U.allot_fair.f q a all = some (q * a / all, r) := by
    unfold U.allot_fair.f
    rw [hd, Option.bind_some]
    exact ⟨_, rfl⟩
  obtain ⟨r, hf⟩ := hf
  exact ⟨r, fun w => U.allot_fair.calls q a all _ _ w hf⟩
theorem floor_is {q all : Int} {x : Shr} (hx : okShr x = true) (hf : 0 ≤ q * x.f0 / all) : grain_Floor.f (min (q * x.f0 / all) x.f1) x.f2 = some (firstI q all x, 0) := by
  unfold okShr at hx
  simp only [Bool.and_eq_true, decide_eq_true_eq] at hx
  unfold grain_Floor.f firstI
  rw [if_pos (by unfold in64; omega), if_neg (by omega)]
theorem firstG_b {q all : Int} {l : List Shr} (hq : 0 ≤ q ∧ q ≤ 1099511627776) (hok : l.all okShr = true) (hall : all = sumA l) (h1 : 1 ≤ all) : ∀ i, 0 ≤ (firstG q all l).getD i 0 ∧ (firstG q all l).getD i 0 ≤ 1099511627776 := by
  intro i
  by_cases hi : i < l.length
  · have e := firstG_at q all l i hi
    rw [List.getD_eq_getElem?_getD, List.getElem?_eq_getElem (by rw [firstG_len]; exact hi)]
    show 0 ≤ (firstG q all l)[i]'_ ∧ (firstG q all l)[i]'_ ≤ _
    rw [e]
    have hb := first_b (x := shr l i) hq (rd_all hok i hi) (by rw [hall]; exact f0_le (fun x hx => okShr_A (List.all_eq_true.1 hok x hx)) i hi) h1
    omega
  · rw [List.getD_eq_getElem?_getD, List.getElem?_eq_none (by rw [firstG_len]; omega)]
    exact ⟨by decide, by decide⟩
/-- What is left of a pot. -/
def leftOf (w : World) (g : Nat) : Int := match w.cell? ⟨g, 2, none⟩ with | some (.int _ x) => x | _ => 0
theorem leftOf_pot {w : World} {g gg : Nat} {q all left : Int} {A : Option Addr} {c : Nat} {l : List Shr} {G : List Int} (h : Pot w g gg q all left A c l G) : leftOf w g = left := by
  have h2 : w.cell? ⟨g, 2, none⟩ = some (.int .i64 left) := h.P.cell 2
  unfold leftOf
  rw [h2]
theorem lots_end {q all : Int} {l : List Shr} {k : Nat} {G : List Int} {left : Int} (h : nextN q all left l G l.length < 0) : lotsN q all l k G left = (G, left) := by
  cases k with
  | zero => rfl
  | succ k => simp only [lotsN]; rw [if_pos h]
theorem lots_step {q all : Int} {l : List Shr} {k i : Nat} {G : List Int} {left : Int} (h : nextN q all left l G l.length = i) : lotsN q all l (k + 1) G left = lotsN q all l k (G.set i (G.getD i 0 + (shr l i).f2)) (left - (shr l i).f2) := by
  simp only [lotsN]
  rw [h, if_neg (by omega), Int.toNat_natCast]
theorem set_b {G : List Int} {i : Nat} {x m : Int} (hG : ∀ k, 0 ≤ G.getD k 0 ∧ G.getD k 0 ≤ m) (hx : 0 ≤ x ∧ x ≤ m) : ∀ k, 0 ≤ (G.set i x).getD k 0 ∧ (G.set i x).getD k 0 ≤ m := by
  intro k
  have hk := hG k
  by_cases e : k = i
  · subst e
    by_cases h : k < G.length
    · rw [List.getD_eq_getElem?_getD, List.getElem?_set_self h]; exact hx
    · rw [List.getD_eq_getElem?_getD, List.getElem?_eq_none (by rw [List.length_set]; omega)]
      rw [List.getD_eq_getElem?_getD, List.getElem?_eq_none (by omega)] at hk
      exact hk
  · rw [List.getD_eq_getElem?_getD, List.getElem?_set_ne (Ne.symm e), ← List.getD_eq_getElem?_getD]
    exact hk
set_option maxHeartbeats 8000000 in
set_option maxRecDepth 100000 in
theorem lots_ok (q : Int) (A : Option Addr) (c : Nat) (l : List Shr) (hq : 0 ≤ q ∧ q ≤ 1099511627776) (hok : checkS l = true) (w : World) (hl : Kd.C kS w A l.length l) :
    Calls Try.prog 17 #[.int .i64 q, .slice A l.length c] w fun e w' => ∃ gg, e = .returned (.tuple #[.slice (some ⟨gg, 0, none⟩) l.length l.length, .int .i64 (lotsN q (sumA l) l (q.toNat + 1) (firstG q (sumA l) l) (q - (firstG q (sumA l) l).sum)).2, .int .i64 0]) ∧ w.heap.size ≤ gg ∧ Blk w' gg 3 (ints (lotsN q (sumA l) l (q.toNat + 1) (firstG q (sumA l) l) (q - (firstG q (sumA l) l).sum)).1) ∧ Below w.heap.size w w' := by
  have hck := fun w' (hb : Below w.heap.size w w') => check_walk A c l w' (Kd.C_below hl hb)
  rw [hok, if_pos rfl] at hck
  unfold checkS at hok
  simp only [Bool.and_eq_true, decide_eq_true_eq, Bool.not_eq_true', decide_eq_false_iff_not] at hok
  obtain ⟨hm, hall, hs0⟩ := hok
  have hokA : ∀ x ∈ l, okA x := fun x hx => okShr_A (List.all_eq_true.1 hall x hx)
  have hsb := sumA_b l hokA
  have hto := fun w' (hb : Below w.heap.size w w') => total_walk A c l hm.2 hokA w' (Kd.C_below hl hb)
  have hw := fun w => lwithin_walk q 0 1099511627776 w
  rw [decide_eq_true hq] at hw
  have hmk := fun w => make_n l.length (by omega) w
  have HC := Lib.hid hck; have HT := Lib.hid hto; have HW := Lib.hid hw
  clear hck hto hw
  go_enter Try.func17, Try.ntmps17
  go_wp2_with (first | (go_at_call 12; (with_reducible refine (HC.out _ (Below.refl _ _)).mono ?_); rintro e w1 ⟨rfl, hb1⟩) | (go_at_call 23; (with_reducible refine (HW.out _).mono ?_); rintro e wa ⟨rfl, hwa⟩; replace hwa := hwa.symm; subst hwa))
  go_region_with (go_at_call 27; (with_reducible refine (HT.out _ (by repeat (first | exact Below.refl _ _ | assumption | apply below_drew1 | exact hb1.alloc hb1.size _ | refine bt ?_ hb1))).mono ?_); rintro e w2 ⟨rfl, hb2⟩)
  · have hB2 := bt hb1 (bt (below_drew1 (Below.refl _ _)) hb2)
    have hsz := hB2.size
    have hZ := (Blk.new w2 3 (ints (List.replicate l.length 0))).alloc (.cells #[.int .i64 q, .int .i64 (sumA l), .int .i64 q, .slice A l.length c, .slice (some ⟨w2.heap.size, 0, none⟩) l.length l.length] 61)
    have hP := Blk.new (w2.alloc (.cells (ints (List.replicate l.length 0)) 3)) 61 #[.int .i64 q, .int .i64 (sumA l), .int .i64 q, .slice A l.length c, .slice (some ⟨w2.heap.size, 0, none⟩) l.length l.length]
    have hB := (hB2.alloc hB2.size (.cells (ints (List.replicate l.length 0)) 3)).alloc (by simp; omega) (.cells #[.int .i64 q, .int .i64 (sumA l), .int .i64 q, .slice A l.length c, .slice (some ⟨w2.heap.size, 0, none⟩) l.length l.length] 61)
    rw [World.size_alloc] at hP
    have st : Pot _ (w2.heap.size + 1) w2.heap.size q (sumA l) q A c l (List.replicate l.length 0) := ⟨hP, hZ, Kd.C_below hl hB, by simp⟩
    have hne : w2.heap.size + 1 ≠ w2.heap.size := by omega
    have hlow : w.heap.size ≤ w2.heap.size ∧ w.heap.size ≤ w2.heap.size + 1 := by omega
    clear hP hZ hB2 hb1 hb2 hsz
    generalize (w2.alloc (.cells (ints (List.replicate l.length 0)) 3)).alloc (.cells #[.int .i64 q, .int .i64 (sumA l), .int .i64 q, .slice A l.length c, .slice (some ⟨w2.heap.size, 0, none⟩) l.length l.length] 61) = W at *
    generalize hg : w2.heap.size + 1 = g at *
    generalize w2.heap.size = gg at *
    clear hg
    go_wp2_with fail
    go_loopw [34] (fun i wr => ∃ j : Nat, j ≤ l.length ∧ i = .int .i64 j ∧ Pot wr g gg q (sumA l) (initL q (sumA l) l j) A c l (initG q (sumA l) l j) ∧ Below w.heap.size w wr) (fun i _ => l.length - (intOf i).toNat)
    case atStart => exact ⟨0, Nat.zero_le _, rfl, by have e1 : initL q (sumA l) l 0 = q := by unfold initL; simp
                                                     have e2 : initG q (sumA l) l 0 = List.replicate l.length 0 := by unfold initG; simp
                                                     rw [e1, e2]; exact st, hB⟩
    case round =>
      clear st hB HC HT HW hmk
      obtain ⟨j, hj, rfl, st, hB⟩ := hrel
      by_cases hlt : j < l.length
      · have hfx := first_b (all := sumA l) (x := shr l j) hq (rd_all hall j hlt) (f0_le hokA j hlt) (by omega)
        have hxo := rd_all hall j hlt
        have hLb := initL_b hq hall rfl (show 1 ≤ sumA l by omega) hm.2 j hj
        have hsG := initG_step q (sumA l) l j hlt
        have hsL := initL_step q (sumA l) l j hlt
        have hvj := initG_at q (sumA l) l j hlt
        obtain ⟨r, hf⟩ : ∃ r : Int, ∀ w', Calls Try.prog 32 #[.int .i64 q, .int .i64 (shr l j).f0, .int .i64 (sumA l)] w' fun e w'' => e = .returned (.tuple #[.int .i64 (q * (shr l j).f0 / (sumA l)), .int .i64 r]) ∧ Below w'.heap.size w' w'' := fair_all q (shr l j).f0 (sumA l) hq ⟨by have := okShr_A hxo; exact this.1, f0_le hokA j hlt⟩ ⟨by omega, by omega⟩
        have hfl : ∀ w', Calls Try.prog 33 #[.int .i64 (min (q * (shr l j).f0 / sumA l) (shr l j).f1), .int .i64 (shr l j).f2] w' fun e w'' => e = .returned (.tuple #[.int .i64 (firstI q (sumA l) (shr l j)), .int .i64 0]) ∧ Below w'.heap.size w' w'' := fun w' => grain_Floor.calls _ _ _ _ w' (floor_is hxo hfx.1)
        obtain ⟨⟨ad, rfl, c0, c1, c2⟩, g0⟩ := st.row j hlt
        have y1 := st.P.cell 1; have y2 := st.P.cell 2; have y4 := st.P.cell 4
        simp at y1 y2 y4
        unfold okShr at hxo
        simp only [Bool.and_eq_true, decide_eq_true_eq] at hxo
        generalize firstI q (sumA l) (shr l j) = v at *
        generalize q * (shr l j).f0 / sumA l = fa at *
        generalize (shr l j).f0 = x0 at *
        generalize (shr l j).f1 = x1 at *
        generalize (shr l j).f2 = x2 at *
        generalize initL q (sumA l) l j = left at *
        generalize initG q (sumA l) l j = G0 at *
        generalize G0.getD j 0 = gj at *
        have hwl : IntKind.i64.wrap (left - v) = left - v := IntWalk.i64_in _ (by omega)
        have HN := Lib.hid (And.intro hsG hsL)
        have HV := Lib.hid hvj
        have HF := Lib.hid hf; have HFL := Lib.hid hfl
        have hgl := st.P.lt; have hggl := st.R.lt
        have bO := (Below.refl wr.heap.size wr).alloc (Nat.le_refl _) (.cells #[.int .i64 x0, .int .i64 x1, .int .i64 x2] 42)
        have hO := Blk.new wr 42 #[.int .i64 x0, .int .i64 x1, .int .i64 x2]
        have st8 := st.on bO
        have hB8 := bt hB bO
        have ST := Lib.hid st8; have HO := Lib.hid hO; have HB := Lib.hid hB8
        clear hvj hsG hsL hf hfl st hB bO hO st8 hB8 hfx hLb hxo
        go_upto_region 10 with (fail)
        generalize wr.alloc (.cells #[.int .i64 x0, .int .i64 x1, .int .i64 x2] 42) = w8 at *
        have hos : wr.heap.size ≠ g ∧ wr.heap.size ≠ gg := by omega
        generalize wr.heap.size = o at *
        clear c0 c1 c2 g0 y1 y2 y4 hgl hggl
        have keepS : ∀ w', Below w8.heap.size w8 w' → w'.cell? ⟨o, 0, none⟩ = some (.int .i64 x0) ∧ w'.cell? ⟨g, 1, none⟩ = some (.int .i64 (sumA l)) ∧ Below w8.heap.size w8 w' := fun w' h => ⟨(Blk.below HO.out h HO.out.lt).cell 0, (ST.out.on h).P.cell 1, h⟩
        have KS := Lib.hid keepS
        obtain ⟨z0, z1, _⟩ := keepS w8 (Below.refl _ _)
        clear keepS
        go_region_held3 (fun w' => w'.cell? ⟨o, 0, none⟩ = some (.int .i64 x0) ∧ w'.cell? ⟨g, 1, none⟩ = some (.int .i64 (sumA l)) ∧ Below w8.heap.size w8 w') (first | exact KS.out _ (by repeat (first | exact Below.refl _ _ | assumption | apply below_drew1 | apply pw_below_drewN | refine bt ?_ hb5))) (first | (go_at_call 32; (with_reducible refine (HF.out _).mono ?_); rintro e w9 ⟨rfl, hb5⟩))
        have hb9 : Below w8.heap.size w8 w9 := by repeat (first | exact Below.refl _ _ | assumption | apply below_drew1 | apply pw_below_drewN | refine bt ?_ hb5)
        have st9 := ST.out.on hb9
        have hB9 := bt HB.out hb9
        have hO9 := Blk.below HO.out hb9 HO.out.lt
        clear KS ST HO HB z0 z1 hb5 hb9 HF
        have x4 := st9.P.cell 4; have s1 := hO9.cell 1; have s2 := hO9.cell 2
        simp at x4 s1 s2
        have hj0 : (0 : Int) ≤ (j : Int) := by omega
        have hj1 : (j : Int) < (l.length : Int) := by omega
        have hjj : j < l.length := hlt
        go_upto_region 11 with (fail)
        have keep2 : ∀ w', Below w9.heap.size w9 w' → w'.cell? ⟨g, 4, none⟩ = some (.slice (some ⟨gg, 0, none⟩) l.length l.length) ∧ w'.cell? ⟨o, 1, none⟩ = some (.int .i64 x1) ∧ w'.cell? ⟨o, 2, none⟩ = some (.int .i64 x2) := fun w' h => ⟨(st9.on h).P.cell 4, (Blk.below hO9 h hO9.lt).cell 1, (Blk.below hO9 h hO9.lt).cell 2⟩
        have K2 := Lib.hid keep2
        clear keep2
        go_region_held3 (fun w' => w'.cell? ⟨g, 4, none⟩ = some (.slice (some ⟨gg, 0, none⟩) l.length l.length) ∧ w'.cell? ⟨o, 1, none⟩ = some (.int .i64 x1) ∧ w'.cell? ⟨o, 2, none⟩ = some (.int .i64 x2)) (first | exact kk | exact K2.out _ (by repeat (first | exact Below.refl _ _ | assumption | apply below_drew1 | apply pw_below_drewN | refine bt ?_ hb6))) (first | (go_at_call 33; (with_reducible refine (HFL.out _).mono ?_); rintro e wx ⟨rfl, hb6⟩; have hbx : Below w9.heap.size w9 wx := (by repeat (first | exact Below.refl _ _ | assumption | apply below_drew1 | apply pw_below_drewN | refine bt ?_ hb6)); have stx := st9.on hbx; have xgg := (stx.row j hlt).2; have xfg := stx.R.frozen j; have kk : (fun w' : World => w'.cell? ⟨g, 4, none⟩ = some (.slice (some ⟨gg, 0, none⟩) l.length l.length) ∧ w'.cell? ⟨o, 1, none⟩ = some (.int .i64 x1) ∧ w'.cell? ⟨o, 2, none⟩ = some (.int .i64 x2)) (wx.setCell ⟨gg, j, none⟩ (.int .i64 v)) := ⟨(stx.P.far (p := ⟨gg, j, none⟩) hne (.int .i64 v)).cell 4, ((Blk.below hO9 hbx hO9.lt).far (p := ⟨gg, j, none⟩) hos.2 (.int .i64 v)).cell 1, ((Blk.below hO9 hbx hO9.lt).far (p := ⟨gg, j, none⟩) hos.2 (.int .i64 v)).cell 2⟩))
        obtain ⟨stS, hBS⟩ := stx.setG hl (bt hB9 hbx) hlow.1 hne j v
        rw [HN.out.1] at stS
        clear stx xgg xfg hbx hb6 kk K2 HFL st9 hB9 hO9 x4 s1 s2
        generalize wx.setCell ⟨gg, j, none⟩ (.int .i64 v) = wS at *
        have t2 := stS.P.cell 2; have t4 := stS.P.cell 4
        simp at t2 t4
        have tg := (stS.row j hlt).2
        have tf := stS.P.frozen 2
        have tv : (initG q (sumA l) l (j + 1)).getD j 0 = v := HV.out
        rw [tv] at tg
        obtain ⟨stE, hBE⟩ := stS.setLeft hl hBS hlow.2 hne (left - v)
        have HE := Lib.hid (And.intro stE hBE)
        have HL := Lib.hid HN.out.2
        clear stE hBE stS hBS tv HV HN
        go_upto_region 12 with (fail)
        go_region_with (fail)
        all_goals
          go_wp2_with fail
          go_roundw
          case rel => exact ⟨j + 1, by omega, by go_num, by rw [HL.out]; exact HE.out.1.on (below_drew1 (Below.refl _ _)), bt HE.out.2 (below_drew1 (Below.refl _ _))⟩
          case measure => simp only [intOf]; omega
      · obtain rfl : j = l.length := by omega
        rw [(initG_end q (sumA l) l).1, (initG_end q (sumA l) l).2] at st
        have hfb := firstG_b hq hall rfl (show 1 ≤ sumA l by omega)
        have hin : initL q (sumA l) l l.length ≤ q := (initL_b hq hall rfl (show 1 ≤ sumA l by omega) hm.2 l.length (Nat.le_refl _)).2
        rw [(initG_end q (sumA l) l).2] at hin
        generalize hLT : q - (firstG q (sumA l) l).sum = lt0 at *
        generalize hG0 : firstG q (sumA l) l = G0 at *
        have HLT := Lib.hid hLT; have HG0 := Lib.hid hG0
        clear hLT hG0
        go_wp2_with fail
        have F0 : PotOk q (sumA l) l G0 := ⟨hall, hm.2, hq, ⟨by omega, by omega⟩, hfb⟩
        have hk0 : lt0 < ((q.toNat + 1 : Nat) : Int) := by omega
        go_loopw [13] (fun i wr => ∃ (k : Nat) (G : List Int) (left : Int), Hid (lotsN q (sumA l) l k G left = lotsN q (sumA l) l (q.toNat + 1) G0 lt0) ∧ left < (k : Int) ∧ left ≤ 1099511627776 ∧ Hid (Pot wr g gg q (sumA l) left A c l G ∧ PotOk q (sumA l) l G ∧ Below w.heap.size w wr)) (fun _ wr => (leftOf wr g).toNat)
        case atStart => exact ⟨q.toNat + 1, G0, lt0, Lib.hid rfl, hk0, by omega, Lib.hid ⟨st, F0, hB⟩⟩
        case round =>
          clear st F0 hB hfb hin hk0
          obtain ⟨k, G, left, HE, hlk, hl40, HS⟩ := hrel
          obtain ⟨st, F, hB⟩ := HS.out
          have hnx := next_walk g gg q (sumA l) left A c l G F wr st
          have hml := leftOf_pot st
          rcases nextN_b q (sumA l) left l G l.length with hno | ⟨i, hi, hyes⟩
          · have he := lots_end (k := k) (show nextN q (sumA l) left l G l.length < 0 by omega)
            rw [hno] at hnx
            rw [HE.out] at he
            clear HE HS
            go_wp2_with fail
            refine hnx.mono ?_
            rintro e w2 ⟨rfl, hb2⟩
            have st2 := st.on hb2
            have x2 := st2.P.cell 2; have x4 := st2.P.cell 4
            simp at x2 x4
            go_wp2_with fail
            repeat (go_quiet (fail); try go_wp2)
            exact bodyPost_ret (v := .tuple #[.slice (some ⟨gg, 0, none⟩) l.length l.length, .int .i64 left, .int .i64 0]) (by simp [results, Try.results17, go_sem]) rfl ⟨gg, by rw [HG0.out, HLT.out, he], hlow.1, by rw [HG0.out, HLT.out, he]; exact Blk.below st2.R (by repeat (first | exact Below.refl _ _ | assumption | apply below_drew1 | apply pw_below_drewN)) st2.R.lt, bt hB (bt hb2 (by repeat (first | exact Below.refl _ _ | assumption | apply below_drew1 | apply pw_below_drewN)))⟩
          · obtain ⟨k, rfl⟩ : ∃ m, k = m + 1 := ⟨k - 1, by
              have hmy := nextN_may hyes
              unfold mayS at hmy
              simp only [Bool.and_eq_true, decide_eq_true_eq] at hmy
              have hxo : okShr (shr l i) = true := rd_all hall i hi
              unfold okShr at hxo
              simp only [Bool.and_eq_true, decide_eq_true_eq] at hxo
              omega⟩
            have hmy := nextN_may hyes
            unfold mayS at hmy
            simp only [Bool.and_eq_true, decide_eq_true_eq] at hmy
            have hxo : okShr (shr l i) = true := rd_all hall i hi
            unfold okShr at hxo
            simp only [Bool.and_eq_true, decide_eq_true_eq] at hxo
            have he := lots_step (k := k) hyes
            rw [HE.out] at he
            rw [hyes] at hnx
            have hF2 : PotOk q (sumA l) l (G.set i (G.getD i 0 + (shr l i).f2)) := ⟨F.ok, F.hm, F.hq, F.ha, set_b F.hG (by have := F.hG i; omega)⟩
            have hgi := F.hG i
            have hx1 : (shr l i).f1 ≤ 1099511627776 ∧ 1 ≤ (shr l i).f2 ∧ (shr l i).f2 ≤ left ∧ G.getD i 0 ≤ (shr l i).f1 - (shr l i).f2 := ⟨by omega, hxo.2.1, hmy.1, hmy.2⟩
            clear HE HS hxo hmy hyes F
            go_wp2_with fail
            refine hnx.mono ?_
            rintro e w2 ⟨rfl, hb2⟩
            have st2 := st.on hb2
            have hB2 := bt hB hb2
            clear st hB hnx hb2
            obtain ⟨⟨ad, rfl, c0, c1, c2⟩, g0⟩ := st2.row i hi
            have x4 := st2.P.cell 4; have fg := st2.R.frozen i
            simp at x4
            obtain ⟨st3, hB3⟩ := st2.setG hl hB2 hlow.1 hne i (G.getD i 0 + (shr l i).f2)
            obtain ⟨st4, hB4⟩ := st3.setLeft hl hB3 hlow.2 hne (left - (shr l i).f2)
            have HR := Lib.hid (And.intro he (And.intro st4 (And.intro hF2 hB4)))
            obtain ⟨⟨ad3, ea, d0, d1, d2⟩, _⟩ := st3.row i hi
            obtain rfl := Option.some.inj ea
            have z2 : (w2.drew.setCell ⟨gg, i, none⟩ (.int .i64 (G.getD i 0 + (shr l i).f2))).cell? ⟨g, 2, none⟩ = some (.int .i64 left) := st3.P.cell 2
            have zf : (w2.drew.setCell ⟨gg, i, none⟩ (.int .i64 (G.getD i 0 + (shr l i).f2))).frozen? ⟨g, 2, none⟩ = false := st3.P.frozen 2
            have d2' : (w2.drew.setCell ⟨gg, i, none⟩ (.int .i64 (G.getD i 0 + (shr l i).f2))).cell? ⟨(ad.add (i * 3)).block, (ad.add (i * 3)).off + 2, none⟩ = some (.int .i64 (shr l i).f2) := d2
            have hbk : (ad.add (i * 3)).block < w.heap.size := by
              obtain ⟨ad', e', c', _⟩ := U.at_T42 hl (i : Int) (by omega) (by omega)
              obtain rfl := Option.some.inj e'
              rw [Int.toNat_natCast] at c'
              exact World.block_lt_of_cell? _ _ c'
            have hbk1 : (ad.add (i * 3)).block ≠ gg := by omega
            have hbk2 : (ad.add (i * 3)).block ≠ g := by omega
            have t2 : w2.cell? ⟨g, 2, none⟩ = some (.int .i64 left) := st2.P.cell 2
            have tf := st2.P.frozen 2
            have q0 : (0 : Int) ≤ (i : Int) := by omega
            have q1 : (i : Int) < (l.length : Int) := by omega
            have hw1 : IntKind.i64.wrap (G.getD i 0 + (shr l i).f2) = G.getD i 0 + (shr l i).f2 := IntWalk.i64_in _ (by omega)
            have hw2 : IntKind.i64.wrap (left - (shr l i).f2) = left - (shr l i).f2 := IntWalk.i64_in _ (by omega)
            clear he st2 st3 st4 hF2 hB2 hB3 hB4 ea c0 c1 d0 d1
            have hk2 : left - (shr l i).f2 < (k : Int) ∧ left - (shr l i).f2 ≤ 1099511627776 ∧ (left - (shr l i).f2).toNat < left.toNat := by omega
            generalize (shr l i).f2 = x2 at *
            generalize G.getD i 0 = gi at *
            go_wp2_with fail
            go_region_with (fail)
            all_goals
              go_wp2_with fail
              go_region_with (fail)
              all_goals
                go_wp2_with fail
                refine ⟨⟨k, G.set i (gi + x2), left - x2, Lib.hid HR.out.1.symm, hk2.1, hk2.2.1, Lib.hid ⟨HR.out.2.1.on (by repeat (first | exact Below.refl _ _ | apply below_drew1 | apply pw_below_drewN)), HR.out.2.2.1, bt HR.out.2.2.2 (by repeat (first | exact Below.refl _ _ | apply below_drew1 | apply pw_below_drewN))⟩⟩, ?_⟩
                rw [hml, leftOf_pot (HR.out.2.1.on (by repeat (first | exact Below.refl _ _ | apply below_drew1 | apply pw_below_drewN)))]
                exact hk2.2.2
  · have hB2 := bt (hb1.alloc hb1.size (.cells (ints (List.replicate l.length 0)) 3)) (bt (below_drew1 (Below.refl _ _)) hb2)
    have hsz := hB2.size
    have hsz1 := hb1.size
    have hZ0 := (Blk.new w1 3 (ints (List.replicate l.length 0)))
    have hlt0 : w1.heap.size < w2.heap.size := by have := hb2.size; simp at this; omega
    have hZ := (Blk.below hZ0 (bt (below_drew1 (Below.refl _ _)) hb2) hZ0.lt).alloc (.cells #[.int .i64 q, .int .i64 (sumA l), .int .i64 q, .slice A l.length c, .slice (some ⟨w1.heap.size, 0, none⟩) l.length l.length] 61)
    have hP := Blk.new w2 61 #[.int .i64 q, .int .i64 (sumA l), .int .i64 q, .slice A l.length c, .slice (some ⟨w1.heap.size, 0, none⟩) l.length l.length]
    have hB := hB2.alloc hB2.size (.cells #[.int .i64 q, .int .i64 (sumA l), .int .i64 q, .slice A l.length c, .slice (some ⟨w1.heap.size, 0, none⟩) l.length l.length] 61)
    have st : Pot _ w2.heap.size w1.heap.size q (sumA l) q A c l (List.replicate l.length 0) := ⟨hP, hZ, Kd.C_below hl hB, by simp⟩
    have hne : w2.heap.size ≠ w1.heap.size := by omega
    have hlow : w.heap.size ≤ w1.heap.size ∧ w.heap.size ≤ w2.heap.size := by omega
    clear hP hZ hZ0 hB2 hb1 hb2 hsz hsz1 hlt0
    generalize w2.alloc (.cells #[.int .i64 q, .int .i64 (sumA l), .int .i64 q, .slice A l.length c, .slice (some ⟨w1.heap.size, 0, none⟩) l.length l.length] 61) = W at *
    generalize w2.heap.size = g at *
    generalize w1.heap.size = gg at *
    go_wp2_with fail
    go_loopw [34] (fun i wr => ∃ j : Nat, j ≤ l.length ∧ i = .int .i64 j ∧ Pot wr g gg q (sumA l) (initL q (sumA l) l j) A c l (initG q (sumA l) l j) ∧ Below w.heap.size w wr) (fun i _ => l.length - (intOf i).toNat)
    case atStart => exact ⟨0, Nat.zero_le _, rfl, by have e1 : initL q (sumA l) l 0 = q := by unfold initL; simp
                                                     have e2 : initG q (sumA l) l 0 = List.replicate l.length 0 := by unfold initG; simp
                                                     rw [e1, e2]; exact st, hB⟩
    case round =>
      clear st hB HC HT HW hmk
      obtain ⟨j, hj, rfl, st, hB⟩ := hrel
      by_cases hlt : j < l.length
      · have hfx := first_b (all := sumA l) (x := shr l j) hq (rd_all hall j hlt) (f0_le hokA j hlt) (by omega)
        have hxo := rd_all hall j hlt
        have hLb := initL_b hq hall rfl (show 1 ≤ sumA l by omega) hm.2 j hj
        have hsG := initG_step q (sumA l) l j hlt
        have hsL := initL_step q (sumA l) l j hlt
        have hvj := initG_at q (sumA l) l j hlt
        obtain ⟨r, hf⟩ : ∃ r : Int, ∀ w', Calls Try.prog 32 #[.int .i64 q, .int .i64 (shr l j).f0, .int .i64 (sumA l)] w' fun e w'' => e = .returned (.tuple #[.int .i64 (q * (shr l j).f0 / (sumA l)), .int .i64 r]) ∧ Below w'.heap.size w' w'' := fair_all q (shr l j).f0 (sumA l) hq ⟨by have := okShr_A hxo; exact this.1, f0_le hokA j hlt⟩ ⟨by omega, by omega⟩
        have hfl : ∀ w', Calls Try.prog 33 #[.int .i64 (min (q * (shr l j).f0 / sumA l) (shr l j).f1), .int .i64 (shr l j).f2] w' fun e w'' => e = .returned (.tuple #[.int .i64 (firstI q (sumA l) (shr l j)), .int .i64 0]) ∧ Below w'.heap.size w' w'' := fun w' => grain_Floor.calls _ _ _ _ w' (floor_is hxo hfx.1)
        obtain ⟨⟨ad, rfl, c0, c1, c2⟩, g0⟩ := st.row j hlt
        have y1 := st.P.cell 1; have y2 := st.P.cell 2; have y4 := st.P.cell 4
        simp at y1 y2 y4
        unfold okShr at hxo
        simp only [Bool.and_eq_true, decide_eq_true_eq] at hxo
        generalize firstI q (sumA l) (shr l j) = v at *
        generalize q * (shr l j).f0 / sumA l = fa at *
        generalize (shr l j).f0 = x0 at *
        generalize (shr l j).f1 = x1 at *
        generalize (shr l j).f2 = x2 at *
        generalize initL q (sumA l) l j = left at *
        generalize initG q (sumA l) l j = G0 at *
        generalize G0.getD j 0 = gj at *
        have hwl : IntKind.i64.wrap (left - v) = left - v := IntWalk.i64_in _ (by omega)
        have HN := Lib.hid (And.intro hsG hsL)
        have HV := Lib.hid hvj
        have HF := Lib.hid hf; have HFL := Lib.hid hfl
        have hgl := st.P.lt; have hggl := st.R.lt
        have bO := (Below.refl wr.heap.size wr).alloc (Nat.le_refl _) (.cells #[.int .i64 x0, .int .i64 x1, .int .i64 x2] 42)
        have hO := Blk.new wr 42 #[.int .i64 x0, .int .i64 x1, .int .i64 x2]
        have st8 := st.on bO
        have hB8 := bt hB bO
        have ST := Lib.hid st8; have HO := Lib.hid hO; have HB := Lib.hid hB8
        clear hvj hsG hsL hf hfl st hB bO hO st8 hB8 hfx hLb hxo
        go_upto_region 10 with (fail)
        generalize wr.alloc (.cells #[.int .i64 x0, .int .i64 x1, .int .i64 x2] 42) = w8 at *
        have hos : wr.heap.size ≠ g ∧ wr.heap.size ≠ gg := by omega
        generalize wr.heap.size = o at *
        clear c0 c1 c2 g0 y1 y2 y4 hgl hggl
        have keepS : ∀ w', Below w8.heap.size w8 w' → w'.cell? ⟨o, 0, none⟩ = some (.int .i64 x0) ∧ w'.cell? ⟨g, 1, none⟩ = some (.int .i64 (sumA l)) ∧ Below w8.heap.size w8 w' := fun w' h => ⟨(Blk.below HO.out h HO.out.lt).cell 0, (ST.out.on h).P.cell 1, h⟩
        have KS := Lib.hid keepS
        obtain ⟨z0, z1, _⟩ := keepS w8 (Below.refl _ _)
        clear keepS
        go_region_held3 (fun w' => w'.cell? ⟨o, 0, none⟩ = some (.int .i64 x0) ∧ w'.cell? ⟨g, 1, none⟩ = some (.int .i64 (sumA l)) ∧ Below w8.heap.size w8 w') (first | exact KS.out _ (by repeat (first | exact Below.refl _ _ | assumption | apply below_drew1 | apply pw_below_drewN | refine bt ?_ hb5))) (first | (go_at_call 32; (with_reducible refine (HF.out _).mono ?_); rintro e w9 ⟨rfl, hb5⟩))
        have hb9 : Below w8.heap.size w8 w9 := by repeat (first | exact Below.refl _ _ | assumption | apply below_drew1 | apply pw_below_drewN | refine bt ?_ hb5)
        have st9 := ST.out.on hb9
        have hB9 := bt HB.out hb9
        have hO9 := Blk.below HO.out hb9 HO.out.lt
        clear KS ST HO HB z0 z1 hb5 hb9 HF
        have x4 := st9.P.cell 4; have s1 := hO9.cell 1; have s2 := hO9.cell 2
        simp at x4 s1 s2
        have hj0 : (0 : Int) ≤ (j : Int) := by omega
        have hj1 : (j : Int) < (l.length : Int) := by omega
        have hjj : j < l.length := hlt
        go_upto_region 11 with (fail)
        have keep2 : ∀ w', Below w9.heap.size w9 w' → w'.cell? ⟨g, 4, none⟩ = some (.slice (some ⟨gg, 0, none⟩) l.length l.length) ∧ w'.cell? ⟨o, 1, none⟩ = some (.int .i64 x1) ∧ w'.cell? ⟨o, 2, none⟩ = some (.int .i64 x2) := fun w' h => ⟨(st9.on h).P.cell 4, (Blk.below hO9 h hO9.lt).cell 1, (Blk.below hO9 h hO9.lt).cell 2⟩
        have K2 := Lib.hid keep2
        clear keep2
        go_region_held3 (fun w' => w'.cell? ⟨g, 4, none⟩ = some (.slice (some ⟨gg, 0, none⟩) l.length l.length) ∧ w'.cell? ⟨o, 1, none⟩ = some (.int .i64 x1) ∧ w'.cell? ⟨o, 2, none⟩ = some (.int .i64 x2)) (first | exact kk | exact K2.out _ (by repeat (first | exact Below.refl _ _ | assumption | apply below_drew1 | apply pw_below_drewN | refine bt ?_ hb6))) (first | (go_at_call 33; (with_reducible refine (HFL.out _).mono ?_); rintro e wx ⟨rfl, hb6⟩; have hbx : Below w9.heap.size w9 wx := (by repeat (first | exact Below.refl _ _ | assumption | apply below_drew1 | apply pw_below_drewN | refine bt ?_ hb6)); have stx := st9.on hbx; have xgg := (stx.row j hlt).2; have xfg := stx.R.frozen j; have kk : (fun w' : World => w'.cell? ⟨g, 4, none⟩ = some (.slice (some ⟨gg, 0, none⟩) l.length l.length) ∧ w'.cell? ⟨o, 1, none⟩ = some (.int .i64 x1) ∧ w'.cell? ⟨o, 2, none⟩ = some (.int .i64 x2)) (wx.setCell ⟨gg, j, none⟩ (.int .i64 v)) := ⟨(stx.P.far (p := ⟨gg, j, none⟩) hne (.int .i64 v)).cell 4, ((Blk.below hO9 hbx hO9.lt).far (p := ⟨gg, j, none⟩) hos.2 (.int .i64 v)).cell 1, ((Blk.below hO9 hbx hO9.lt).far (p := ⟨gg, j, none⟩) hos.2 (.int .i64 v)).cell 2⟩))
        obtain ⟨stS, hBS⟩ := stx.setG hl (bt hB9 hbx) hlow.1 hne j v
        rw [HN.out.1] at stS
        clear stx xgg xfg hbx hb6 kk K2 HFL st9 hB9 hO9 x4 s1 s2
        generalize wx.setCell ⟨gg, j, none⟩ (.int .i64 v) = wS at *
        have t2 := stS.P.cell 2; have t4 := stS.P.cell 4
        simp at t2 t4
        have tg := (stS.row j hlt).2
        have tf := stS.P.frozen 2
        have tv : (initG q (sumA l) l (j + 1)).getD j 0 = v := HV.out
        rw [tv] at tg
        obtain ⟨stE, hBE⟩ := stS.setLeft hl hBS hlow.2 hne (left - v)
        have HE := Lib.hid (And.intro stE hBE)
        have HL := Lib.hid HN.out.2
        clear stE hBE stS hBS tv HV HN
        go_upto_region 12 with (fail)
        go_region_with (fail)
        all_goals
          go_wp2_with fail
          go_roundw
          case rel => exact ⟨j + 1, by omega, by go_num, by rw [HL.out]; exact HE.out.1.on (below_drew1 (Below.refl _ _)), bt HE.out.2 (below_drew1 (Below.refl _ _))⟩
          case measure => simp only [intOf]; omega
      · obtain rfl : j = l.length := by omega
        rw [(initG_end q (sumA l) l).1, (initG_end q (sumA l) l).2] at st
        have hfb := firstG_b hq hall rfl (show 1 ≤ sumA l by omega)
        have hin : initL q (sumA l) l l.length ≤ q := (initL_b hq hall rfl (show 1 ≤ sumA l by omega) hm.2 l.length (Nat.le_refl _)).2
        rw [(initG_end q (sumA l) l).2] at hin
        generalize hLT : q - (firstG q (sumA l) l).sum = lt0 at *
        generalize hG0 : firstG q (sumA l) l = G0 at *
        have HLT := Lib.hid hLT; have HG0 := Lib.hid hG0
        clear hLT hG0
        go_wp2_with fail
        have F0 : PotOk q (sumA l) l G0 := ⟨hall, hm.2, hq, ⟨by omega, by omega⟩, hfb⟩
        have hk0 : lt0 < ((q.toNat + 1 : Nat) : Int) := by omega
        go_loopw [13] (fun i wr => ∃ (k : Nat) (G : List Int) (left : Int), Hid (lotsN q (sumA l) l k G left = lotsN q (sumA l) l (q.toNat + 1) G0 lt0) ∧ left < (k : Int) ∧ left ≤ 1099511627776 ∧ Hid (Pot wr g gg q (sumA l) left A c l G ∧ PotOk q (sumA l) l G ∧ Below w.heap.size w wr)) (fun _ wr => (leftOf wr g).toNat)
        case atStart => exact ⟨q.toNat + 1, G0, lt0, Lib.hid rfl, hk0, by omega, Lib.hid ⟨st, F0, hB⟩⟩
        case round =>
          clear st F0 hB hfb hin hk0
          obtain ⟨k, G, left, HE, hlk, hl40, HS⟩ := hrel
          obtain ⟨st, F, hB⟩ := HS.out
          have hnx := next_walk g gg q (sumA l) left A c l G F wr st
          have hml := leftOf_pot st
          rcases nextN_b q (sumA l) left l G l.length with hno | ⟨i, hi, hyes⟩
          · have he := lots_end (k := k) (show nextN q (sumA l) left l G l.length < 0 by omega)
            rw [hno] at hnx
            rw [HE.out] at he
            clear HE HS
            go_wp2_with fail
            refine hnx.mono ?_
            rintro e w2 ⟨rfl, hb2⟩
            have st2 := st.on hb2
            have x2 := st2.P.cell 2; have x4 := st2.P.cell 4
            simp at x2 x4
            go_wp2_with fail
            repeat (go_quiet (fail); try go_wp2)
            exact bodyPost_ret (v := .tuple #[.slice (some ⟨gg, 0, none⟩) l.length l.length, .int .i64 left, .int .i64 0]) (by simp [results, Try.results17, go_sem]) rfl ⟨gg, by rw [HG0.out, HLT.out, he], hlow.1, by rw [HG0.out, HLT.out, he]; exact Blk.below st2.R (by repeat (first | exact Below.refl _ _ | assumption | apply below_drew1 | apply pw_below_drewN)) st2.R.lt, bt hB (bt hb2 (by repeat (first | exact Below.refl _ _ | assumption | apply below_drew1 | apply pw_below_drewN)))⟩
          · obtain ⟨k, rfl⟩ : ∃ m, k = m + 1 := ⟨k - 1, by
              have hmy := nextN_may hyes
              unfold mayS at hmy
              simp only [Bool.and_eq_true, decide_eq_true_eq] at hmy
              have hxo : okShr (shr l i) = true := rd_all hall i hi
              unfold okShr at hxo
              simp only [Bool.and_eq_true, decide_eq_true_eq] at hxo
              omega⟩
            have hmy := nextN_may hyes
            unfold mayS at hmy
            simp only [Bool.and_eq_true, decide_eq_true_eq] at hmy
            have hxo : okShr (shr l i) = true := rd_all hall i hi
            unfold okShr at hxo
            simp only [Bool.and_eq_true, decide_eq_true_eq] at hxo
            have he := lots_step (k := k) hyes
            rw [HE.out] at he
            rw [hyes] at hnx
            have hF2 : PotOk q (sumA l) l (G.set i (G.getD i 0 + (shr l i).f2)) := ⟨F.ok, F.hm, F.hq, F.ha, set_b F.hG (by have := F.hG i; omega)⟩
            have hgi := F.hG i
            have hx1 : (shr l i).f1 ≤ 1099511627776 ∧ 1 ≤ (shr l i).f2 ∧ (shr l i).f2 ≤ left ∧ G.getD i 0 ≤ (shr l i).f1 - (shr l i).f2 := ⟨by omega, hxo.2.1, hmy.1, hmy.2⟩
            clear HE HS hxo hmy hyes F
            go_wp2_with fail
            refine hnx.mono ?_
            rintro e w2 ⟨rfl, hb2⟩
            have st2 := st.on hb2
            have hB2 := bt hB hb2
            clear st hB hnx hb2
            obtain ⟨⟨ad, rfl, c0, c1, c2⟩, g0⟩ := st2.row i hi
            have x4 := st2.P.cell 4; have fg := st2.R.frozen i
            simp at x4
            obtain ⟨st3, hB3⟩ := st2.setG hl hB2 hlow.1 hne i (G.getD i 0 + (shr l i).f2)
            obtain ⟨st4, hB4⟩ := st3.setLeft hl hB3 hlow.2 hne (left - (shr l i).f2)
            have HR := Lib.hid (And.intro he (And.intro st4 (And.intro hF2 hB4)))
            obtain ⟨⟨ad3, ea, d0, d1, d2⟩, _⟩ := st3.row i hi
            obtain rfl := Option.some.inj ea
            have z2 : (w2.drew.setCell ⟨gg, i, none⟩ (.int .i64 (G.getD i 0 + (shr l i).f2))).cell? ⟨g, 2, none⟩ = some (.int .i64 left) := st3.P.cell 2
            have zf : (w2.drew.setCell ⟨gg, i, none⟩ (.int .i64 (G.getD i 0 + (shr l i).f2))).frozen? ⟨g, 2, none⟩ = false := st3.P.frozen 2
            have d2' : (w2.drew.setCell ⟨gg, i, none⟩ (.int .i64 (G.getD i 0 + (shr l i).f2))).cell? ⟨(ad.add (i * 3)).block, (ad.add (i * 3)).off + 2, none⟩ = some (.int .i64 (shr l i).f2) := d2
            have hbk : (ad.add (i * 3)).block < w.heap.size := by
              obtain ⟨ad', e', c', _⟩ := U.at_T42 hl (i : Int) (by omega) (by omega)
              obtain rfl := Option.some.inj e'
              rw [Int.toNat_natCast] at c'
              exact World.block_lt_of_cell? _ _ c'
            have hbk1 : (ad.add (i * 3)).block ≠ gg := by omega
            have hbk2 : (ad.add (i * 3)).block ≠ g := by omega
            have t2 : w2.cell? ⟨g, 2, none⟩ = some (.int .i64 left) := st2.P.cell 2
            have tf := st2.P.frozen 2
            have q0 : (0 : Int) ≤ (i : Int) := by omega
            have q1 : (i : Int) < (l.length : Int) := by omega
            have hw1 : IntKind.i64.wrap (G.getD i 0 + (shr l i).f2) = G.getD i 0 + (shr l i).f2 := IntWalk.i64_in _ (by omega)
            have hw2 : IntKind.i64.wrap (left - (shr l i).f2) = left - (shr l i).f2 := IntWalk.i64_in _ (by omega)
            clear he st2 st3 st4 hF2 hB2 hB3 hB4 ea c0 c1 d0 d1
            have hk2 : left - (shr l i).f2 < (k : Int) ∧ left - (shr l i).f2 ≤ 1099511627776 ∧ (left - (shr l i).f2).toNat < left.toNat := by omega
            generalize (shr l i).f2 = x2 at *
            generalize G.getD i 0 = gi at *
            go_wp2_with fail
            go_region_with (fail)
            all_goals
              go_wp2_with fail
              go_region_with (fail)
              all_goals
                go_wp2_with fail
                refine ⟨⟨k, G.set i (gi + x2), left - x2, Lib.hid HR.out.1.symm, hk2.1, hk2.2.1, Lib.hid ⟨HR.out.2.1.on (by repeat (first | exact Below.refl _ _ | apply below_drew1 | apply pw_below_drewN)), HR.out.2.2.1, bt HR.out.2.2.2 (by repeat (first | exact Below.refl _ _ | apply below_drew1 | apply pw_below_drewN))⟩⟩, ?_⟩
                rw [hml, leftOf_pot (HR.out.2.1.on (by repeat (first | exact Below.refl _ _ | apply below_drew1 | apply pw_below_drewN)))]
                exact hk2.2.2
set_option maxHeartbeats 4000000 in
set_option maxRecDepth 100000 in
theorem lots_bad (q : Int) (A : Option Addr) (c : Nat) (l : List Shr) (hno : checkS l = false ∨ ¬ (0 ≤ q ∧ q ≤ 1099511627776)) (w : World) (hl : Kd.C kS w A l.length l) :
    Calls Try.prog 17 #[.int .i64 q, .slice A l.length c] w fun e w' => e = .returned (.tuple #[.slice none 0 0, .int .i64 0, .int .i64 2]) ∧ Below w.heap.size w w' := by
  have hck := check_walk A c l w hl
  have hw := fun w => lwithin_walk q 0 1099511627776 w
  cases hb : checkS l with
  | false =>
    rw [hb, if_neg (by decide)] at hck
    have HC := Lib.hid hck
    clear hck hw hno hb
    go_enter Try.func17, Try.ntmps17
    go_wp2_with (go_at_call 12; (with_reducible refine HC.out.mono ?_); rintro e w1 ⟨rfl, hb1⟩)
    exact bodyPost_ret (v := .tuple #[.slice none 0 0, .int .i64 0, .int .i64 2]) (by simp [results, Try.results17, go_sem]) rfl ⟨rfl, hb1⟩
  | true =>
    have hq : ¬ (0 ≤ q ∧ q ≤ 1099511627776) := by
      rcases hno with h | h
      · rw [hb] at h; cases h
      · exact h
    rw [hb, if_pos rfl] at hck
    rw [decide_eq_false hq] at hw
    have HC := Lib.hid hck; have HW := Lib.hid hw
    clear hck hw hno hb hq
    go_enter Try.func17, Try.ntmps17
    go_wp2_with (first | (go_at_call 12; (with_reducible refine HC.out.mono ?_); rintro e w1 ⟨rfl, hb1⟩) | (go_at_call 23; (with_reducible refine (HW.out _).mono ?_); rintro e wa ⟨rfl, hwa⟩; replace hwa := hwa.symm; subst hwa))
    exact bodyPost_ret (v := .tuple #[.slice none 0 0, .int .i64 0, .int .i64 2]) (by simp [results, Try.results17, go_sem]) rfl ⟨rfl, hb1⟩
end Go.Proofs.Ytknmojjccfhchaa.Hand
