/- curve.Spread, as a plain function. -/
import Derived.Test.YtbkoahipcjknfaaCurveF
set_option linter.unusedVariables false
set_option linter.unusedSimpArgs false
namespace Go.Proofs.Ytbkoahipcjknfaa.Hand
open Go Go.RowKit Go.Shelf Go.Proofs.YtbkoahipcjknfaaW.PrintWords Go.Proofs.YtbkoahipcjknfaaW.PrintMore Go.Proofs.Ytbkoahipcjknfaa.RL
attribute [local go_sem] Oper.semAt_some
set_option maxHeartbeats 4000000 in
set_option maxRecDepth 100000 in
theorem spread_no (A : Option Addr) (n cap : Nat) (q all er out : Int) (w : World)
    (htot : ∀ w', Below w.heap.size w w' → Calls Try.prog 16 #[.slice A n cap] w' fun e w'' => e = .returned (.tuple #[.int .i64 all, .int .i64 er]) ∧ Below w'.heap.size w' w'')
    (h : (er = 30 ∧ out = 30) ∨ (er = 0 ∧ out = 2 ∧ (q < 0 ∨ (0 ≤ q ∧ 1099511627776 < q)))) :
    Calls Try.prog 25 #[.int .i64 q, .slice A n cap] w fun e W' => e = .returned (.tuple #[.slice none 0 0, .int .i64 out]) ∧ Below w.heap.size w W' := by
  have bQ0 := ((Boxed.new w 3 (.int .i64 q)).alloc (.cells #[.slice none 0 0] 22)).alloc (.cells #[.int .i64 0] 24)
  have bR0 := (Boxed.new (w.alloc (.cells #[.int .i64 q] 3)) 22 (.slice none 0 0)).alloc (.cells #[.int .i64 0] 24)
  have bE0 := Boxed.new ((w.alloc (.cells #[.int .i64 q] 3)).alloc (.cells #[.slice none 0 0] 22)) 24 (.int .i64 0)
  simp only [World.size_alloc] at bR0 bE0
  have hB00 : Below w.heap.size w (((w.alloc (.cells #[.int .i64 q] 3)).alloc (.cells #[.slice none 0 0] 22)).alloc (.cells #[.int .i64 0] 24)) := (((Below.refl _ w).alloc (Nat.le_refl _) _).alloc (by simp) _).alloc (by simp; omega) _
  have l0 : w.heap.size < (((w.alloc (.cells #[.int .i64 q] 3)).alloc (.cells #[.slice none 0 0] 22)).alloc (.cells #[.int .i64 0] 24)).heap.size := by simp; omega
  have l1 : w.heap.size + 1 < (((w.alloc (.cells #[.int .i64 q] 3)).alloc (.cells #[.slice none 0 0] 22)).alloc (.cells #[.int .i64 0] 24)).heap.size := by simp
  have l2 : w.heap.size + 1 + 1 < (((w.alloc (.cells #[.int .i64 q] 3)).alloc (.cells #[.slice none 0 0] 22)).alloc (.cells #[.int .i64 0] 24)).heap.size := by simp
  have Htot := Lib.hid htot
  have HQ0 := Lib.hid bQ0
  have HR0 := Lib.hid bR0
  have HE0 := Lib.hid bE0
  have HB0 := Lib.hid hB00
  clear htot bQ0 bR0 bE0 hB00
  rcases h with ⟨rfl, rfl⟩ | ⟨rfl, rfl, h | ⟨h, h'⟩⟩
  all_goals
    go_enter Try.func25, Try.ntmps25
    go_wp2_with (go_at_call 16; refine (Htot.out _ HB0.out).mono ?_; rintro e w1 ⟨rfl, hb1⟩; have cQ := (boxed_below HQ0.out hb1 l0).cell; have bR1 := boxed_below HR0.out hb1 l1; have bE1 := boxed_below HE0.out hb1 l2; have cR := bR1.cell; have fR := bR1.frozen; have cE := bE1.cell; have fE := bE1.frozen; have hz9 : w.heap.size < w1.heap.size := Nat.lt_of_lt_of_le l0 hb1.size; have hz8 : w.heap.size + 1 < w1.heap.size := Nat.lt_of_lt_of_le l1 hb1.size; have hz7 : w.heap.size + 1 + 1 < w1.heap.size := Nat.lt_of_lt_of_le l2 hb1.size)
    try rw [Exit.noGoto_ret]
    have bR2 := fun x : Int => (((bR1.set (.slice none 0 0)).other (B' := w.heap.size + 1 + 1) (by omega) (.int .i64 x)).alloc (.cells #[.int .i64 all] 3)).cell
    have bE2 := fun x : Int => (((bE1.other (B' := w.heap.size + 1) (by omega) (.slice none 0 0)).set (.int .i64 x)).alloc (.cells #[.int .i64 all] 3)).cell
    exact bodyPost_ret (v := _) (by simp [results, Try.results25, go_sem, bR2, bE2]) rfl ⟨rfl, (((bt HB0.out hb1).setCell (p := ⟨w.heap.size + 1, 0, none⟩) (by show w.heap.size ≤ w.heap.size + 1; omega) _).setCell (p := ⟨w.heap.size + 1 + 1, 0, none⟩) (by show w.heap.size ≤ w.heap.size + 1 + 1; omega) _).alloc (by simp; omega) _⟩
theorem fr_cum {q x a : Int} (hq : 0 ≤ q) (hq1 : q ≤ 1099511627776) (hx : 0 ≤ x) (hxa : x ≤ a) (ha : 1 ≤ a) : fr q x a false = (q * x / a, 0) ∧ 0 ≤ q * x / a ∧ q * x / a ≤ q := by
  have h1 : 0 ≤ q * x := Int.mul_nonneg hq hx
  have h2 : q * x ≤ q * a := Int.mul_le_mul_of_nonneg_left hxa hq
  have h3 : 0 ≤ q * x / a := Int.ediv_nonneg h1 (by omega)
  have h4 : q * x / a ≤ q := by
    have := Int.ediv_le_ediv (show 0 < a by omega) h2
    rwa [Int.mul_ediv_cancel _ (show a ≠ 0 by omega)] at this
  refine ⟨?_, h3, h4⟩
  unfold fr frac flo
  rw [if_neg (by omega)]
  simp only [Bool.false_eq_true, if_false]
  rw [if_neg (by omega)]
  unfold tell
  rw [if_pos (by omega)]
/-- What is due when k buckets are over. -/
def cumN (q : Int) (l : List Int) (k : Nat) : Int := q * sumN l k / l.sum
/-- A quantity's parts. -/
def spreadN (q : Int) (l : List Int) : List Int := (List.range l.length).map fun i => cumN q l (i + 1) - cumN q l i
theorem sumN_zero (l : List Int) : sumN l 0 = 0 := by simp [sumN]
theorem sumN_all (l : List Int) : sumN l l.length = l.sum := by simp [sumN]
theorem sumN_mono {l : List Int} (h : okZ l) : ∀ (d k : Nat), sumN l k ≤ sumN l (k + d)
  | 0, k => Int.le_refl _
  | d + 1, k => by
    have h1 := sumN_mono h d k
    have h2 := getD_bd h (k + d)
    rw [← Nat.add_assoc, sumN_succ]; omega
theorem sumN_le {l : List Int} (h : okZ l) (k : Nat) : sumN l k ≤ l.sum := by
  by_cases hk : k ≤ l.length
  · have := sumN_mono h (l.length - k) k
    rw [show k + (l.length - k) = l.length by omega, sumN_all] at this
    exact this
  · have : sumN l k = l.sum := by unfold sumN; rw [List.take_of_length_le (by omega)]
    omega
theorem right_sum {l : List Int} (h : rightW l = true) : 1 ≤ l.sum ∧ l.sum ≤ 67108864 := by
  obtain ⟨hz, hne⟩ := right_okZ h
  have hb := sumN_bd hz l.length
  rw [sumN_all] at hb
  refine ⟨?_, hb.2⟩
  obtain ⟨x, hx, hp⟩ := (right_open h).2.2
  obtain ⟨i, hi, rfl⟩ := List.getElem_of_mem hx
  have h1 := sumN_succ l i
  have h2 := sumN_bd hz i
  have h3 := sumN_le hz (i + 1)
  have h4 : l.getD i 0 = l[i] := by simp [hi]
  omega
theorem cum_bd {q : Int} {l : List Int} (h : rightW l = true) (hq : 0 ≤ q) (hq1 : q ≤ 1099511627776) (k : Nat) : fr q (sumN l k) l.sum false = (cumN q l k, 0) ∧ 0 ≤ cumN q l k ∧ cumN q l k ≤ q :=
  fr_cum hq hq1 (sumN_bd (right_okZ h).1 k).1 (sumN_le (right_okZ h).1 k) (right_sum h).1
theorem cum_zero (q : Int) (l : List Int) : cumN q l 0 = 0 := by simp [cumN, sumN_zero]
theorem cum_all {q : Int} {l : List Int} (h : rightW l = true) : cumN q l l.length = q := by
  unfold cumN
  rw [sumN_all]
  exact Int.mul_ediv_cancel _ (by have := (right_sum h).1; omega)
theorem cum_step {q : Int} {l : List Int} (h : rightW l = true) (hq : 0 ≤ q) (k : Nat) : cumN q l k ≤ cumN q l (k + 1) := by
  unfold cumN
  exact Int.ediv_le_ediv (by have := (right_sum h).1; omega) (Int.mul_le_mul_of_nonneg_left (sumN_mono (right_okZ h).1 1 k) hq)
theorem take_upto {α : Type} (f : Nat → α) : ∀ (n i : Nat), i ≤ n → (upto f n).take i = upto f i := by
  intro n i h
  unfold upto
  rw [← List.map_take, List.take_range]
  congr 2; omega
theorem last_upto {q : Int} {l : List Int} (h : rightW l = true) (hz : okZ l) (hq : 0 ≤ q) (hq1 : q ≤ 1099511627776) : ∀ i, i ≤ l.length → lastN q l.sum (upto (bkt l hz) i) = cumN q l i
  | 0, _ => by rw [cum_zero]; rfl
  | i + 1, hi => by
    rw [upto_succ, lastN_snoc]
    unfold nowOf
    rw [bkt_val l hz (by have := hz.1; omega)]
    show (fr q (sumN l i + l.getD i 0) l.sum false).1 = _
    rw [← sumN_succ, (cum_bd h hq hq1 (i + 1)).1]
theorem parts_is {q : Int} {l : List Int} (h : rightW l = true) (hz : okZ l) (hq : 0 ≤ q) (hq1 : q ≤ 1099511627776) : partsN q l.sum (upto (bkt l hz) l.length) = spreadN q l := by
  unfold partsN spreadN
  rw [upto_length]
  apply List.map_congr_left
  intro i hi
  rw [List.mem_range] at hi
  rw [take_upto _ _ _ (by omega), take_upto _ _ _ (by omega), last_upto h hz hq hq1 _ (by omega), last_upto h hz hq hq1 _ (by omega)]
  have h1 := (cum_bd h hq hq1 i).2
  have h2 := (cum_bd h hq hq1 (i + 1)).2
  exact w64 (by omega) (by omega)
/-- A quantity's parts; or that there is no curve, or no such quantity. -/
def spreadW (q : Int) (l : List Int) : List Int × Int := if rightW l = true then (if 0 ≤ q ∧ q ≤ 1099511627776 then (spreadN q l, 0) else ([], 2)) else ([], 30)
def curve_Spread.f (a0 : Int) (l1 : List Int) : Option (List Int × Int) := some (spreadW a0 l1)
theorem curve_Spread.calls (a0 : Int) (A1 : Option Addr) (c1 : Nat) (l1 : List Int) (r1 : List Int) (r2 : Int) (w : World) (hr1 : Kd.C (Kd.int .i64) w A1 l1.length l1) (hc1 : l1.length ≤ c1) (h : curve_Spread.f a0 l1 = some (r1, r2)) :
    Calls Try.prog 25 #[.int .i64 a0, .slice A1 l1.length c1] w fun e w' => ∃ v0_ : Value, e = .returned (.tuple #[v0_, .int .i64 r2]) ∧ Kd.R (Kd.int .i64) 3 w' w.heap.size (fun _ => True) v0_ r1 ∧ Below w.heap.size w w' := by
  have h := Option.some.inj h
  unfold spreadW at h
  by_cases c : rightW l1 = true
  · rw [if_pos c] at h
    obtain ⟨hz, hne⟩ := right_okZ c
    have htot : ∀ w', Below w.heap.size w w' → Calls Try.prog 16 #[.slice A1 l1.length c1] w' fun e w'' => e = .returned (.tuple #[.int .i64 l1.sum, .int .i64 0]) ∧ Below w'.heap.size w' w'' := fun w' hw => curve_Total.calls _ c1 l1 _ _ w' (Kd.C_below hr1 hw) hc1 (by unfold curve_Total.f totW; rw [if_pos c])
    by_cases d : 0 ≤ a0 ∧ a0 ≤ 1099511627776
    · rw [if_pos d] at h
      cases h
      obtain ⟨ad, rfl, hcell⟩ := row_cells hr1 hne
      refine (spread_ok ad c1 l1 hz hne a0 l1.sum d.1 d.2 (right_sum c).1 (right_sum c).2 w hcell htot fun k hk => ?_).mono ?_
      · rw [bkt_val l1 hz (by have := hz.1; omega)]
        show (fr a0 (sumN l1 k + l1.getD k 0) l1.sum false).2 = 0
        rw [← sumN_succ, (cum_bd c d.1 d.2 (k + 1)).1]
      · rintro e w' ⟨v, rfl, hown, hb⟩
        rw [parts_is c hz d.1 d.2] at hown
        exact ⟨v, rfl, Kd.R_of_own hown (fun _ _ => trivial), hb⟩
    · rw [if_neg d] at h
      cases h
      refine (spread_no A1 _ c1 a0 _ 0 2 w htot (.inr ⟨rfl, rfl, by omega⟩)).mono ?_
      rintro e w' ⟨rfl, hb⟩
      exact ⟨_, rfl, Kd.R_nil _ _ _ _ _, hb⟩
  · rw [if_neg c] at h
    cases h
    refine (spread_no A1 _ c1 a0 0 30 30 w (fun w' hw => curve_Total.calls _ c1 l1 _ _ w' (Kd.C_below hr1 hw) hc1 (by unfold curve_Total.f totW; rw [if_neg c])) (.inl ⟨rfl, rfl⟩)).mono ?_
    rintro e w' ⟨rfl, hb⟩
    exact ⟨_, rfl, Kd.R_nil _ _ _ _ _, hb⟩
end Go.Proofs.Ytbkoahipcjknfaa.Hand
