/- allot.Lots as a function: what each gets, what is left. -/
import Derived.Test.YtknmojjccfhchaaAl4
set_option linter.unusedVariables false
set_option linter.unusedSimpArgs false
namespace Go.Proofs.Ytknmojjccfhchaa.Hand
open Go Go.RowKit Go.Proofs.YtknmojjccfhchaaW.PrintWords Go.Proofs.YtknmojjccfhchaaW.PrintMore Go.Proofs.Ytknmojjccfhchaa.RL Go.Proofs.Ytknmojjccfhchaa.PL
theorem reps_ints (w : World) (b : Nat) (ok : Nat → Prop) : ∀ l : List Int, Reps ((Kd.int .i64).M w b ok) 1 l (l.map (Value.int .i64))
  | [] => Reps.none _ _
  | x :: l => Reps.one rfl (reps_ints w b ok l)
theorem own_ints {w : World} {b : Nat} {v : Value} {l : List Int} (h : w.ownsRow b 3 1 v l.length (l.map (Value.int .i64))) : Kd.R (Kd.int .i64) 3 w b (fun _ => True) v l :=
  ⟨fun _ _ => trivial, _, h, reps_ints _ _ _ l⟩
theorem blk_own {w : World} {b g n : Nat} {l : List Int} (h : Blk w g 3 (ints l)) (hn : l.length = n) (hb : b ≤ g) (hm : n ≤ 1000) : Kd.R (Kd.int .i64) 3 w b (fun _ => True) (.slice (some ⟨g, 0, none⟩) n n) l := by
  subst hn
  exact own_ints ⟨by simp, .inr ⟨g, l.length, ints l, rfl, hb, h, Nat.le_refl _, Nat.le_trans hm (by decide), by simp [ints], by simp [ints]; exact List.take_of_length_le (by simp)⟩⟩
theorem lots_len (q all : Int) (l : List Shr) : ∀ (k : Nat) (G : List Int) (left : Int), (lotsN q all l k G left).1.length = G.length
  | 0, G, left => rfl
  | k + 1, G, left => by
    simp only [lotsN]
    split
    · rfl
    · rw [lots_len q all l k]; exact List.length_set
/-- What each gets, and what is left. -/
def lotsS (q : Int) (l : List Shr) : List Int × Int := lotsN q (sumA l) l (q.toNat + 1) (firstG q (sumA l) l) (q - (firstG q (sumA l) l).sum)
def allot_Lots.f (a0 : Int) (l1 : List Shr) : Option (List Int × Int × Int) := some (if checkS l1 = true ∧ (0 ≤ a0 ∧ a0 ≤ 1099511627776) then ((lotsS a0 l1).1, (lotsS a0 l1).2, 0) else ([], 0, 2))
theorem allot_Lots.calls (a0 : Int) (A1 : Option Addr) (c1 : Nat) (l1 : List Shr) (r1 : List Int) (r2 : Int) (r3 : Int) (w : World) (hr1 : Kd.C kS w A1 l1.length l1) (hc1 : l1.length ≤ c1) (h : allot_Lots.f a0 l1 = some (r1, r2, r3)) :
    Calls Try.prog 17 #[.int .i64 a0, .slice A1 l1.length c1] w fun e w' => ∃ v0_ : Value, e = .returned (.tuple #[v0_, .int .i64 r2, .int .i64 r3]) ∧ Kd.R (Kd.int .i64) 3 w' w.heap.size (fun _ => True) v0_ r1 ∧ Below w.heap.size w w' := by
  have h := Option.some.inj h
  by_cases g : checkS l1 = true ∧ (0 ≤ a0 ∧ a0 ≤ 1099511627776)
  · rw [if_pos g] at h
    simp only [Prod.mk.injEq] at h
    obtain ⟨rfl, rfl, rfl⟩ := h
    have hm : l1.length ≤ 64 := by
      have := g.1
      unfold checkS at this
      rw [Bool.and_eq_true, decide_eq_true_eq] at this
      exact this.1.2
    refine (lots_ok a0 A1 c1 l1 g.2 g.1 w hr1).mono ?_
    rintro e w' ⟨gg, rfl, hgg, hB, hb⟩
    exact ⟨_, rfl, blk_own hB (by unfold lotsS; rw [lots_len, firstG_len]) hgg (by omega), hb⟩
  · rw [if_neg g] at h
    simp only [Prod.mk.injEq] at h
    obtain ⟨rfl, rfl, rfl⟩ := h
    refine (lots_bad a0 A1 c1 l1 (by
      cases hb : checkS l1 with
      | false => exact .inl rfl
      | true => exact .inr fun h => g ⟨hb, h⟩) w hr1).mono ?_
    rintro e w' ⟨rfl, hb⟩
    exact ⟨_, rfl, Kd.R_nil _ _ _ _ _, hb⟩
/- What is true of lots: plainly. -/
/-- Each is on its lot, within its most; nobody could have one lot more; together with what is left it is all. -/
def FitS (q left : Int) (l : List Shr) (G : List Int) : Prop :=
  G.length = l.length ∧ 0 ≤ left ∧ G.sum + left = q ∧ ∀ i, i < l.length → 0 ≤ G.getD i 0 ∧ G.getD i 0 % (shr l i).f2 = 0 ∧ G.getD i 0 ≤ (shr l i).f1
theorem sum_set (G : List Int) (i : Nat) (x : Int) (h : i < G.length) : (G.set i (G.getD i 0 + x)).sum = G.sum + x := by
  induction G generalizing i with
  | nil => simp at h
  | cons a G ih =>
    cases i with
    | zero => simp [List.set]; omega
    | succ i =>
      have := ih i (by simpa using h)
      simp only [List.set_cons_succ, List.sum_cons, List.getD_cons_succ]
      rw [this]; omega
theorem fit_step {q left all : Int} {l : List Shr} {G : List Int} {i : Nat} (hok : l.all okShr = true) (h : FitS q left l G) (hi : i < l.length) (hmy : mayS l G left i = true) : FitS q (left - (shr l i).f2) l (G.set i (G.getD i 0 + (shr l i).f2)) := by
  obtain ⟨h1, h2, h3, h4⟩ := h
  unfold mayS at hmy
  simp only [Bool.and_eq_true, decide_eq_true_eq] at hmy
  have hxo : okShr (shr l i) = true := rd_all hok i hi
  unfold okShr at hxo
  simp only [Bool.and_eq_true, decide_eq_true_eq] at hxo
  refine ⟨by rw [List.length_set]; exact h1, by omega, by rw [sum_set G i _ (by omega)]; omega, ?_⟩
  intro k hk
  have h5 := h4 k hk
  by_cases e : k = i
  · subst e
    rw [List.getD_eq_getElem?_getD, List.getElem?_set_self (by omega), Option.getD_some]
    refine ⟨by omega, ?_, by omega⟩
    rw [Int.add_emod_right]; exact h5.2.1
  · rw [List.getD_eq_getElem?_getD, List.getElem?_set_ne (Ne.symm e), ← List.getD_eq_getElem?_getD]
    exact h5
theorem fit_lots {q all : Int} {l : List Shr} (hok : l.all okShr = true) : ∀ (k : Nat) (G : List Int) (left : Int), left < (k : Int) → FitS q left l G → FitS q (lotsN q all l k G left).2 l (lotsN q all l k G left).1 ∧ ∀ i, i < l.length → mayS l (lotsN q all l k G left).1 (lotsN q all l k G left).2 i = false
  | 0, G, left, hk, h => by have := h.2.1; omega
  | k + 1, G, left, hk, h => by
    rcases nextN_b q all left l G l.length with hno | ⟨i, hi, hyes⟩
    · have hlt : nextN q all left l G l.length < 0 := by omega
      rw [lots_end hlt]
      exact ⟨h, nextN_no hlt⟩
    · have hmy := nextN_may hyes
      have hs := fit_step (all := all) hok h hi hmy
      rw [lots_step hyes]
      have hxo : okShr (shr l i) = true := rd_all hok i hi
      unfold okShr at hxo
      simp only [Bool.and_eq_true, decide_eq_true_eq] at hxo
      exact fit_lots hok k _ _ (by omega) hs
/-- The first parts are together no more than all. -/
theorem first_sum {q : Int} (hq : 0 ≤ q) (all : Int) (h1 : 1 ≤ all) : ∀ l : List Shr, (∀ x ∈ l, okShr x = true ∧ 0 ≤ q * x.f0 / all) → (firstG q all l).sum * all ≤ q * sumA l ∧ 0 ≤ (firstG q all l).sum
  | [], _ => by simp [firstG, sumA]
  | x :: l, h => by
    have ih := first_sum hq all h1 l (fun y hy => h y (by simp [hy]))
    obtain ⟨hx, h0⟩ := h x (by simp)
    unfold okShr at hx
    simp only [Bool.and_eq_true, decide_eq_true_eq] at hx
    have e1 : (firstG q all (x :: l)).sum = firstI q all x + (firstG q all l).sum := by simp [firstG]
    have e2 : sumA (x :: l) = x.f0 + sumA l := by simp [sumA]
    have hf : 0 ≤ firstI q all x ∧ firstI q all x ≤ q * x.f0 / all := by
      unfold firstI
      have hmn : 0 ≤ min (q * x.f0 / all) x.f1 ∧ min (q * x.f0 / all) x.f1 ≤ q * x.f0 / all := by omega
      generalize min (q * x.f0 / all) x.f1 = m at *
      have hd := div_b (n := m) (s := x.f2) (by omega) hmn.1
      exact ⟨hd.2.2.2, by omega⟩
    have h3 : firstI q all x * all ≤ q * x.f0 := Int.le_trans (Int.mul_le_mul_of_nonneg_right hf.2 (by omega)) (Int.ediv_mul_le _ (by omega))
    rw [e1, e2, Int.add_mul, Int.mul_add]
    exact ⟨by omega, by omega⟩
theorem fit_first {q : Int} {l : List Shr} (hq : 0 ≤ q ∧ q ≤ 1099511627776) (hok : l.all okShr = true) (h1 : 1 ≤ sumA l) : FitS q (q - (firstG q (sumA l) l).sum) l (firstG q (sumA l) l) := by
  have hA : ∀ x ∈ l, okA x := fun x hx => okShr_A (List.all_eq_true.1 hok x hx)
  have hs := first_sum hq.1 (sumA l) h1 l (fun x hx => ⟨List.all_eq_true.1 hok x hx, Int.ediv_nonneg (Int.mul_nonneg hq.1 (hA x hx).1) (by omega)⟩)
  have hle : (firstG q (sumA l) l).sum ≤ q := Int.le_of_mul_le_mul_right hs.1 (by omega)
  refine ⟨firstG_len _ _ _, by omega, by omega, ?_⟩
  intro i hi
  have e := firstG_at q (sumA l) l i hi
  rw [List.getD_eq_getElem?_getD, List.getElem?_eq_getElem (by rw [firstG_len]; exact hi), Option.getD_some, e]
  have hb := first_b (all := sumA l) (x := shr l i) hq (rd_all hok i hi) (f0_le hA i hi) h1
  exact ⟨hb.2.2.1, by unfold firstI; exact Int.mul_emod_left _ _, hb.2.2.2.1⟩
/-- What Lots gives. -/
theorem fit_all {q : Int} {l : List Shr} (hq : 0 ≤ q ∧ q ≤ 1099511627776) (hok : checkS l = true) : FitS q (lotsS q l).2 l (lotsS q l).1 ∧ ∀ i, i < l.length → mayS l (lotsS q l).1 (lotsS q l).2 i = false := by
  unfold checkS at hok
  simp only [Bool.and_eq_true, decide_eq_true_eq, Bool.not_eq_true', decide_eq_false_iff_not] at hok
  obtain ⟨hm, hall, hs0⟩ := hok
  have hsb := sumA_b l (fun x hx => okShr_A (List.all_eq_true.1 hall x hx))
  have hf := fit_first hq hall (by omega)
  have hs := first_sum hq.1 (sumA l) (by omega) l (fun x hx => ⟨List.all_eq_true.1 hall x hx, Int.ediv_nonneg (Int.mul_nonneg hq.1 (okShr_A (List.all_eq_true.1 hall x hx)).1) (by omega)⟩)
  unfold lotsS
  exact fit_lots (all := sumA l) hall _ _ _ (by omega) hf
end Go.Proofs.Ytknmojjccfhchaa.Hand
