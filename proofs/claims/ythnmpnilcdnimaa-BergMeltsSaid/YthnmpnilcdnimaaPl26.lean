/- What is out, what is shown and how often, in plain numbers. -/
import Derived.Test.YthnmpnilcdnimaaPl
import Derived.Test.YthnmpnilcdnimaaBx
set_option linter.unusedVariables false
set_option linter.unusedSimpArgs false
namespace Go.Proofs.Ythnmpnilcdnimaa.PL
open Go Go.RowKit Go.Proofs.Ythnmpnilcdnimaa.B Go.Proofs.Ythnmpnilcdnimaa.Hand Go.Proofs.Ythnmpnilcdnimaa.RL Go.Proofs.YthnmpnilcdnimaaW.PrintWords Go.Proofs.YthnmpnilcdnimaaW.PrintMore
theorem all_l0 (l : List Bool) (hl : l.length ≤ 1000) (d : Nat) : ∀ (k i : Nat), i ≤ l.length → l.length - i = d → d < k → berg_all.l0 k l (l.length : Int) (i : Int) = some ((l.drop i).all id) := by
  induction d with
  | zero =>
    intro k i hi hd hk
    obtain ⟨k, rfl⟩ : ∃ m, k = m + 1 := ⟨k - 1, by omega⟩
    simp only [berg_all.l0]
    rw [if_neg (by omega), List.drop_of_length_le (by omega)]; rfl
  | succ d ih =>
    intro k i hi hd hk
    obtain ⟨k, rfl⟩ : ∃ m, k = m + 1 := ⟨k - 1, by omega⟩
    have hlt : i < l.length := by omega
    simp only [berg_all.l0]
    rw [if_pos (by omega), if_pos (by omega), if_pos (by omega), rdOf_bit, wsucc i (by omega), ih k (i + 1) (by omega) (by omega) (by omega), List.drop_eq_getElem_cons hlt, Bl.bit_lt hlt]
    cases l[i] <;> simp
theorem all_is (l : List Bool) (hl : l.length ≤ 20) (k : Nat) (hk : 30 ≤ k) : berg_all.f k l = some (l.all id) := by
  unfold berg_all.f
  have := all_l0 l (by omega) l.length k 0 (by omega) (by omega) (by omega)
  simpa using this
/-- They may be asked for. -/
def ok3 (q s f : Int) : Prop := 0 ≤ q ∧ q ≤ 1099511627776 ∧ 1 ≤ s ∧ s ≤ 1099511627776 ∧ 0 ≤ f ∧ f ≤ q
def ok2 (q s : Int) : Prop := 0 ≤ q ∧ q ≤ 1099511627776 ∧ 1 ≤ s ∧ s ≤ 1099511627776
theorem w64i {n : Int} (h0 : -9223372036854775808 ≤ n) (h1 : n ≤ 9223372036854775807) : wrap64 n = n := w64 h0 h1
theorem target_ok (q s f : Int) (h : ok3 q s f) (k : Nat) (hk : 30 ≤ k) : berg_Target.f k q s f = some (if f + s < q then f + s else q, 0) := by
  obtain ⟨h1, h2, h3, h4, h5, h6⟩ := h
  unfold berg_Target.f
  rw [all_is _ (by simp) k hk, Option.bind_some, if_pos (by simp; omega), w64i (by omega) (by omega)]
  unfold mn
  congr 2
  split <;> split <;> omega
theorem target_no (q s f : Int) (h : ¬ ok3 q s f) (k : Nat) (hk : 30 ≤ k) : berg_Target.f k q s f = some (0, 2) := by
  unfold berg_Target.f
  rw [all_is _ (by simp) k hk, Option.bind_some, if_neg]
  unfold ok3 at h
  simp
  omega
theorem shown_ok (q s f : Int) (h : ok3 q s f) (k : Nat) (hk : 30 ≤ k) : berg_Shown.f k q s f = some (if q - f > s then s else q - f, 0) := by
  unfold berg_Shown.f
  rw [target_ok q s f h k hk, Option.bind_some, if_pos rfl]
  obtain ⟨h1, h2, h3, h4, h5, h6⟩ := h
  simp only
  rw [w64i (by split <;> omega) (by split <;> omega)]
  congr 2
  split <;> split <;> omega
theorem shown_no (q s f : Int) (h : ¬ ok3 q s f) (k : Nat) (hk : 30 ≤ k) : berg_Shown.f k q s f = some (0, 2) := by
  unfold berg_Shown.f
  rw [target_no q s f h k hk, Option.bind_some, if_neg (by simp)]
theorem ceil_is (q s : Int) (hq : 0 ≤ q) (hs : 1 ≤ s) : cei q s = if q % s = 0 then q / s else q / s + 1 := by
  rw [cei_eq q s (by omega)]
  obtain ⟨q, rfl⟩ := Int.eq_ofNat_of_zero_le hq
  obtain ⟨s, rfl⟩ := Int.eq_ofNat_of_zero_le (show 0 ≤ s by omega)
  rw [if_neg (by simp; omega)]
  simp only [Int.natAbs_natCast]
  have e : ((q : Int) % (s : Int) = 0) ↔ q % s = 0 := by omega
  by_cases h : q % s = 0
  · rw [if_pos h, if_pos (e.2 h)]; simp
  · rw [if_neg h, if_neg (fun x => h (e.1 x))]; simp
theorem ceil_b (q s : Int) (hq : 0 ≤ q) (hs : 1 ≤ s) : 0 ≤ cei q s ∧ cei q s ≤ q := by
  rw [ceil_is q s hq hs]
  have h0 : 0 ≤ q / s := Int.ediv_nonneg hq (by omega)
  have h1 : q / s ≤ q := Int.ediv_le_self _ hq
  by_cases h : q % s = 0
  · rw [if_pos h]; exact ⟨h0, h1⟩
  · rw [if_neg h]
    have hdm := Int.emod_add_mul_ediv q s
    have hm := Int.emod_nonneg q (show s ≠ 0 by omega)
    have : q / s ≤ s * (q / s) := by have := Int.mul_le_mul_of_nonneg_right hs h0; omega
    omega
theorem slices_ok (q s : Int) (h : ok2 q s) (k : Nat) (hk : 30 ≤ k) : berg_Slices.f k q s = some (cei q s, 0) := by
  obtain ⟨h1, h2, h3, h4⟩ := h
  have hb := ceil_b q s h1 h3
  unfold berg_Slices.f
  rw [all_is _ (by simp) k hk, Option.bind_some, if_pos (by simp; omega), up_is q 1 s (by unfold in64; omega) (by decide) (by unfold in64; omega), Option.bind_some]
  unfold fr frac
  rw [if_neg (by omega)]
  simp only [if_true, Int.mul_one]
  rw [tell_in (by unfold in64; omega)]
theorem slices_no (q s : Int) (h : ¬ ok2 q s) (k : Nat) (hk : 30 ≤ k) : berg_Slices.f k q s = some (0, 2) := by
  unfold berg_Slices.f
  rw [all_is _ (by simp) k hk, Option.bind_some, if_neg]
  unfold ok2 at h
  simp
  omega
theorem awake26 (k : Nat) (hk : 30 ≤ k) : spigotlaw26_awake.f k = some true := by
  unfold spigotlaw26_awake.f
  rw [target_ok _ _ _ (by unfold ok3; omega) k hk, shown_ok _ _ _ (by unfold ok3; omega) k hk, slices_ok _ _ (by unfold ok2; omega) k hk]
  decide
/- the document's -/
theorem rin26 (a b c : Int) : spigotref26_in.f a b c = some (decide (b ≤ a ∧ a ≤ c)) := by
  unfold spigotref26_in.f
  by_cases h : a ≥ b
  · rw [if_pos h]; congr 1; rw [decide_eq_decide]; omega
  · rw [if_neg h, decide_eq_false (by omega)]
theorem rshown_ok (q s f : Int) (h : ok3 q s f) (k : Nat) (hk : 1 ≤ k) : spigotref26_Shown.f k q s f = some (if q - f > s then s else q - f, 0) := by
  obtain ⟨k, rfl⟩ : ∃ m, k = m + 1 := ⟨k - 1, by omega⟩
  obtain ⟨h1, h2, h3, h4, h5, h6⟩ := h
  unfold spigotref26_Shown.f
  simp only [rin26, Option.bind_some]
  rw [decide_eq_true (by omega), if_pos rfl, decide_eq_true (by omega), if_pos rfl, decide_eq_true (by omega)]
  simp only [spigotref26_Shown.j0, Bool.not_true, Bool.false_eq_true, if_false]
  rw [w64i (by omega) (by omega)]
  split <;> rfl
theorem rshown_no (q s f : Int) (h : ¬ ok3 q s f) (k : Nat) (hk : 1 ≤ k) : spigotref26_Shown.f k q s f = some (0, 2) := by
  obtain ⟨k, rfl⟩ : ∃ m, k = m + 1 := ⟨k - 1, by omega⟩
  have hno : spigotref26_Shown.j0 (k + 1) q s f true = some (0, 2) := by simp [spigotref26_Shown.j0]
  unfold spigotref26_Shown.f
  simp only [rin26, Option.bind_some]
  unfold ok3 at h
  by_cases c1 : 0 ≤ q ∧ q ≤ 1099511627776
  · rw [decide_eq_true c1, if_pos rfl]
    by_cases c2 : 1 ≤ s ∧ s ≤ 1099511627776
    · rw [decide_eq_true c2, if_pos rfl, decide_eq_false (by omega)]; exact hno
    · rw [decide_eq_false c2, if_neg (by simp)]; exact hno
  · rw [decide_eq_false c1, if_neg (by simp)]; exact hno
theorem rtarget26_ok (q s f : Int) (h : ok3 q s f) (k : Nat) (hk : 1 ≤ k) : spigotref26_Target.f k q s f = some (if f + s < q then f + s else q, 0) := by
  unfold spigotref26_Target.f
  rw [rshown_ok q s f h k hk, Option.bind_some, if_pos rfl]
  obtain ⟨h1, h2, h3, h4, h5, h6⟩ := h
  simp only
  rw [w64i (by split <;> omega) (by split <;> omega)]
  congr 2
  split <;> split <;> omega
theorem rtarget26_no (q s f : Int) (h : ¬ ok3 q s f) (k : Nat) (hk : 1 ≤ k) : spigotref26_Target.f k q s f = some (0, 2) := by
  unfold spigotref26_Target.f
  rw [rshown_no q s f h k hk, Option.bind_some, if_neg (by simp)]
theorem rslices_ok (q s : Int) (h : ok2 q s) (k : Nat) (hk : 1 ≤ k) : spigotref26_Slices.f k q s = some (cei q s, 0) := by
  obtain ⟨k, rfl⟩ : ∃ m, k = m + 1 := ⟨k - 1, by omega⟩
  obtain ⟨h1, h2, h3, h4⟩ := h
  have h0 : 0 ≤ q / s := Int.ediv_nonneg h1 (by omega)
  have h5 : q / s ≤ q := Int.ediv_le_self _ h1
  unfold spigotref26_Slices.f
  simp only [rin26, Option.bind_some]
  rw [decide_eq_true (by omega), if_pos rfl, decide_eq_true (by omega)]
  simp only [spigotref26_Slices.j0, Bool.not_true, Bool.false_eq_true, if_false]
  rw [if_neg (by omega), Int.tmod_eq_emod_of_nonneg h1, Int.tdiv_eq_ediv_of_nonneg h1, ceil_is q s h1 h3, w64i (n := q / s) (by omega) (by omega), w64i (by omega) (by omega)]
  split <;> rfl
theorem rslices_no (q s : Int) (h : ¬ ok2 q s) (k : Nat) (hk : 1 ≤ k) : spigotref26_Slices.f k q s = some (0, 2) := by
  obtain ⟨k, rfl⟩ : ∃ m, k = m + 1 := ⟨k - 1, by omega⟩
  have hno : spigotref26_Slices.j0 (k + 1) q s true = some (0, 2) := by simp [spigotref26_Slices.j0]
  unfold spigotref26_Slices.f
  simp only [rin26, Option.bind_some]
  unfold ok2 at h
  by_cases c1 : 0 ≤ q ∧ q ≤ 1099511627776
  · rw [decide_eq_true c1, if_pos rfl, decide_eq_false (by omega)]; exact hno
  · rw [decide_eq_false c1, if_neg (by simp)]; exact hno
end Go.Proofs.Ythnmpnilcdnimaa.PL
