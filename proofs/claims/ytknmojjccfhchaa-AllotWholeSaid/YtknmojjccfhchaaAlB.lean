/- What is true of a sharing out, plainly. -/
import Derived.Test.YtknmojjccfhchaaAlP
set_option linter.unusedVariables false
set_option linter.unusedSimpArgs false
namespace Go.Proofs.Ytknmojjccfhchaa.Hand
open Go Go.RowKit Go.Lib Go.Sort Go.Proofs.YtknmojjccfhchaaW.PrintWords Go.Proofs.YtknmojjccfhchaaW.PrintMore Go.Proofs.Ytknmojjccfhchaa.RL Go.Proofs.Ytknmojjccfhchaa.PL Go.Proofs.Ytknmojjccfhchaa.St
theorem fold_at (t : List Nat) : t.Nodup → ∀ (G : List Int) (i : Nat), i < G.length → (t.foldl (fun G i => G.set i (G.getD i 0 + 1)) G).getD i 0 = G.getD i 0 + (if i ∈ t then 1 else 0) := by
  induction t with
  | nil => intro _ G i _; simp
  | cons j t ih =>
    intro hn G i hi
    rw [List.nodup_cons] at hn
    rw [List.foldl_cons, ih hn.2 _ i (by rw [List.length_set]; exact hi)]
    by_cases e : i = j
    · subst e
      rw [if_neg hn.1, if_pos (by simp), List.getD_eq_getElem?_getD, List.getElem?_set_self hi]
      simp
    · rw [List.getD_eq_getElem?_getD, List.getElem?_set_ne (Ne.symm e), ← List.getD_eq_getElem?_getD]
      by_cases h : i ∈ t
      · rw [if_pos h, if_pos (by simp [h])]
      · rw [if_neg h, if_neg (by simp [h, e])]
theorem ord_nodup (r : List Int) : (ordS r).Nodup := (ord_perm r).nodup_iff.2 List.nodup_range
theorem wo_ltR (r : List Int) : WO (ltR r) := ⟨fun x y => by unfold ltR; simp only [decide_eq_true_eq, decide_eq_false_iff_not]; omega, fun x y z => by unfold ltR; simp only [decide_eq_false_iff_not]; omega⟩
theorem ord_srt (r : List Int) : Srt (ltR r) (ordS r) := isortB_srt (wo_ltR r) _
/-- Who is ahead has no less a rest. -/
theorem ord_ge (r : List Int) (a b : Nat) (hab : a ≤ b) (hb : b < r.length) : r.getD ((ordS r).getD b 0) 0 ≤ r.getD ((ordS r).getD a 0) 0 := by
  by_cases e : a = b
  · subst e; exact Int.le_refl _
  · have h := List.pairwise_iff_getElem.1 (ord_srt r) a b (by rw [ord_len]; omega) (by rw [ord_len]; omega) (by omega)
    rw [List.getD_eq_getElem?_getD (l := ordS r) (i := b), List.getElem?_eq_getElem (show b < (ordS r).length by rw [ord_len]; omega), List.getD_eq_getElem?_getD (l := ordS r) (i := a), List.getElem?_eq_getElem (show a < (ordS r).length by rw [ord_len]; omega)]
    unfold ltR at h
    simp only [decide_eq_false_iff_not] at h
    simp only [Option.getD_some]
    omega
theorem range_map (r : List Int) : (List.range r.length).map (fun i => r.getD i 0) = r := by
  apply List.ext_getElem
  · simp
  · intro i h1 h2
    simp [h2]
theorem perm_sum {a b : List Int} (h : a.Perm b) : a.sum = b.sum := by
  induction h with
  | nil => rfl
  | cons x _ ih => rw [List.sum_cons, List.sum_cons, ih]
  | swap x y l => simp only [List.sum_cons]; omega
  | trans _ _ h1 h2 => rw [h1, h2]
theorem ord_sum (r : List Int) : ((ordS r).map (fun i => r.getD i 0)).sum = r.sum := by
  have h := perm_sum ((ord_perm r).map (fun i => r.getD i 0))
  rw [range_map] at h
  exact h
theorem sum_le (l : List Int) (m : Int) (h : ∀ x ∈ l, x ≤ m) : l.sum ≤ l.length * m := by
  induction l with
  | nil => simp
  | cons a l ih =>
    have h1 := h a (by simp)
    have h2 := ih (fun y hy => h y (by simp [hy]))
    rw [List.sum_cons, List.length_cons, show ((l.length + 1 : Nat) : Int) = (l.length : Int) + 1 by omega, Int.add_mul, Int.one_mul]
    omega
/-- What is left over: as many as the rests make. -/
theorem left_is {q : Int} {l : List Int} (hq : 0 ≤ q) (hb : ∀ x ∈ l, 0 ≤ x) (hs : 1 ≤ l.sum) : 0 ≤ q - (gotS q l.sum l).sum ∧ (q - (gotS q l.sum l).sum) * l.sum = (restS q l.sum l).sum ∧ q - (gotS q l.sum l).sum ≤ l.length := by
  obtain ⟨h1, h2, h3, h4⟩ := got_sum (all := l.sum) hq hs l hb
  have e : (q - (gotS q l.sum l).sum) * l.sum = (restS q l.sum l).sum := by rw [Int.sub_mul]; omega
  refine ⟨?_, e, ?_⟩
  · by_cases h : 0 ≤ q - (gotS q l.sum l).sum
    · exact h
    · have := Int.mul_lt_mul_of_pos_right (show q - (gotS q l.sum l).sum < 0 by omega) (show 0 < l.sum by omega)
      omega
  · refine Int.le_of_mul_le_mul_right (a := l.sum) ?_ (by omega)
    rw [e]
    refine Int.le_trans h4 ?_
    exact Int.mul_le_mul_of_nonneg_left (by omega) (by omega)
theorem rest_b {q all : Int} (h1 : 1 ≤ all) (l : List Int) : ∀ x ∈ restS q all l, 0 ≤ x ∧ x ≤ all - 1 := by
  intro x hx
  obtain ⟨y, hy, rfl⟩ := List.mem_map.1 hx
  have hm0 := Int.emod_nonneg (q * y) (show all ≠ 0 by omega)
  have hm1 := Int.emod_lt_of_pos (q * y) (show 0 < all by omega)
  exact ⟨hm0, by omega⟩
/-- Who gets one more has a rest. -/
theorem more_rest {q : Int} {l : List Int} (hq : 0 ≤ q) (hb : ∀ x ∈ l, 0 ≤ x) (hs : 1 ≤ l.sum) (t : Nat) (ht : t < (q - (gotS q l.sum l).sum).toNat) (htn : t < l.length) : 0 < (restS q l.sum l).getD ((ordS (restS q l.sum l)).getD t 0) 0 := by
  obtain ⟨h1, h2, h3⟩ := left_is hq hb hs
  have hrb := rest_b (q := q) hs l
  have hrl : (restS q l.sum l).length = l.length := by simp [restS]
  generalize hr : restS q l.sum l = r at *
  generalize q - (gotS q l.sum l).sum = left at *
  have hge : ∀ i, 0 ≤ r.getD i 0 ∧ r.getD i 0 ≤ l.sum - 1 := fun i => by
    by_cases hi : i < r.length
    · exact hrb _ (by rw [List.getD_eq_getElem?_getD, List.getElem?_eq_getElem hi]; exact List.getElem_mem hi)
    · rw [List.getD_eq_getElem?_getD, List.getElem?_eq_none (by omega)]
      exact ⟨Int.le_refl _, by show (0 : Int) ≤ _; omega⟩
  by_cases hz : 0 < r.getD ((ordS r).getD t 0) 0
  · exact hz
  · exfalso
    have hsum := ord_sum r
    rw [← List.take_append_drop t (ordS r), List.map_append, List.sum_append] at hsum
    have hs1 : (((ordS r).take t).map (fun i => r.getD i 0)).sum ≤ t * (l.sum - 1) := by
      have := sum_le (((ordS r).take t).map (fun i => r.getD i 0)) (l.sum - 1) (fun x hx => by
        obtain ⟨y, hy, rfl⟩ := List.mem_map.1 hx
        exact (hge y).2)
      rw [List.length_map, List.length_take, ord_len, Nat.min_eq_left (by omega)] at this
      exact this
    have hs2 : (((ordS r).drop t).map (fun i => r.getD i 0)).sum ≤ 0 := by
      have := sum_le (((ordS r).drop t).map (fun i => r.getD i 0)) 0 (fun x hx => by
        obtain ⟨y, hy, rfl⟩ := List.mem_map.1 hx
        obtain ⟨j, hj, rfl⟩ := List.getElem_of_mem hy
        rw [List.length_drop, ord_len] at hj
        rw [List.getElem_drop]
        have h := ord_ge r t (t + j) (by omega) (by omega)
        rw [List.getD_eq_getElem?_getD (l := ordS r) (i := t + j), List.getElem?_eq_getElem (show t + j < (ordS r).length by rw [ord_len]; omega), Option.getD_some] at h
        omega)
      simpa using this
    have h5 : left * l.sum ≤ t * (l.sum - 1) := by omega
    have h6 : (t : Int) * (l.sum - 1) ≤ t * l.sum := Int.mul_le_mul_of_nonneg_left (by omega) (by omega)
    have h7 : ((t : Int) + 1) * l.sum ≤ left * l.sum := Int.mul_le_mul_of_nonneg_right (by omega) (by omega)
    rw [Int.add_mul, Int.one_mul] at h7
    omega
theorem got_len (q all : Int) (l : List Int) : (gotS q all l).length = l.length ∧ (restS q all l).length = l.length := by simp [gotS, restS]
theorem split_at {q : Int} {l : List Int} (i : Nat) (hi : i < l.length) : (splitS q l).getD i 0 = q * l.getD i 0 / l.sum + (if i ∈ (ordS (restS q l.sum l)).take (q - (gotS q l.sum l).sum).toNat then 1 else 0) := by
  unfold splitS bump
  rw [fold_at _ ((ord_nodup _).sublist (List.take_sublist _ _)) _ i (by rw [(got_len _ _ _).1]; exact hi), (got_at q l.sum l i hi).1]
theorem split_sum {q : Int} {l : List Int} (hq : 0 ≤ q) (hb : ∀ x ∈ l, 0 ≤ x) (hs : 1 ≤ l.sum) : (splitS q l).sum = q ∧ ∀ x ∈ splitS q l, 0 ≤ x := by
  obtain ⟨h1, h2, h3⟩ := left_is hq hb hs
  have hl := got_len q l.sum l
  have := bump_sum (gotS q l.sum l) (ordS (restS q l.sum l)) (fun k hk => by rw [hl.1, ← hl.2]; exact ord_lt _ k (by rwa [ord_len] at hk)) (fun x hx => by
    obtain ⟨y, hy, rfl⟩ := List.mem_map.1 hx
    exact Int.ediv_nonneg (Int.mul_nonneg hq (hb y hy)) (by omega)) (q - (gotS q l.sum l).sum).toNat (by rw [ord_len, hl.2]; omega)
  exact ⟨by unfold splitS; rw [this.1]; omega, this.2⟩
theorem take_pos {α : Type} {l : List α} {x : α} {k : Nat} (h : x ∈ l.take k) : ∃ t, t < k ∧ ∃ ht : t < l.length, l[t] = x := by
  obtain ⟨t, ht, rfl⟩ := List.getElem_of_mem h
  rw [List.length_take] at ht
  exact ⟨t, by omega, by omega, by rw [List.getElem_take]⟩
theorem split_b {q : Int} {l : List Int} (hq : 0 ≤ q) (hb : ∀ x ∈ l, 0 ≤ x) (hs : 1 ≤ l.sum) (i : Nat) (hi : i < l.length) : q * l.getD i 0 / l.sum ≤ (splitS q l).getD i 0 ∧ (splitS q l).getD i 0 ≤ q * l.getD i 0 / l.sum + (if q * l.getD i 0 % l.sum = 0 then 0 else 1) := by
  rw [split_at i hi]
  by_cases h : i ∈ (ordS (restS q l.sum l)).take (q - (gotS q l.sum l).sum).toNat
  · rw [if_pos h]
    obtain ⟨t, h1, h2, h3⟩ := take_pos h
    have h4 := more_rest hq hb hs t h1 (by rw [ord_len, (got_len _ _ _).2] at h2; exact h2)
    rw [List.getD_eq_getElem?_getD (l := ordS (restS q l.sum l)), List.getElem?_eq_getElem h2, Option.getD_some, h3, (got_at q l.sum l i hi).2] at h4
    rw [if_neg (by omega)]
    omega
  · rw [if_neg h]
    split <;> omega
theorem split_mono {q : Int} {l : List Int} (hq : 0 ≤ q) (hb : ∀ x ∈ l, 0 ≤ x) (hs : 1 ≤ l.sum) (i k : Nat) (hi : i < l.length) (hk : k < l.length) (h : l.getD i 0 < l.getD k 0) : (splitS q l).getD i 0 ≤ (splitS q l).getD k 0 := by
  rw [split_at i hi, split_at k hk]
  have hm : q * l.getD i 0 ≤ q * l.getD k 0 := Int.mul_le_mul_of_nonneg_left (by omega) hq
  have hd := Int.ediv_le_ediv (show 0 < l.sum by omega) hm
  by_cases hin : i ∈ (ordS (restS q l.sum l)).take (q - (gotS q l.sum l).sum).toNat
  · rw [if_pos hin]
    by_cases hkn : k ∈ (ordS (restS q l.sum l)).take (q - (gotS q l.sum l).sum).toNat
    · rw [if_pos hkn]; omega
    · rw [if_neg hkn]
      by_cases he : q * l.getD i 0 / l.sum = q * l.getD k 0 / l.sum
      · exfalso
        obtain ⟨t, h1, h2, h3⟩ := take_pos hin
        have hpos := more_rest hq hb hs t h1 (by rw [ord_len, (got_len _ _ _).2] at h2; exact h2)
        have hrl := (got_len q l.sum l).2
        have hkm : k ∈ ordS (restS q l.sum l) := (ord_perm _).mem_iff.2 (List.mem_range.2 (by rw [hrl]; exact hk))
        obtain ⟨p, hp, hpk⟩ := List.getElem_of_mem hkm
        have hpt : (q - (gotS q l.sum l).sum).toNat ≤ p := by
          rcases Nat.lt_or_ge p (q - (gotS q l.sum l).sum).toNat with hlt | hge
          · exfalso
            apply hkn
            rw [← hpk]
            exact List.mem_take_iff_getElem.2 ⟨p, by omega, rfl⟩
          · exact hge
        have hge := ord_ge (restS q l.sum l) t p (by omega) (by rw [ord_len] at hp; exact hp)
        rw [List.getD_eq_getElem?_getD (l := ordS (restS q l.sum l)) (i := p), List.getElem?_eq_getElem hp, Option.getD_some, hpk, List.getD_eq_getElem?_getD (l := ordS (restS q l.sum l)) (i := t), List.getElem?_eq_getElem h2, Option.getD_some, h3, (got_at q l.sum l i hi).2, (got_at q l.sum l k hk).2] at hge
        rw [List.getD_eq_getElem?_getD (l := ordS (restS q l.sum l)), List.getElem?_eq_getElem h2, Option.getD_some, h3, (got_at q l.sum l i hi).2] at hpos
        have e1 := Int.ediv_mul_add_emod (q * l.getD i 0) l.sum
        have e2 := Int.ediv_mul_add_emod (q * l.getD k 0) l.sum
        rw [he] at e1
        have hq1 : 0 < q := by
          rcases Int.lt_or_le 0 q with hlt | hle
          · exact hlt
          · exfalso
            have : q = 0 := by omega
            rw [this, Int.zero_mul, Int.zero_emod] at hpos
            omega
        have := Int.mul_lt_mul_of_pos_left h hq1
        omega
      · omega
  · rw [if_neg hin]
    split <;> omega
end Go.Proofs.Ytknmojjccfhchaa.Hand
