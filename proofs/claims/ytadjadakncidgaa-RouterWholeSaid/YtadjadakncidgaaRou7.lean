/- Of the pieces, in plain words: together with what is left they are the slice; each on both lots; nobody could get what is left. -/
import Derived.Test.YtadjadakncidgaaRou5
set_option linter.unusedVariables false
set_option linter.unusedSimpArgs false
namespace Go.Proofs.Ytadjadakncidgaa.Hand
open Go Go.RowKit Go.Proofs.YtadjadakncidgaaW.PrintWords Go.Proofs.YtadjadakncidgaaW.PrintMore Go.Proofs.Ytadjadakncidgaa.RL Go.Proofs.Ytadjadakncidgaa.PL Go.Proofs.Ytadjadakncidgaa.St Go.Proofs.Ytadjadakncidgaa.U
def sG (G : List Int) : Nat → Int
  | 0 => 0
  | k + 1 => sG G k + G.getD k 0
theorem sG_set (G : List Int) (j : Nat) (x : Int) (hj : j < G.length) (k : Nat) : sG (G.set j x) k = sG G k + (if j < k then x - G.getD j 0 else 0) := by
  induction k with
  | zero => simp [sG]
  | succ k ih =>
    simp only [sG]
    rw [ih, getD_set0]
    by_cases h1 : k = j
    · subst h1
      rw [if_neg (show ¬ k < k by omega), if_pos (show k = k ∧ k < G.length from ⟨rfl, hj⟩), if_pos (show k < k + 1 by omega)]; omega
    · rw [if_neg (show ¬ (k = j ∧ j < G.length) from fun q => h1 q.1)]
      by_cases h2 : j < k
      · rw [if_pos h2, if_pos (show j < k + 1 by omega)]; omega
      · rw [if_neg h2, if_neg (show ¬ j < k + 1 by omega)]; omega
theorem run_sum (st : List Int) (ms : Nat → Int → Int) (G : List Int) (left : Int) (n : Nat) (hn : n ≤ G.length) : ∀ k, k ≤ n → sG (run st ms G left k).1 n + (run st ms G left k).2 = sG G n + left := by
  intro k
  induction k with
  | zero => intro _; rfl
  | succ k ih =>
    intro hk
    have h := ih (by omega)
    have hl : (run st ms G left k).1.length = G.length := run_len st ms G left k
    simp only [run]
    generalize run st ms G left k = a at *
    rw [sG_set _ _ _ (by omega), if_pos (by omega)]
    omega
/-- On the step, or nothing. -/
def onS (s g : Int) : Prop := if s = 0 then g = 0 else g % s = 0
theorem giveV_on {s m l : Int} : onS s (giveV s m l) := by
  unfold onS giveV
  by_cases h : s = 0
  · rw [if_pos h, if_pos h]
  · rw [if_neg h, if_neg h]; exact Int.mul_emod_left _ _
theorem onS_add {s a b : Int} (ha : onS s a) (hb : onS s b) : onS s (a + b) := by
  unfold onS at *
  by_cases h : s = 0
  · rw [if_pos h] at *; omega
  · rw [if_neg h] at *; rw [Int.add_emod, ha, hb]; simp
theorem run_on (st : List Int) (ms : Nat → Int → Int) (G : List Int) (left : Int) (h : ∀ i, onS (st.getD i 0) (G.getD i 0)) (k : Nat) : ∀ i, onS (st.getD i 0) ((run st ms G left k).1.getD i 0) := by
  induction k with
  | zero => exact h
  | succ k ih =>
    intro i
    simp only [run]
    rw [getD_set0]
    split
    · rename_i e; obtain ⟨rfl, _⟩ := e
      exact onS_add (ih i) giveV_on
    · exact ih i
/-- In the second pass, behind who has a step there is less than a step left. -/
theorem run_least {q : Int} {st : List Int} {G : List Int} {left : Int} (h : okG q (G, left)) (hs : ∀ i, 0 ≤ st.getD i 0) : ∀ k i, i < k → 0 < st.getD i 0 → (run st (fun _ l => l) G left k).2 < st.getD i 0 := by
  intro k
  induction k with
  | zero => intro i hi; omega
  | succ k ih =>
    intro i hi hp
    have hok := run_ok (ms := fun _ l => l) h hs (fun k l h0 _ => h0) k
    have hb := giveV_b (hs k) hok.1 hok.1
    simp only [run]
    generalize run st (fun _ l => l) G left k = a at *
    by_cases he : i = k
    · subst he
      have hg : giveV (st.getD i 0) a.2 a.2 = a.2 / st.getD i 0 * st.getD i 0 := by unfold giveV; rw [if_neg (by omega)]; simp
      have hm := Int.emod_lt_of_pos a.2 hp
      have hd := Int.emod_add_mul_ediv a.2 (st.getD i 0)
      rw [Int.mul_comm] at hd
      rw [hg]
      generalize a.2 / st.getD i 0 * st.getD i 0 = u at *
      omega
    · have := ih i (by omega) hp
      omega
def sumQ : List Pie → Int
  | [] => 0
  | p :: r => p.f1 + sumQ r
theorem sumQ_snoc (l : List Pie) (p : Pie) : sumQ (l ++ [p]) = sumQ l + p.f1 := by
  induction l with
  | nil => simp [sumQ]
  | cons x l ih => simp only [List.cons_append, sumQ, ih]; omega
theorem sumQ_pcs (R : List Off) (G : List Int) (h : ∀ i, 0 ≤ G.getD i 0) (k : Nat) : sumQ (pcs R G k) = sG G k := by
  induction k with
  | zero => rfl
  | succ k ih =>
    have := h k
    simp only [pcs, sG]
    split
    · rw [sumQ_snoc, ih]
    · rw [ih]; omega
theorem pcs_mem (R : List Off) (G : List Int) (k : Nat) (p : Pie) (hp : p ∈ pcs R G k) : ∃ i, i < k ∧ p.f0 = (offD R i).f0 ∧ p.f1 = G.getD i 0 ∧ 0 < G.getD i 0 := by
  induction k with
  | zero => simp [pcs] at hp
  | succ k ih =>
    simp only [pcs] at hp
    split at hp
    · rename_i hg
      rcases List.mem_append.1 hp with h | h
      · obtain ⟨i, h1, h2⟩ := ih h; exact ⟨i, by omega, h2⟩
      · rw [List.mem_singleton.1 h]; exact ⟨k, by omega, rfl, rfl, hg⟩
    · obtain ⟨i, h1, h2⟩ := ih hp; exact ⟨i, by omega, h2⟩
theorem pcs_sub (R : List Off) (G : List Int) (k : Nat) (hk : k ≤ R.length) : ((pcs R G k).map fun p => p.f0).Sublist ((R.take k).map fun x => x.f0) := by
  induction k with
  | zero => simp [pcs]
  | succ k ih =>
    have hlt : k < R.length := by omega
    have ho : offD R k = R[k] := by unfold offD; simp [hlt]
    rw [List.take_succ_eq_append_getElem hlt, List.map_append]
    simp only [pcs]
    split
    · rw [List.map_append, ho]
      exact (ih (by omega)).append (List.Sublist.refl _)
    · exact (ih (by omega)).trans (List.sublist_append_left _ _)
theorem lcm_on {lot b : Int} (h1 : 1 ≤ lot) (h2 : 1 ≤ b) : (lot / gcdI lot b * b) % lot = 0 ∧ (lot / gcdI lot b * b) % b = 0 ∧ 0 < lot / gcdI lot b * b := by
  obtain ⟨A, rfl⟩ := Int.eq_ofNat_of_zero_le (show 0 ≤ lot by omega)
  obtain ⟨B, rfl⟩ := Int.eq_ofNat_of_zero_le (show 0 ≤ b by omega)
  have e : gcdI (A : Int) (B : Int) = (Nat.gcd A B : Int) := by unfold gcdI; simp
  have hl : (A : Int) / gcdI (A : Int) (B : Int) * (B : Int) = (Nat.lcm A B : Int) := by
    rw [e, Nat.lcm, Nat.mul_div_right_comm (Nat.gcd_dvd_left A B)]
    simp
  have hp : 0 < Nat.lcm A B := Nat.lcm_pos (by omega) (by omega)
  rw [hl]
  refine ⟨?_, ?_, by omega⟩
  · have := Nat.mod_eq_zero_of_dvd (Nat.dvd_lcm_left A B); omega
  · have := Nat.mod_eq_zero_of_dvd (Nat.dvd_lcm_right A B); omega
theorem stepV_on {lot b : Int} (h1 : 1 ≤ lot) (h2 : 1 ≤ b) (h : (stepV lot b).2 = 0) : (stepV lot b).1 % lot = 0 ∧ (stepV lot b).1 % b = 0 ∧ 0 < (stepV lot b).1 := by
  have hl := lcm_on h1 h2
  unfold stepV at h ⊢
  rw [if_neg (by omega)] at h ⊢
  unfold tell at h ⊢
  split
  · exact hl
  · rename_i hn; rw [if_neg hn] at h; exact absurd h (by decide)
theorem mod_tr {n s a : Int} (h1 : n % s = 0) (h2 : s % a = 0) : n % a = 0 := by
  have h3 : s ∣ n := Int.dvd_of_emod_eq_zero h1
  have h4 : a ∣ s := Int.dvd_of_emod_eq_zero h2
  exact Int.emod_eq_zero_of_dvd (Int.dvd_trans h4 h3)
/-- What holds of the pieces of a slice. -/
structure WholeP (q lot : Int) (l : List Off) (ps : List Pie) (left : Int) : Prop where
  sum : sumQ ps + left = q
  nn : 0 ≤ left
  each : ∀ p ∈ ps, ∃ x ∈ l, x.f0 = p.f0 ∧ 1 ≤ p.f1 ∧ p.f1 ≤ 1099511627776 ∧ p.f1 % lot = 0 ∧ p.f1 % x.f1 = 0 ∧ x.f4 = true
  once : (l.map fun x => x.f0).Nodup → (ps.map fun p => p.f0).Nodup
  least : ∀ x ∈ l, (stepV lot x.f1).2 = 0 → (stepV lot x.f1).1 ≤ 1099511627776 → x.f4 = true → left < (stepV lot x.f1).1
  few : ps.length ≤ 8
theorem whole_is (q lot : Int) (l : List Off) (h0 : askV q lot l = 0) : ∃ left, WholeP q lot l (splitV q lot l).1 left := by
  obtain ⟨⟨hq, hlot⟩, hok, h8⟩ := askV_no h0
  have hlen : (isortB ahd l).length = l.length := isortB_length ahd l
  have hperm := isortB_perm ahd l
  have e : (splitV q lot l).1 = splitS (isortB ahd l) ((isortB ahd l).map (stepO lot)) q := by unfold splitV; rw [if_pos h0]
  rw [e]
  have hmem : ∀ x ∈ isortB ahd l, x ∈ l := fun x hx => hperm.mem_iff.1 hx
  have hmem2 : ∀ x ∈ l, x ∈ isortB ahd l := fun x hx => hperm.mem_iff.2 hx
  have hnd : (l.map fun x => x.f0).Nodup → ((isortB ahd l).map fun x => x.f0).Nodup := fun h => ((hperm.map fun x => x.f0).nodup_iff).2 h
  generalize isortB ahd l = R at *
  unfold splitS
  generalize hst : R.map (stepO lot) = st at *
  have hs0 : ∀ i, 0 ≤ st.getD i 0 := by
    intro i
    rw [← hst]
    by_cases hi : i < R.length
    · have e : (R.map (stepO lot)).getD i 0 = stepO lot R[i] := by simp [hi]
      rw [e]; exact (stepO_b _ _).1
    · have e : (R.map (stepO lot)).getD i 0 = 0 := by simp [Nat.le_of_not_lt hi]
      rw [e]; omega
  have hsh : ∀ i, 0 ≤ (offD R i).f3 := by
    intro i
    unfold offD
    by_cases hi : i < R.length
    · rw [List.getD_eq_getElem?_getD, List.getElem?_eq_getElem hi]; exact (hok _ (hmem _ (List.getElem_mem hi))).2.2.1
    · rw [List.getD_eq_getElem?_getD, List.getElem?_eq_none (by omega)]; decide
  have z0 : ∀ i, (List.replicate R.length (0 : Int)).getD i 0 = 0 := fun i => by by_cases hi : i < R.length <;> simp [hi]
  have hG0 : okG q (List.replicate R.length 0, q) := ⟨hq.1, Int.le_refl _, fun i => by rw [z0]; show 0 ≤ 0 ∧ 0 + q ≤ q; omega⟩
  have hG1 : okG q (got1 R st q) := run_ok hG0 hs0 (ms := fun k _ => (offD R k).f3) (fun k l _ _ => hsh k) R.length
  have hG2 : okG q (got2 R st q) := run_ok hG1 hs0 (ms := fun _ l => l) (fun k l h _ => h) R.length
  have hl1 : (got1 R st q).1.length = R.length := by unfold got1; rw [run_len]; simp
  have hz : sG (List.replicate R.length (0 : Int)) R.length = 0 := by
    have : ∀ k, sG (List.replicate R.length (0 : Int)) k = 0 := by
      intro k
      induction k with
      | zero => rfl
      | succ k ih => simp only [sG, ih, z0]; rfl
    exact this _
  have hsum1 := run_sum st (fun k _ => (offD R k).f3) (List.replicate R.length 0) q R.length (by simp) R.length (Nat.le_refl _)
  have hsum2 := run_sum st (fun _ l => l) (got1 R st q).1 (got1 R st q).2 R.length (by omega) R.length (Nat.le_refl _)
  have hon1 := run_on st (fun k _ => (offD R k).f3) (List.replicate R.length 0) q (fun i => by rw [z0]; unfold onS; split <;> simp) R.length
  have hon2 : ∀ i, onS (st.getD i 0) ((got2 R st q).1.getD i 0) := run_on st (fun _ l => l) (got1 R st q).1 (got1 R st q).2 hon1 R.length
  have hleast := run_least hG1 hs0 R.length
  change sG (got1 R st q).1 R.length + (got1 R st q).2 = _ at hsum1
  change sG (got2 R st q).1 R.length + (got2 R st q).2 = _ at hsum2
  change ∀ i, i < R.length → 0 < st.getD i 0 → (got2 R st q).2 < st.getD i 0 at hleast
  refine ⟨(got2 R st q).2, ?_, hG2.1, ?_, ?_, ?_, ?_⟩
  · rw [sumQ_pcs _ _ (fun i => (hG2.2.2 i).1)]; omega
  · intro p hp
    obtain ⟨i, hi, e0, e1, hpos⟩ := pcs_mem _ _ _ _ hp
    have ho : offD R i = R[i] := by unfold offD; simp [hi]
    have hx := hok _ (hmem _ (List.getElem_mem hi))
    have hsti : st.getD i 0 = stepO lot R[i] := by rw [← hst]; simp [hi]
    have hon := hon2 i
    have hb := hG2.2.2 i
    rw [hsti] at hon
    unfold onS at hon
    split at hon
    · omega
    · rename_i hne
      have hstep : (stepV lot R[i].f1).2 = 0 ∧ (stepV lot R[i].f1).1 ≤ 1099511627776 ∧ R[i].f4 = true := by
        unfold stepO at hne
        split at hne
        · assumption
        · exact absurd rfl hne
      have hso : stepO lot R[i] = (stepV lot R[i].f1).1 := by unfold stepO; rw [if_pos hstep]
      rw [hso] at hon
      obtain ⟨k1, k2, k3⟩ := stepV_on hlot.1 hx.1.1 hstep.1
      have := hG2.1
      refine ⟨R[i], hmem _ (List.getElem_mem hi), by rw [e0, ho], by omega, by omega, by rw [e1]; exact mod_tr hon k1, by rw [e1]; exact mod_tr hon k2, hstep.2.2⟩
  · intro hn
    have h := (pcs_sub R (got2 R st q).1 R.length (Nat.le_refl _))
    rw [List.take_length] at h
    exact h.nodup (hnd hn)
  · intro x hx h1 h2 h3
    obtain ⟨i, hi, he⟩ := List.getElem_of_mem (hmem2 x hx)
    have hsti : st.getD i 0 = stepO lot R[i] := by rw [← hst]; simp [hi]
    have hso : stepO lot x = (stepV lot x.f1).1 := by unfold stepO; rw [if_pos ⟨h1, h2, h3⟩]
    have hp := (stepV_on hlot.1 (hok x hx).1.1 h1).2.2
    have := hleast i hi (by rw [hsti, he, hso]; exact hp)
    rwa [hsti, he, hso] at this
  · have := pcs_len R (got2 R st q).1 R.length
    omega
end Go.Proofs.Ytadjadakncidgaa.Hand
