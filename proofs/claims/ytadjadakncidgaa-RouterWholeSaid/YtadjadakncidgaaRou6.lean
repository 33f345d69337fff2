/- The document's router as plain functions. -/
import Derived.Test.YtadjadakncidgaaPureRouterSteps
import Derived.Test.YtadjadakncidgaaRouPl
import Derived.Test.YtadjadakncidgaaUx10
import Derived.Test.YtadjadakncidgaaUx8
import Derived.Test.YtadjadakncidgaaUx0
set_option linter.unusedVariables false
set_option linter.unusedSimpArgs false
namespace Go.Proofs.Ytadjadakncidgaa.Hand
open Go Go.RowKit Go.Proofs.YtadjadakncidgaaW.PrintWords Go.Proofs.YtadjadakncidgaaW.PrintMore Go.Proofs.Ytadjadakncidgaa.RL Go.Proofs.Ytadjadakncidgaa.PL Go.Proofs.Ytadjadakncidgaa.St Go.Proofs.Ytadjadakncidgaa.U
theorem rd_ofd (l : List Off) (m : Nat) (h : m < l.length) : rd_T36 (l.map cvO) (m : Int) = cvO l[m] := by unfold rd_T36; simp [h]
theorem rin_is (n a b : Int) : spigotref23_in.f n a b = some (decide (a ≤ n ∧ n ≤ b)) := by
  unfold spigotref23_in.f
  by_cases h : n ≥ a
  · rw [if_pos h]; congr 1; rw [decide_eq_decide]; omega
  · rw [if_neg h]; congr 1; rw [eq_comm, decide_eq_false_iff_not]; omega
theorem rasked_l0 (l : List Off) (hl : l.length ≤ 4611686018427387904) : ∀ (k m : Nat), m ≤ l.length → l.length - m < k →
    spigotref23_Asked.l0 k (l.map cvO) (m : Int) = some (if ∀ x ∈ l.drop m, okO x then (if 8 < l.length then 3 else 0) else 2) := by
  have hv : (if ((l.map cvO).length : Int) > 8 then some (3 : Int) else some 0) = some (if 8 < l.length then 3 else 0) := by
    rw [List.length_map]
    by_cases h8 : 8 < l.length
    · rw [if_pos (by omega), if_pos h8]
    · rw [if_neg (by omega), if_neg h8]
  generalize (if 8 < l.length then (3 : Int) else 0) = v at *
  intro k
  induction k with
  | zero => intro m _ h; omega
  | succ k ih =>
    intro m hm hk
    unfold spigotref23_Asked.l0
    by_cases h : m < l.length
    · rw [if_pos (by rw [List.length_map]; omega), if_pos (by omega), rd_ofd l m h, List.drop_eq_getElem_cons h]
      simp only [rin_is, Option.bind_some, decide_eq_true_eq, cvO]
      have hs : wrap64 ((m : Int) + 1) = ((m + 1 : Nat) : Int) := wsucc m (by omega)
      have hr := ih (m + 1) (by omega) (by omega)
      rw [hs, hr]
      by_cases h1 : 1 ≤ l[m].f1 ∧ l[m].f1 ≤ 1099511627776
      · rw [if_pos h1]
        by_cases h2 : 0 ≤ l[m].f2 ∧ l[m].f2 ≤ 10000
        · rw [if_pos h2]
          by_cases h3 : 0 ≤ l[m].f3 ∧ l[m].f3 ≤ 1099511627776
          · rw [if_pos h3]
            have h4 : okO l[m] := ⟨h1, h2, h3⟩
            congr 1
            by_cases h5 : ∀ x ∈ l.drop (m + 1), okO x
            · rw [if_pos h5, if_pos (by intro x hx; rcases List.mem_cons.1 hx with rfl | hx; exact h4; exact h5 x hx)]
            · rw [if_neg h5, if_neg (fun q => h5 fun x hx => q x (List.mem_cons_of_mem _ hx))]
          · rw [if_neg h3, if_neg (fun q => h3 (q _ List.mem_cons_self).2.2)]
        · rw [if_neg h2, if_neg (fun q => h2 (q _ List.mem_cons_self).2.1)]
      · rw [if_neg h1, if_neg (fun q => h1 (q _ List.mem_cons_self).1)]
    · rw [if_neg (by rw [List.length_map]; omega), hv, List.drop_of_length_le (by omega), if_pos (by simp)]
theorem rasked_is (q lot : Int) (l : List Off) (hl : l.length ≤ 4611686018427387904) (k : Nat) (hk : l.length + 2 ≤ k) : spigotref23_Asked.f k q lot (l.map cvO) = some (askV q lot l) := by
  obtain ⟨k, rfl⟩ : ∃ j, k = j + 1 := ⟨k - 1, by omega⟩
  unfold spigotref23_Asked.f askV
  simp only [rin_is, Option.bind_some, decide_eq_true_eq]
  have h0 := rasked_l0 l hl k 0 (Nat.zero_le _) (by omega)
  rw [List.drop_zero] at h0
  by_cases h1 : 0 ≤ q ∧ q ≤ 1099511627776
  · rw [if_pos h1]
    by_cases h2 : 1 ≤ lot ∧ lot ≤ 1099511627776
    · rw [if_pos ⟨h1, h2⟩, decide_eq_true h2]
      simp only [spigotref23_Asked.j0, Bool.not_true, Bool.false_eq_true, if_false]
      exact h0
    · rw [if_neg (fun h => h2 h.2), decide_eq_false h2]
      simp only [spigotref23_Asked.j0, Bool.not_false, if_true]
  · rw [if_neg h1, if_neg (fun h => h1 h.1)]
    simp only [spigotref23_Asked.j0, if_true]
theorem rahead_is (x y : Off) : spigotref23_ahead.f (cvO x).f0 (cvO x).f1 (cvO x).f2 (cvO x).f3 (cvO x).f4 (cvO y).f0 (cvO y).f1 (cvO y).f2 (cvO y).f3 (cvO y).f4 = some (ahd x y) := by
  show spigotref23_ahead.f x.f0 x.f1 x.f2 x.f3 x.f4 y.f0 y.f1 y.f2 y.f3 y.f4 = _
  unfold spigotref23_ahead.f ahd ltOf cfO lessI
  by_cases h1 : x.f2 = y.f2
  · rw [if_pos h1]
    have e1 : (if x.f2 < y.f2 then (-1 : Int) else if y.f2 < x.f2 then 1 else 0) = 0 := by rw [if_neg (by omega), if_neg (by omega)]
    rw [if_pos e1]
    by_cases h2 : x.f3 = y.f3
    · have e2 : (if y.f3 < x.f3 then (-1 : Int) else if x.f3 < y.f3 then 1 else 0) = 0 := by rw [if_neg (by omega), if_neg (by omega)]
      rw [if_pos h2, if_pos e2]
      congr 1
      rw [decide_eq_decide]
      split <;> (try split) <;> omega
    · have e2 : ¬ (if y.f3 < x.f3 then (-1 : Int) else if x.f3 < y.f3 then 1 else 0) = 0 := by split <;> (try split) <;> omega
      rw [if_neg h2, if_neg e2]
      congr 1
      rw [decide_eq_decide]
      split <;> (try split) <;> omega
  · have e1 : ¬ (if x.f2 < y.f2 then (-1 : Int) else if y.f2 < x.f2 then 1 else 0) = 0 := by split <;> (try split) <;> omega
    rw [if_neg h1, if_neg e1]
    congr 1
    rw [decide_eq_decide]
    split <;> (try split) <;> omega
/-- The document's way to put one in: from the end, ahead of all that it stands ahead of. -/
theorem rrank_l1 (l : List Off) (hl : l.length ≤ 1000) (i : Nat) (hi : i < l.length) (S : List Off) (r : List Ofd) (K : Nat) : ∀ (P : List Off), (∀ s ∈ S, ahd l[i] s = true) → P.length + S.length ≤ 1000 →
    (∀ k, K ≤ k → spigotref23_Rank.l0 k (l.map cvO) ((insB ahd l[i] (P ++ S)).map cvO) ((i + 1 : Nat) : Int) = some r) →
    ∀ k, K + P.length + 1 ≤ k → spigotref23_Rank.l1 k (l.map cvO) ((P ++ S).map cvO) (i : Int) (P.length : Int) = some r := by
  intro P
  revert S
  refine snoc_ind (p := fun P => ∀ (S : List Off), (∀ s ∈ S, ahd l[i] s = true) → P.length + S.length ≤ 1000 → (∀ k, K ≤ k → spigotref23_Rank.l0 k (l.map cvO) ((insB ahd l[i] (P ++ S)).map cvO) ((i + 1 : Nat) : Int) = some r) → ∀ k, K + P.length + 1 ≤ k → spigotref23_Rank.l1 k (l.map cvO) ((P ++ S).map cvO) (i : Int) (P.length : Int) = some r) ?_ ?_ P
  · intro S hS hlen hc k hk
    obtain ⟨k, rfl⟩ : ∃ j, k = j + 1 := ⟨k - 1, by simp at hk; omega⟩
    have hc := hc k (by simp at hk; omega)
    rw [insB_left ahd l[i] [] S hS, insB_nil] at hc
    simp only [spigotref23_Rank.l1, List.length_nil, List.nil_append, Option.bind_some]
    have hw : wrap64 ((i : Int) + 1) = ((i + 1 : Nat) : Int) := wsucc i (by omega)
    simp only [List.length_nil, List.nil_append] at hlen
    rw [if_neg (by omega), if_pos (by omega), if_pos (by rw [List.length_map]; omega), if_pos (by simp), if_pos (by omega), if_pos (by rw [List.length_map]; omega), if_pos (by simp), rd_ofd l i hi]
    have e : ([] : List Ofd) ++ [(⟨(cvO l[i]).f0, (cvO l[i]).f1, (cvO l[i]).f2, (cvO l[i]).f3, (cvO l[i]).f4⟩ : Ofd)] ++ (S.map cvO).drop 0 = ([l[i]] ++ S).map cvO := by simp [cvO]
    rw [if_pos (by simp; omega), hw]
    simpa [cvO] using hc
  · intro P y ih S hS hlen hc k hk
    obtain ⟨k, rfl⟩ : ∃ j, k = j + 1 := ⟨k - 1, by simp at hk; omega⟩
    simp only [List.length_append, List.length_cons, List.length_nil, Nat.zero_add] at hlen hk ⊢
    have hp : wrap64 (((P.length + 1 : Nat) : Int) - 1) = (P.length : Int) := by rw [w64 (by omega) (by omega)]; omega
    have hlt : P.length < (P ++ [y] ++ S).length := by simp
    have hy : (P ++ [y] ++ S)[P.length] = y := by simp
    have hw : wrap64 ((i : Int) + 1) = ((i + 1 : Nat) : Int) := wsucc i (by omega)
    simp only [spigotref23_Rank.l1, List.nil_append, Option.bind_some]
    rw [if_pos (by omega), if_pos (by omega), if_pos (by rw [List.length_map]; omega), hp, if_pos (by omega), if_pos (by rw [List.length_map]; simp; omega), rd_ofd l i hi, rd_ofd _ P.length hlt, hy, rahead_is, Option.bind_some]
    cases ha : ahd l[i] y with
    | true =>
      rw [if_pos rfl]
      have := ih (y :: S) (fun s hs => by rcases List.mem_cons.1 hs with rfl | hs; exact ha; exact hS s hs) (by simp; omega) (fun k hk => by have := hc k hk; rwa [show P ++ [y] ++ S = P ++ y :: S by simp] at this) k (by omega)
      rwa [show P ++ y :: S = P ++ [y] ++ S by simp] at this
    | false =>
      rw [if_neg (by simp), if_pos (by omega), if_pos (by rw [List.length_map]; simp; omega), if_pos (by simp; omega), if_pos (by simp; omega), if_pos (by simp; omega), hw]
      have hc := hc k (by omega)
      rw [insB_left ahd l[i] (P ++ [y]) S hS, insB_snoc, if_neg (by rw [ha]; simp)] at hc
      have e1 : (((P.length + 1 : Nat) : Int)).toNat = P.length + 1 := by omega
      have e2 : ((P ++ [y] ++ S).map cvO).take (P.length + 1) = (P ++ [y]).map cvO := by rw [← List.map_take, List.take_left' (by simp)]
      have e3 : ((P ++ [y] ++ S).map cvO).drop (P.length + 1) = S.map cvO := by rw [← List.map_drop, List.drop_left' (by simp)]
      rw [e1, e2, e3]
      simpa [cvO] using hc
theorem rrank_l0 (l : List Off) (hl : l.length ≤ 900) (B : Nat) (hB : l.length + 2 ≤ B) : ∀ (d i : Nat), i + d = l.length → ∀ k, d * B + 1 ≤ k → spigotref23_Rank.l0 k (l.map cvO) ((isortB ahd (l.take i)).map cvO) (i : Int) = some ((isortB ahd l).map cvO) := by
  intro d
  induction d with
  | zero =>
    intro i hi k hk
    obtain ⟨k, rfl⟩ : ∃ j, k = j + 1 := ⟨k - 1, by omega⟩
    simp only [spigotref23_Rank.l0]
    rw [if_neg (by rw [List.length_map]; omega), List.take_of_length_le (by omega)]
  | succ d ih =>
    intro i hi k hk
    obtain ⟨k, rfl⟩ : ∃ j, k = j + 1 := ⟨k - 1, by omega⟩
    have hlt : i < l.length := by omega
    simp only [spigotref23_Rank.l0]
    rw [if_pos (by rw [List.length_map]; omega)]
    have hlen : (isortB ahd (l.take i)).length = i := by rw [isortB_length, List.length_take]; omega
    have hk2 : d * B + 1 + i + 1 ≤ k := by rw [Nat.add_mul] at hk; omega
    have hstep : isortB ahd (l.take (i + 1)) = insB ahd l[i] (isortB ahd (l.take i)) := by rw [List.take_succ_eq_append_getElem hlt, isortB_snoc]
    have := rrank_l1 l (by omega) i hlt [] ((isortB ahd l).map cvO) (d * B + 1) (isortB ahd (l.take i)) (by simp) (by rw [hlen]; simp; omega)
      (fun k hk => by rw [List.append_nil, ← hstep]; exact ih (i + 1) (by omega) k hk) k (by rw [hlen]; exact hk2)
    rw [List.append_nil] at this
    rw [List.length_map]
    exact this
theorem rrank_is (l : List Off) (hl : l.length ≤ 900) (k : Nat) (hk : l.length * (l.length + 2) + 1 ≤ k) : spigotref23_Rank.f k (l.map cvO) = some ((isortB ahd l).map cvO) := by
  unfold spigotref23_Rank.f
  have := rrank_l0 l hl (l.length + 2) (Nat.le_refl _) l.length 0 (by omega) k hk
  simpa [isortB, mergeS_nil] using this
theorem stepOf_is (lot : Int) (x : Off) (hl : in64 lot) (hx : in64 x.f1) (k : Nat) (hk : 9223372036854775810 ≤ k) : spigotref23_StepOf.f k (cvO x).f0 (cvO x).f1 (cvO x).f2 (cvO x).f3 (cvO x).f4 lot = some (stepO lot x) := by
  show spigotref23_StepOf.f k x.f0 x.f1 x.f2 x.f3 x.f4 lot = _
  unfold spigotref23_StepOf.f stepO
  rw [refstep_is lot x.f1 hl hx k hk, Option.bind_some]
  by_cases h1 : (stepV lot x.f1).2 = 0
  · rw [if_pos h1]
    by_cases h2 : (stepV lot x.f1).1 > 1099511627776
    · rw [if_pos h2, if_neg (fun q => by omega)]
    · rw [if_neg h2]
      by_cases h3 : x.f4 = true
      · rw [if_pos h3, if_pos ⟨h1, by omega, h3⟩]
      · rw [if_neg h3, if_neg (fun q => h3 q.2.2)]
  · rw [if_neg h1, if_neg (fun q => h1 q.1)]
/-- A row of offers, each right, and their steps. -/
structure Okr (lot : Int) (R : List Off) (st : List Int) (q : Int) : Prop where
  hlot : in64 lot
  hst : st = R.map (stepO lot)
  hok : ∀ x ∈ R, okO x
  hlen : R.length ≤ 1000
  hq : 0 ≤ q ∧ q ≤ 1099511627776
def msO (R : List Off) (r : Int) (k : Nat) (l : Int) : Int := if r = 0 then (offD R k).f3 else l
theorem rsplit_l1 {lot q : Int} {R : List Off} {st : List Int} (O : Okr lot R st q) (r : Int) (hr : r = 0 ∨ r = 1) (G0 : List Int) (hG : G0.length = R.length) (left0 : Int) (hok : okG q (G0, left0)) (res : List S46) (K : Nat) (hK : 9223372036854775810 ≤ K)
    (hc : ∀ k, K ≤ k → spigotref23_Split.l0 k lot (R.map cvO) (run st (msO R r) G0 left0 R.length).1 (run st (msO R r) G0 left0 R.length).2 (r + 1) = some res) :
    ∀ (d i : Nat), i + d = R.length → ∀ k, K + 2 * d + 1 ≤ k → spigotref23_Split.l1 k lot (R.map cvO) (run st (msO R r) G0 left0 i).1 (run st (msO R r) G0 left0 i).2 r (i : Int) = some res := by
  have hrw : wrap64 (r + 1) = r + 1 := by rcases hr with rfl | rfl <;> exact w64 (by decide) (by decide)
  have Hrw := Lib.hid hrw
  clear hrw
  have hs0 : ∀ i, 0 ≤ st.getD i 0 := by
    intro i
    rw [O.hst]
    by_cases hi : i < R.length
    · have e : (R.map (stepO lot)).getD i 0 = stepO lot R[i] := by simp [hi]
      rw [e]; exact (stepO_b _ _).1
    · have e : (R.map (stepO lot)).getD i 0 = 0 := by simp [Nat.le_of_not_lt hi]
      rw [e]; omega
  have hsh : ∀ i, 0 ≤ (offD R i).f3 ∧ (offD R i).f3 ≤ 1099511627776 := by
    intro i
    unfold offD
    by_cases hi : i < R.length
    · rw [List.getD_eq_getElem?_getD, List.getElem?_eq_getElem hi]; exact (O.hok _ (List.getElem_mem hi)).2.2
    · rw [List.getD_eq_getElem?_getD, List.getElem?_eq_none (by omega)]; decide
  have hms : ∀ k l, 0 ≤ l → l ≤ q → 0 ≤ msO R r k l := by
    intro k l h0 h1
    unfold msO
    split
    · exact (hsh k).1
    · exact h0
  intro d
  induction d with
  | zero =>
    intro i hi k hk
    obtain rfl : i = R.length := by omega
    obtain ⟨k, rfl⟩ : ∃ j, k = j + 1 := ⟨k - 1, by omega⟩
    simp only [spigotref23_Split.l1]
    rw [if_neg (by rw [List.length_map]; omega), Hrw.out]
    exact hc k (by omega)
  | succ d ih =>
    intro i hi k hk
    obtain ⟨k, rfl⟩ : ∃ j, k = j + 1 + 1 := ⟨k - 2, by omega⟩
    have hlt : i < R.length := by omega
    have hxo := O.hok _ (List.getElem_mem hlt)
    have gok := run_ok hok hs0 hms i
    have hn := ih (i + 1) (by omega) k (by omega)
    have hgl : (run st (msO R r) G0 left0 i).1.length = R.length := by rw [run_len]; exact hG
    simp only [run] at hn
    generalize run st (msO R r) G0 left0 i = a at *
    obtain ⟨G, left⟩ := a
    simp only at hn hgl gok ⊢
    obtain ⟨g1, g2, g3⟩ := gok
    simp only at g1 g2 g3
    have g3 := g3 i
    have hsti : st.getD i 0 = stepO lot R[i] := by rw [O.hst]; simp [hlt]
    have hofd : offD R i = R[i] := by unfold offD; simp [hlt]
    have hw : wrap64 ((i : Int) + 1) = ((i + 1 : Nat) : Int) := wsucc i (by have := O.hlen; omega)
    have hsb := stepO_b lot R[i]
    have hq2 := O.hq
    have hrd : rd G (i : Int) = G.getD i 0 := by unfold rd; simp
    clear ih hc
    have hvv : ∀ m : Int, 0 ≤ m → m ≤ 1099511627776 → 0 < stepO lot R[i] → wrap64 (wrap64 (Int.tdiv m (stepO lot R[i])) * stepO lot R[i]) = m / stepO lot R[i] * stepO lot R[i] ∧ 0 ≤ m / stepO lot R[i] * stepO lot R[i] ∧ m / stepO lot R[i] * stepO lot R[i] ≤ m := by
      intro m h0 h1 h2
      have hb := div_b (n := m) (s := stepO lot R[i]) (by omega) h0
      have e1 : wrap64 (m / stepO lot R[i]) = m / stepO lot R[i] := w64 (by omega) (by omega)
      have e2 : wrap64 (m / stepO lot R[i] * stepO lot R[i]) = m / stepO lot R[i] * stepO lot R[i] := w64 (by clear e1; omega) (by clear e1; omega)
      rw [Int.tdiv_eq_ediv_of_nonneg h0, e1, e2]
      exact ⟨rfl, hb.2.2.2, hb.2.2.1⟩
    have Hw := Lib.hid hw
    clear hw
    rw [hsti] at hn
    -- what one gets, in the reference's words
    have key : ∀ m : Int, m = min (msO R r i left) left → 0 ≤ m → m ≤ left →
        (if stepO lot R[i] > 0 then (if stepO lot R[i] = 0 then (none : Option (List S46)) else (if (i : Int) < (G.length : Int) then spigotref23_Split.l1 k lot (R.map cvO) (G.set (i : Int).toNat (wrap64 (rd G (i : Int) + wrap64 (wrap64 (Int.tdiv m (stepO lot R[i])) * stepO lot R[i])))) (wrap64 (left - wrap64 (wrap64 (Int.tdiv m (stepO lot R[i])) * stepO lot R[i]))) r (wrap64 ((i : Int) + 1)) else none)) else spigotref23_Split.l1 k lot (R.map cvO) G left r (wrap64 ((i : Int) + 1))) = some res := by
      intro m hm h0 h1
      by_cases hp : 0 < stepO lot R[i]
      · obtain ⟨hv1, hv2, hv3⟩ := hvv m h0 (by omega) hp
        have hgv : giveV (stepO lot R[i]) (msO R r i left) left = m / stepO lot R[i] * stepO lot R[i] := by unfold giveV; rw [if_neg (by omega), hm]
        rw [hgv] at hn
        clear hvv
        have Hv1 := Lib.hid hv1
        clear hv1
        have e3 : wrap64 (G.getD i 0 + m / stepO lot R[i] * stepO lot R[i]) = G.getD i 0 + m / stepO lot R[i] * stepO lot R[i] := w64 (by omega) (by omega)
        have E3 := Lib.hid e3
        clear e3
        have e4 : wrap64 (left - m / stepO lot R[i] * stepO lot R[i]) = left - m / stepO lot R[i] * stepO lot R[i] := w64 (by omega) (by omega)
        rw [if_pos hp, if_neg (by clear e4; omega), if_pos (by rw [hgl]; clear e4; omega), Hv1.out, Hw.out, hrd, Int.toNat_natCast, E3.out, e4]
        exact hn
      · have hz : stepO lot R[i] = 0 := by omega
        have hgv : giveV (stepO lot R[i]) (msO R r i left) left = 0 := by unfold giveV; rw [if_pos hz]
        rw [hgv, Int.add_zero, Int.sub_zero] at hn
        have hset : G.set i (G.getD i 0) = G := by
          have e : G.getD i 0 = G[i]'(by omega) := by simp [show i < G.length by omega]
          rw [e]; exact List.set_getElem_self _
        rw [hset] at hn
        rw [if_neg hp, Hw.out]
        exact hn
    simp only [spigotref23_Split.l1]
    rw [if_pos (by rw [List.length_map]; omega), if_pos (by omega), rd_ofd R i hlt, stepOf_is lot R[i] O.hlot (by have := hxo.1; unfold in64; omega) (k + 1) (by omega), Option.bind_some]
    by_cases hr0 : r = 0
    · rw [if_pos hr0]
      have hmsv : msO R r i left = R[i].f3 := by unfold msO; rw [if_pos hr0, hofd]
      have hs3 := hxo.2.2
      have e3 : (cvO R[i]).f3 = R[i].f3 := rfl
      rw [e3]
      by_cases hl3 : R[i].f3 < left
      · rw [decide_eq_true hl3]
        simp only [spigotref23_Split.j2, if_true]
        rw [if_pos (by omega), if_pos (by rw [List.length_map]; omega), rd_ofd R i hlt, e3]
        exact key R[i].f3 (by rw [hmsv]; omega) (by omega) (by omega)
      · rw [decide_eq_false hl3]
        simp only [spigotref23_Split.j2, Bool.false_eq_true, if_false]
        have := key left (by rw [hmsv]; omega) (by omega) (by omega)
        simp only [show ((0 : Int) ≤ (i : Int)) = True from eq_true (by omega), if_true]
        exact this
    · rw [if_neg hr0]
      have hmsv : msO R r i left = left := by unfold msO; rw [if_neg hr0]
      simp only [spigotref23_Split.j2, Bool.false_eq_true, if_false]
      have := key left (by rw [hmsv]; omega) (by omega) (by omega)
      simp only [show ((0 : Int) ≤ (i : Int)) = True from eq_true (by omega), if_true]
      exact this
abbrev Pid := S46
def cvP (x : Pie) : Pid := ⟨x.f0, x.f1⟩
theorem rsplit_l2 (R : List Off) (G : List Int) (hG : G.length = R.length) (hR : R.length ≤ 1000) : ∀ (d i : Nat), i + d = R.length → ∀ k, d < k → spigotref23_Split.l2 k (R.map cvO) G ((pcs R G i).map cvP) (i : Int) = some ((pcs R G R.length).map cvP) := by
  intro d
  induction d with
  | zero =>
    intro i hi k hk
    obtain rfl : i = R.length := by omega
    obtain ⟨k, rfl⟩ : ∃ j, k = j + 1 := ⟨k - 1, by omega⟩
    simp only [spigotref23_Split.l2]
    rw [if_neg (by rw [List.length_map]; omega)]
  | succ d ih =>
    intro i hi k hk
    obtain ⟨k, rfl⟩ : ∃ j, k = j + 1 := ⟨k - 1, by omega⟩
    have hlt : i < R.length := by omega
    have hofd : offD R i = R[i] := by unfold offD; simp [hlt]
    have hrd : rd G (i : Int) = G.getD i 0 := by unfold rd; simp
    have hw : wrap64 ((i : Int) + 1) = ((i + 1 : Nat) : Int) := wsucc i (by omega)
    have hpl := pcs_len R G i
    have hn := ih (i + 1) (by omega) k (by omega)
    simp only [spigotref23_Split.l2]
    rw [if_pos (by rw [List.length_map]; omega), if_pos (by omega), if_pos (by rw [hG]; omega), hrd, hw, rd_ofd R i hlt]
    simp only [pcs] at hn
    by_cases hp : 0 < G.getD i 0
    · rw [if_pos hp] at hn
      rw [if_pos hp, if_pos (by rw [List.length_map]; omega)]
      rw [List.map_append, hofd] at hn
      exact hn
    · rw [if_neg hp] at hn
      rw [if_neg hp]
      exact hn
theorem run_ms0 (st : List Int) (R : List Off) (G : List Int) (left : Int) (n : Nat) : run st (msO R 0) G left n = run st (fun k _ => (offD R k).f3) G left n := by
  have e : msO R 0 = fun k _ => (offD R k).f3 := by funext k l; unfold msO; rw [if_pos rfl]
  rw [e]
theorem run_ms1 (st : List Int) (R : List Off) (G : List Int) (left : Int) (n : Nat) : run st (msO R 1) G left n = run st (fun _ l => l) G left n := by
  have e : msO R 1 = fun _ l => l := by funext k l; unfold msO; rw [if_neg (by decide)]
  rw [e]
theorem rsplit_is (q lot : Int) (l : List Off) (h0 : askV q lot l = 0) (K : Nat) (hK : 9223372036854785810 ≤ K) : spigotref23_Split.f K q lot (l.map cvO) = some ((splitS (isortB ahd l) ((isortB ahd l).map (stepO lot)) q).map cvP) := by
  obtain ⟨⟨hq, hlot⟩, hok, h8⟩ := askV_no h0
  have hlen2 : (isortB ahd l).length = l.length := isortB_length ahd l
  have O : Okr lot (isortB ahd l) ((isortB ahd l).map (stepO lot)) q := ⟨by unfold in64; omega, rfl, fun x hx => hok x ((isortB_perm ahd l).mem_iff.1 hx), by omega, hq⟩
  unfold spigotref23_Split.f
  have hb : l.length * (l.length + 2) ≤ 8 * 10 := Nat.mul_le_mul h8 (by omega)
  rw [rrank_is l (by omega) K (by omega), Option.bind_some]
  generalize isortB ahd l = R at *
  generalize hst : R.map (stepO lot) = st at *
  rw [if_pos (by omega), if_pos (by rw [List.length_map]; omega), List.length_map, Int.toNat_natCast]
  have hG0 : okG q (List.replicate R.length 0, q) := ⟨hq.1, Int.le_refl _, fun i => by
    have e : (List.replicate R.length (0 : Int)).getD i 0 = 0 := by by_cases hi : i < R.length <;> simp [hi]
    rw [e]; show 0 ≤ 0 ∧ 0 + q ≤ q; omega⟩
  have hs0 : ∀ i, 0 ≤ st.getD i 0 := by
    intro i
    rw [O.hst]
    by_cases hi : i < R.length
    · have e : (R.map (stepO lot)).getD i 0 = stepO lot R[i] := by simp [hi]
      rw [e]; exact (stepO_b _ _).1
    · have e : (R.map (stepO lot)).getD i 0 = 0 := by simp [Nat.le_of_not_lt hi]
      rw [e]; omega
  have hsh : ∀ i, 0 ≤ (offD R i).f3 := by
    intro i
    unfold offD
    by_cases hi : i < R.length
    · rw [List.getD_eq_getElem?_getD, List.getElem?_eq_getElem hi]; exact (O.hok _ (List.getElem_mem hi)).2.2.1
    · rw [List.getD_eq_getElem?_getD, List.getElem?_eq_none (by omega)]; decide
  have hG1 := run_ok hG0 hs0 (ms := fun k _ => (offD R k).f3) (fun k l _ _ => hsh k) R.length
  have hl1 : (run st (fun k _ => (offD R k).f3) (List.replicate R.length 0) q R.length).1.length = R.length := by rw [run_len]; simp
  have hl2 : (run st (fun _ l => l) (run st (fun k _ => (offD R k).f3) (List.replicate R.length 0) q R.length).1 (run st (fun k _ => (offD R k).f3) (List.replicate R.length 0) q R.length).2 R.length).1.length = R.length := by rw [run_len]; exact hl1
  have hfin : splitS R st q = pcs R (run st (fun _ l => l) (run st (fun k _ => (offD R k).f3) (List.replicate R.length 0) q R.length).1 (run st (fun k _ => (offD R k).f3) (List.replicate R.length 0) q R.length).2 R.length).1 R.length := rfl
  rw [hfin]
  have c2 : ∀ k, 9223372036854775810 + 1000 ≤ k → spigotref23_Split.l0 k lot (R.map cvO) (run st (msO R 1) (run st (fun k _ => (offD R k).f3) (List.replicate R.length 0) q R.length).1 (run st (fun k _ => (offD R k).f3) (List.replicate R.length 0) q R.length).2 R.length).1 (run st (msO R 1) (run st (fun k _ => (offD R k).f3) (List.replicate R.length 0) q R.length).1 (run st (fun k _ => (offD R k).f3) (List.replicate R.length 0) q R.length).2 R.length).2 (1 + 1) = some ((pcs R (run st (fun _ l => l) (run st (fun k _ => (offD R k).f3) (List.replicate R.length 0) q R.length).1 (run st (fun k _ => (offD R k).f3) (List.replicate R.length 0) q R.length).2 R.length).1 R.length).map cvP) := by
    intro k hk
    obtain ⟨k, rfl⟩ : ∃ j, k = j + 1 := ⟨k - 1, by omega⟩
    rw [run_ms1]
    simp only [spigotref23_Split.l0]
    rw [if_neg (by decide)]
    exact rsplit_l2 R _ hl2 (by omega) R.length 0 (by omega) k (by omega)
  have c1 : ∀ k, 9223372036854775810 + 1000 + 100 ≤ k → spigotref23_Split.l0 k lot (R.map cvO) (run st (msO R 0) (List.replicate R.length 0) q R.length).1 (run st (msO R 0) (List.replicate R.length 0) q R.length).2 (0 + 1) = some ((pcs R (run st (fun _ l => l) (run st (fun k _ => (offD R k).f3) (List.replicate R.length 0) q R.length).1 (run st (fun k _ => (offD R k).f3) (List.replicate R.length 0) q R.length).2 R.length).1 R.length).map cvP) := by
    intro k hk
    obtain ⟨k, rfl⟩ : ∃ j, k = j + 1 := ⟨k - 1, by omega⟩
    rw [run_ms0]
    simp only [spigotref23_Split.l0]
    rw [if_pos (by decide)]
    exact rsplit_l1 O 1 (.inr rfl) _ hl1 _ hG1 _ (9223372036854775810 + 1000) (by omega) c2 R.length 0 (by omega) k (by omega)
  obtain ⟨K, rfl⟩ : ∃ j, K = j + 1 := ⟨K - 1, by omega⟩
  simp only [spigotref23_Split.l0]
  rw [if_pos (by decide)]
  exact rsplit_l1 O 0 (.inl rfl) _ (by simp) _ hG0 _ (9223372036854775810 + 1000 + 100) (by omega) c1 R.length 0 (by omega) K (by omega)
/-- Offers as a row of the statement's has them. -/
def mkO (x : Int × Int × Int × Int × Bool) : Off := ⟨x.1, x.2.1, x.2.2.1, x.2.2.2.1, x.2.2.2.2⟩
theorem offR_row (W : World) (A2 : Option Addr) (c2 : Nat) (l2 : List (Int × Int × Int × Int × Bool)) (w2 : (A2 = none ∧ c2 = 0 ∧ l2 = []) ∨ ∃ x, A2 = some x ∧ l2.length ≤ c2 ∧ c2 ≤ maxLen ∧ ∀ i (h : i < l2.length), W.cell? (x.add (i * 5 + 0)) = some (.int .i64 l2[i].1) ∧ W.cell? (x.add (i * 5 + 1)) = some (.int .i64 l2[i].2.1) ∧ W.cell? (x.add (i * 5 + 2)) = some (.int .i64 l2[i].2.2.1) ∧ W.cell? (x.add (i * 5 + 3)) = some (.int .i64 l2[i].2.2.2.1) ∧ W.cell? (x.add (i * 5 + 4)) = some (.bool l2[i].2.2.2.2) ∧ (Lit.int .i64 l2[i].1).wf = true ∧ (Lit.int .i64 l2[i].2.1).wf = true ∧ (Lit.int .i64 l2[i].2.2.1).wf = true ∧ (Lit.int .i64 l2[i].2.2.2.1).wf = true) : OffR W A2 (l2.map mkO) := by
  intro i hi
  have hi' : i < l2.length := by simpa using hi
  rcases w2 with ⟨_, _, rfl⟩ | ⟨x, rfl, _, _, hf⟩
  · simp at hi'
  · obtain ⟨f0, f1, f2, f3, f4, _⟩ := hf i hi'
    rw [List.getElem_map]
    exact ⟨x, rfl, f0, f1, f2, f3, f4⟩
end Go.Proofs.Ytadjadakncidgaa.Hand
