/- AllotWhole: the parts are together all of it, each less than one away from its fair part; who asked for more gets no less; no condition. -/
import Derived.Test.YtknmojjccfhchaaAlQ
import Derived.Test.YtknmojjccfhchaaAlB
import Derived.Test.YtknmojjccfhchaaUx9
set_option linter.unusedVariables false
set_option linter.unusedSimpArgs false
namespace Go.Proofs.Ytknmojjccfhchaa.Pure
open Go Go.RowKit Go.Proofs.Ytknmojjccfhchaa.U Go.Proofs.Ytknmojjccfhchaa.PL Go.Proofs.Ytknmojjccfhchaa.Hand Go.Proofs.Ytknmojjccfhchaa.RL Go.Proofs.YtknmojjccfhchaaW.PrintWords Go.Proofs.YtknmojjccfhchaaW.PrintMore
theorem cei_pos (a c : Int) (hc : 0 < c) : cei a c = a / c + (if a % c = 0 then 0 else 1) := by
  unfold cei flo
  rw [if_neg (by omega)]
  have h := Int.ediv_mul_add_emod a c
  have h0 := Int.emod_nonneg a (show c ≠ 0 by omega)
  have h1 := Int.emod_lt_of_pos a hc
  by_cases e : a % c = 0
  · rw [if_pos e]
    have := (Int.ediv_emod_unique (a := -a) (b := c) (r := 0) (q := -(a / c)) hc).2 ⟨by rw [Int.mul_neg, Int.mul_comm]; omega, by omega, by omega⟩
    rw [this.1]; omega
  · rw [if_neg e]
    have := (Int.ediv_emod_unique (a := -a) (b := c) (r := c - a % c) (q := -(a / c) - 1) hc).2 ⟨by rw [Int.mul_sub, Int.mul_neg, Int.mul_one, Int.mul_comm c]; omega, by omega, by omega⟩
    rw [this.1]; omega
theorem down_v {q a all : Int} (hq : 0 ≤ q ∧ q ≤ 1099511627776) (ha : 0 ≤ a ∧ a ≤ all) (hall : 1 ≤ all ∧ all ≤ 70368744177664) : checked_Down.f q a all = some (q * a / all, 0) ∧ checked_Up.f q a all = some (q * a / all + (if q * a % all = 0 then 0 else 1), 0) := by
  have h0 : 0 ≤ q * a := Int.mul_nonneg hq.1 ha.1
  have h1 : q * a ≤ q * all := Int.mul_le_mul_of_nonneg_left ha.2 hq.1
  have h2 : q * a / all ≤ q := by
    have := Int.ediv_le_ediv (show 0 < all by omega) h1
    rwa [Int.mul_ediv_cancel _ (by omega)] at this
  have h3 : 0 ≤ q * a / all := Int.ediv_nonneg h0 (by omega)
  rw [down_is q a all (by unfold in64; omega) (by unfold in64; omega) (by unfold in64; omega), up_is q a all (by unfold in64; omega) (by unfold in64; omega) (by unfold in64; omega)]
  unfold fr frac
  have hz : ¬ all = 0 := by omega
  simp only [hz, Bool.false_eq_true, if_false, if_true]
  rw [cei_pos _ _ (by omega)]
  unfold flo
  rw [if_neg (by omega), tell_in (by unfold in64; omega), tell_in (by unfold in64; split <;> omega)]
  exact ⟨rfl, rfl⟩
theorem asks_at (l : List Shr) (i : Nat) (hi : i < l.length) : (asksS l).getD i 0 = (rd_T42 l (i : Int)).f0 := by
  unfold asksS rd_T42
  rw [Int.toNat_natCast, List.getD_eq_getElem?_getD, List.getD_eq_getElem?_getD, List.getElem?_map, List.getElem?_eq_getElem hi]
  rfl
structure WholeF (q all : Int) (l : List Shr) (G : List Int) : Prop where
  n : G.length = l.length
  hm : l.length ≤ 64
  hq : 0 ≤ q ∧ q ≤ 1099511627776
  hall : 1 ≤ all ∧ all ≤ 70368744177664
  ask : ∀ i : Nat, i < l.length → 0 ≤ (rd_T42 l (i : Int)).f0 ∧ (rd_T42 l (i : Int)).f0 ≤ all
  sum : G.sum = q
  pos : ∀ x ∈ G, 0 ≤ x
  bnd : ∀ i : Nat, i < l.length → q * (rd_T42 l (i : Int)).f0 / all ≤ rd G (i : Int) ∧ rd G (i : Int) ≤ q * (rd_T42 l (i : Int)).f0 / all + (if q * (rd_T42 l (i : Int)).f0 % all = 0 then 0 else 1)
  mono : ∀ i k : Nat, i < l.length → k < l.length → (rd_T42 l (i : Int)).f0 < (rd_T42 l (k : Int)).f0 → rd G (i : Int) ≤ rd G (k : Int)
theorem sum_pos (L : List Int) (h : ∀ x ∈ L, 0 ≤ x) : 0 ≤ L.sum := by
  induction L with
  | nil => simp
  | cons a L ih => have := ih (fun y hy => h y (by simp [hy])); have := h a (by simp); simp only [List.sum_cons]; omega
theorem tk_sum (G : List Int) (hG : ∀ x ∈ G, 0 ≤ x) (i : Nat) (hi : i < G.length) : (G.take (i + 1)).sum = (G.take i).sum + rd G (i : Int) ∧ 0 ≤ (G.take i).sum ∧ 0 ≤ rd G (i : Int) ∧ (G.take (i + 1)).sum ≤ G.sum := by
  have e : rd G (i : Int) = G[i] := by unfold rd; rw [Int.toNat_natCast, List.getD_eq_getElem?_getD, List.getElem?_eq_getElem hi]; rfl
  have h2 := sum_pos (G.take i) (fun x hx => hG x (List.mem_of_mem_take hx))
  have h3 := sum_pos (G.drop (i + 1)) (fun x hx => hG x (List.mem_of_mem_drop hx))
  have h4 : G.sum = (G.take (i + 1)).sum + (G.drop (i + 1)).sum := by rw [← List.sum_append, List.take_append_drop]
  refine ⟨?_, h2, by rw [e]; exact hG _ (List.getElem_mem hi), by omega⟩
  rw [List.take_succ_eq_append_getElem hi, List.sum_append, e]; simp
theorem wrap_i {i : Nat} (h : i < 1000000) : wrap64 ((i : Int) + 1) = ((i + 1 : Nat) : Int) := by rw [w64 (by omega) (by omega)]; rfl
theorem whole_l2 {q all : Int} {l : List Shr} {G : List Int} (F : WholeF q all l G) (s : Int) (i : Nat) (hi : i < l.length) (K : Nat) (hK : ∀ k, K ≤ k → spigotlaw36_AllotWhole.l1 k q l G all s G (l.length : Int) (wrap64 ((i : Int) + 1)) = some true) (d : Nat) :
    ∀ j : Nat, j ≤ l.length → l.length - j = d → ∃ K2, ∀ k, K2 ≤ k → spigotlaw36_AllotWhole.l2 k q l G all s (i : Int) (rd G (i : Int)) G (l.length : Int) (i : Int) G (l.length : Int) (j : Int) = some true := by
  have hn := F.n; have hm := F.hm
  induction d with
  | zero =>
    intro j hj hd
    refine ⟨K + 1, fun k hk => ?_⟩
    obtain ⟨k, rfl⟩ : ∃ m, k = m + 1 := ⟨k - 1, by omega⟩
    simp only [spigotlaw36_AllotWhole.l2]
    rw [if_neg (by omega)]
    exact hK k (by omega)
  | succ d ih =>
    intro j hj hd
    obtain ⟨K2, h2⟩ := ih (j + 1) (by omega) (by omega)
    refine ⟨K2 + 1, fun k hk => ?_⟩
    obtain ⟨k, rfl⟩ : ∃ m, k = m + 1 := ⟨k - 1, by omega⟩
    have hnx := h2 k (by omega)
    rw [← wrap_i (by omega)] at hnx
    simp only [spigotlaw36_AllotWhole.l2]
    rw [if_pos (by omega), if_pos (by omega), if_pos (by omega), if_pos (by omega), if_pos (by omega), if_pos (by omega)]
    by_cases h : (rd_T42 l (j : Int)).f0 > (rd_T42 l (i : Int)).f0
    · have := F.mono i j hi (by omega) h
      rw [if_pos h, if_neg (by omega)]
      exact hnx
    · rw [if_neg h]; exact hnx
theorem whole_l1 {q all : Int} {l : List Shr} {G : List Int} (F : WholeF q all l G) (d : Nat) :
    ∀ i : Nat, i ≤ l.length → l.length - i = d → ∃ K, ∀ k, K ≤ k → spigotlaw36_AllotWhole.l1 k q l G all ((G.take i).sum) G (l.length : Int) (i : Int) = some true := by
  have hn := F.n; have hm := F.hm
  induction d with
  | zero =>
    intro i hi hd
    refine ⟨1, fun k hk => ?_⟩
    obtain ⟨k, rfl⟩ : ∃ m, k = m + 1 := ⟨k - 1, by omega⟩
    simp only [spigotlaw36_AllotWhole.l1]
    rw [if_neg (by omega), List.take_of_length_le (by omega), F.sum, if_pos rfl, hn]
    simp
  | succ d ih =>
    intro i hi hd
    have hil : i < l.length := by omega
    obtain ⟨K, hK⟩ := ih (i + 1) (by omega) (by omega)
    obtain ⟨s1, s2, s3, s4⟩ := tk_sum G F.pos i (by omega)
    have hsum := F.sum
    have hq := F.hq
    have hws : wrap64 ((G.take i).sum + rd G (i : Int)) = (G.take (i + 1)).sum := by rw [w64 (by omega) (by omega), s1]
    rw [← wrap_i (by omega)] at hK
    obtain ⟨K2, h2⟩ := whole_l2 F ((G.take (i + 1)).sum) i hil K hK l.length 0 (Nat.zero_le _) rfl
    refine ⟨K2 + 2, fun k hk => ?_⟩
    obtain ⟨k, rfl⟩ : ∃ m, k = m + 2 := ⟨k - 2, by omega⟩
    obtain ⟨v1, v2⟩ := down_v F.hq (F.ask i hil) F.hall
    obtain ⟨b1, b2⟩ := F.bnd i hil
    simp only [spigotlaw36_AllotWhole.l1]
    rw [if_pos (by omega), if_pos (by omega), if_pos (by omega), if_pos (by omega), v1, Option.bind_some, v2, Option.bind_some]
    dsimp only
    rw [if_pos rfl, if_pos rfl, if_neg (by omega), decide_eq_false (by omega)]
    simp only [spigotlaw36_AllotWhole.j2]
    rw [if_neg (by decide), hws, hn]
    exact h2 k (by omega)
theorem whole_l0 {q : Int} {l : List Shr} {G : List Int} (F : WholeF q (sumA l) l G) (hA : ∀ x ∈ l, okA x) (d : Nat) :
    ∀ i : Nat, i ≤ l.length → l.length - i = d → ∃ K, ∀ k, K ≤ k → spigotlaw36_AllotWhole.l0 k q l G (sumA (l.take i)) 0 l (l.length : Int) (i : Int) = some true := by
  have hn := F.n; have hm := F.hm
  induction d with
  | zero =>
    intro i hi hd
    obtain ⟨K, hK⟩ := whole_l1 F l.length 0 (Nat.zero_le _) rfl
    refine ⟨K + 1, fun k hk => ?_⟩
    obtain ⟨k, rfl⟩ : ∃ m, k = m + 1 := ⟨k - 1, by omega⟩
    simp only [spigotlaw36_AllotWhole.l0]
    rw [if_neg (by omega), List.take_of_length_le (by omega), hn]
    exact hK k (by omega)
  | succ d ih =>
    intro i hi hd
    have hil : i < l.length := by omega
    obtain ⟨K, hK⟩ := ih (i + 1) (by omega) (by omega)
    refine ⟨K + 1, fun k hk => ?_⟩
    obtain ⟨k, rfl⟩ : ∃ m, k = m + 1 := ⟨k - 1, by omega⟩
    have hs := sumA_take l i hil
    have hb := sumA_b (l.take (i + 1)) (fun x hx => hA x (List.mem_of_mem_take hx))
    have hlen : (l.take (i + 1)).length ≤ 64 := by rw [List.length_take]; omega
    simp only [spigotlaw36_AllotWhole.l0]
    rw [if_pos (by omega), if_pos (by omega), if_pos (by omega), ← hs, w64 (by omega) (by omega), wrap_i (by omega)]
    exact hK k (by omega)
theorem whole_pure (q : Int) (l : List Shr) (hl : l.length ≤ 9223372036854775807) : ∃ k, spigotlaw36_AllotWhole.f k q l = some true := by
  by_cases g : checkS l = true ∧ (0 ≤ q ∧ q ≤ 1099511627776)
  · have hok := g.1
    unfold checkS at hok
    simp only [Bool.and_eq_true, decide_eq_true_eq, Bool.not_eq_true', decide_eq_false_iff_not] at hok
    obtain ⟨hm, hall, hs0⟩ := hok
    have hA : ∀ x ∈ l, okA x := fun x hx => okShr_A (List.all_eq_true.1 hall x hx)
    have hsb := sumA_b l hA
    have hb : ∀ x ∈ asksS l, 0 ≤ x := fun x hx => by
      obtain ⟨y, hy, rfl⟩ := List.mem_map.1 hx
      exact (hA y hy).1
    have hs1 : 1 ≤ (asksS l).sum := by rw [asks_sum]; omega
    have hla : (asksS l).length = l.length := by simp [asksS]
    obtain ⟨t1, t2⟩ := split_sum g.2.1 hb hs1
    have erd : ∀ i : Nat, rd (splitS q (asksS l)) (i : Int) = (splitS q (asksS l)).getD i 0 := fun i => by unfold rd; rw [Int.toNat_natCast]
    have F : WholeF q (sumA l) l (splitS q (asksS l)) := by
      refine ⟨by rw [split_len, hla], hm.2, g.2, ⟨by omega, by omega⟩, fun i hi => ⟨by rw [← asks_at l i hi]; exact hb _ (by rw [List.getD_eq_getElem?_getD, List.getElem?_eq_getElem (by rw [hla]; exact hi)]; exact List.getElem_mem _), f0_le hA i hi⟩, t1, t2, fun i hi => ?_, fun i k hi hk h => ?_⟩
      · have := split_b g.2.1 hb hs1 i (by rw [hla]; exact hi)
        rw [asks_at l i hi, asks_sum] at this
        rw [erd]; exact this
      · rw [erd, erd]
        exact split_mono g.2.1 hb hs1 i k (by rw [hla]; exact hi) (by rw [hla]; exact hk) (by rw [asks_at l i hi, asks_at l k hk]; exact h)
    obtain ⟨K, hK⟩ := whole_l0 F hA l.length 0 (Nat.zero_le _) rfl
    refine ⟨K + 5, ?_⟩
    unfold spigotlaw36_AllotWhole.f allot_Pro.f
    rw [awake_is _ (by omega), Option.bind_some, if_pos rfl, if_neg (by omega), Option.bind_some, if_pos g]
    dsimp only
    rw [if_pos rfl]
    exact hK (K + 5) (by omega)
  · refine ⟨5, ?_⟩
    unfold spigotlaw36_AllotWhole.f allot_Pro.f
    rw [awake_is _ (by omega), Option.bind_some, if_pos rfl, if_neg g]
    by_cases h : (l.length : Int) > 70
    · rw [if_pos h]
    · rw [if_neg h, Option.bind_some]
      dsimp only
      rw [if_neg (by decide), if_pos (by simp)]
end Go.Proofs.Ytknmojjccfhchaa.Pure
namespace Go.Proofs.Ytknmojjccfhchaa.Walk
open Go Go.RowKit Go.Proofs.Ytknmojjccfhchaa.U Go.Proofs.Ytknmojjccfhchaa.Hand Go.Proofs.YtknmojjccfhchaaW.PrintWords Go.Proofs.YtknmojjccfhchaaW.PrintMore
theorem AllotWhole (a0 : Int) (A1 : Option Addr) (c1 : Nat) (l1 : List (Int × Int × Int)) (W : World) (w0 : (Lit.int .i64 a0).wf = true) (w1 : (A1 = none ∧ c1 = 0 ∧ l1 = []) ∨ ∃ x, A1 = some x ∧ l1.length ≤ c1 ∧ c1 ≤ maxLen ∧ ∀ i (h : i < l1.length), W.cell? (x.add (i * 3 + 0)) = some (.int .i64 l1[i].1) ∧ W.cell? (x.add (i * 3 + 1)) = some (.int .i64 l1[i].2.1) ∧ W.cell? (x.add (i * 3 + 2)) = some (.int .i64 l1[i].2.2) ∧ (Lit.int .i64 l1[i].1).wf = true ∧ (Lit.int .i64 l1[i].2.1).wf = true ∧ (Lit.int .i64 l1[i].2.2).wf = true) :
    Calls Try.prog 5 #[.int .i64 a0, .slice A1 l1.length c1] W fun e W' => e = .returned (.bool true) ∧ Below W.heap.size W W' := by
  obtain ⟨h1, h2, h3⟩ := shr_row W A1 c1 l1 w1
  obtain ⟨k, hk⟩ := Pure.whole_pure a0 (l1.map mkS) h3
  have := spigotlaw36_AllotWhole.calls k a0 A1 c1 (l1.map mkS) true W h1 h2 hk
  rwa [show (l1.map mkS).length = l1.length from List.length_map ..] at this
end Go.Proofs.Ytknmojjccfhchaa.Walk
