/- AllotFits: in lots each is on its lot, within its most, with what is left together the quantity; and nobody could get one lot more; no condition. -/
import Derived.Test.YtknmojjccfhchaaAlQ
import Derived.Test.YtknmojjccfhchaaAl7
import Derived.Test.YtknmojjccfhchaaUx7
set_option linter.unusedVariables false
set_option linter.unusedSimpArgs false
namespace Go.Proofs.Ytknmojjccfhchaa.Pure
open Go Go.RowKit Go.Proofs.Ytknmojjccfhchaa.U Go.Proofs.Ytknmojjccfhchaa.PL Go.Proofs.Ytknmojjccfhchaa.Hand Go.Proofs.Ytknmojjccfhchaa.RL Go.Proofs.YtknmojjccfhchaaW.PrintWords Go.Proofs.YtknmojjccfhchaaW.PrintMore
theorem take_sum (G : List Int) (h : ∀ i, i < G.length → 0 ≤ G.getD i 0) : ∀ i, i ≤ G.length → 0 ≤ (G.take i).sum ∧ (G.take i).sum ≤ G.sum := by
  induction G with
  | nil => intro i hi; simp
  | cons a G ih =>
    intro i hi
    have ha : 0 ≤ a := by simpa using h 0 (by simp)
    have ih2 := ih (fun k hk => by simpa using h (k + 1) (by simpa using hk))
    cases i with
    | zero =>
      have := ih2 G.length (Nat.le_refl _)
      rw [List.take_length] at this
      simp; omega
    | succ i =>
      have := ih2 i (by simpa using hi)
      simp only [List.take_succ_cons, List.sum_cons]
      omega
theorem fits_l0 (q left : Int) (l : List Shr) (G : List Int) (hq : 0 ≤ q ∧ q ≤ 1099511627776) (hok : l.all okShr = true) (hm : l.length ≤ 64) (F : FitS q left l G) (hno : ∀ i, i < l.length → mayS l G left i = false) (d : Nat) :
    ∀ (k i : Nat), i ≤ l.length → l.length - i = d → d < k → spigotlaw36_AllotFits.l0 k q l left (left + (G.take i).sum) G (l.length : Int) (i : Int) = some true := by
  obtain ⟨F1, F2, F3, F4⟩ := F
  have hts := take_sum G (fun i hi => (F4 i (by omega)).1)
  induction d with
  | zero =>
    intro k i hi hd hk
    obtain ⟨k, rfl⟩ : ∃ m, k = m + 1 := ⟨k - 1, by omega⟩
    obtain rfl : i = l.length := by omega
    simp only [spigotlaw36_AllotFits.l0]
    rw [if_neg (by omega), ← F1, List.take_length]
    have e : left + G.sum = q := by omega
    rw [e]; simp
  | succ d ih =>
    intro k i hi hd hk
    obtain ⟨k, rfl⟩ : ∃ m, k = m + 1 := ⟨k - 1, by omega⟩
    have hil : i < l.length := by omega
    have hn := ih k (i + 1) (by omega) (by omega) (by omega)
    have f := F4 i hil
    have hb := hts (i + 1) (by omega)
    have eg : rd G (i : Int) = G.getD i 0 := by unfold rd; rw [Int.toNat_natCast]
    have es : (G.take (i + 1)).sum = (G.take i).sum + G.getD i 0 := by
      rw [List.take_succ_eq_append_getElem (by omega), List.sum_append, List.getD_eq_getElem?_getD, List.getElem?_eq_getElem (by omega)]
      simp
    have hxo : okShr (shr l i) = true := rd_all hok i hil
    unfold okShr at hxo
    simp only [Bool.and_eq_true, decide_eq_true_eq] at hxo
    have hmy := hno i hil
    have e1 : Hid (wrap64 ((i : Int) + 1) = ((i + 1 : Nat) : Int)) := Lib.hid (by rw [w64 (by omega) (by omega)]; rfl)
    have e2 : Hid (wrap64 (left + (G.take i).sum + G.getD i 0) = left + (G.take (i + 1)).sum) := Lib.hid (by rw [w64 (by omega) (by omega), es]; omega)
    simp only [spigotlaw36_AllotFits.l0]
    rw [if_pos (by omega), if_pos (by omega), if_pos (by omega), if_pos (by omega), eg]
    have hon := on_is (G.getD i 0) (shr l i).f2 (by omega) f.1 f.2.1
    have hon' : grain_On.f (G.getD i 0) (rd_T42 l (i : Int)).f2 = some true := hon
    rw [hon', Option.bind_some, if_pos rfl, if_neg (show ¬ (G.getD i 0 > (shr l i).f1) by omega), e1.out, e2.out, hn]
    by_cases hl : left ≥ (shr l i).f2
    · rw [if_pos (show left ≥ (rd_T42 l (i : Int)).f2 from hl), if_neg]
      show ¬ (G.getD i 0 ≤ wrap64 ((shr l i).f1 - (shr l i).f2))
      rw [w64 (by omega) (by omega)]
      intro h
      unfold mayS at hmy
      rw [decide_eq_true (show (shr l i).f2 ≤ left from hl), decide_eq_true h] at hmy
      cases hmy
    · rw [if_neg (show ¬ (left ≥ (rd_T42 l (i : Int)).f2) from hl)]
theorem fits_pure (q : Int) (l : List Shr) (hl : l.length ≤ 9223372036854775807) : ∃ k, spigotlaw36_AllotFits.f k q l = some true := by
  obtain ⟨b, hr, hb⟩ := rounds_l0 l hl l.length (l.length + 100) 0 (by omega) (by omega) (by omega)
  refine ⟨l.length + 100, ?_⟩
  have hr' : spigotlaw36_rounds.f (l.length + 100) l = some b := hr
  unfold spigotlaw36_AllotFits.f
  rw [awake_is _ (by omega), Option.bind_some, if_pos rfl, hr', Option.bind_some]
  cases b with
  | false => rw [if_neg (by decide)]
  | true =>
    have hm := hb rfl
    rw [if_pos rfl]
    unfold allot_Lots.f
    rw [Option.bind_some]
    by_cases g : checkS l = true ∧ (0 ≤ q ∧ q ≤ 1099511627776)
    · obtain ⟨F, hno⟩ := fit_all g.2 g.1
      have hc := g.1
      unfold checkS at hc
      simp only [Bool.and_eq_true, decide_eq_true_eq] at hc
      rw [if_pos g]
      dsimp only
      rw [if_pos rfl, if_pos (by have := F.1; omega), decide_eq_false (by have := F.2.1; omega)]
      simp only [spigotlaw36_AllotFits.j0]
      rw [if_neg (by decide)]
      have h0 := fits_l0 q (lotsS q l).2 l (lotsS q l).1 g.2 hc.2.1 hc.1.2 F hno l.length (l.length + 99) 0 (by omega) (by omega) (by omega)
      rw [F.1]
      simpa using h0
    · rw [if_neg g]
      dsimp only
      rw [if_neg (by decide), if_pos (by simp)]
      rfl
end Go.Proofs.Ytknmojjccfhchaa.Pure
namespace Go.Proofs.Ytknmojjccfhchaa.Walk
open Go Go.RowKit Go.Proofs.Ytknmojjccfhchaa.U Go.Proofs.Ytknmojjccfhchaa.Hand Go.Proofs.YtknmojjccfhchaaW.PrintWords Go.Proofs.YtknmojjccfhchaaW.PrintMore
theorem AllotFits (a0 : Int) (A1 : Option Addr) (c1 : Nat) (l1 : List (Int × Int × Int)) (W : World) (w0 : (Lit.int .i64 a0).wf = true) (w1 : (A1 = none ∧ c1 = 0 ∧ l1 = []) ∨ ∃ x, A1 = some x ∧ l1.length ≤ c1 ∧ c1 ≤ maxLen ∧ ∀ i (h : i < l1.length), W.cell? (x.add (i * 3 + 0)) = some (.int .i64 l1[i].1) ∧ W.cell? (x.add (i * 3 + 1)) = some (.int .i64 l1[i].2.1) ∧ W.cell? (x.add (i * 3 + 2)) = some (.int .i64 l1[i].2.2) ∧ (Lit.int .i64 l1[i].1).wf = true ∧ (Lit.int .i64 l1[i].2.1).wf = true ∧ (Lit.int .i64 l1[i].2.2).wf = true) :
    Calls Try.prog 6 #[.int .i64 a0, .slice A1 l1.length c1] W fun e W' => e = .returned (.bool true) ∧ Below W.heap.size W W' := by
  obtain ⟨h1, h2, h3⟩ := shr_row W A1 c1 l1 w1
  obtain ⟨k, hk⟩ := Pure.fits_pure a0 (l1.map mkS) h3
  have := spigotlaw36_AllotFits.calls k a0 A1 c1 (l1.map mkS) true W h1 h2 hk
  rwa [show (l1.map mkS).length = l1.length from List.length_map ..] at this
end Go.Proofs.Ytknmojjccfhchaa.Walk
