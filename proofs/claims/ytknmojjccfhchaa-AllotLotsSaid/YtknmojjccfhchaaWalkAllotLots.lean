/- Texts laid together by join.py: Al7 AlQ AlG WalkAllotLots. -/
import Derived.Test.YtknmojjccfhchaaAl6
import Derived.Test.YtknmojjccfhchaaUx2
import Derived.Test.YtknmojjccfhchaaUx3
import Derived.Test.YtknmojjccfhchaaAlP
import Derived.Test.YtknmojjccfhchaaUx4
import Derived.Test.YtknmojjccfhchaaUx6
import Derived.Test.YtknmojjccfhchaaAlH
import Derived.Test.YtknmojjccfhchaaBelow
import Derived.Test.YtknmojjccfhchaaHandI
import Derived.Test.YtknmojjccfhchaaUx12
import Derived.Test.YtknmojjccfhchaaUx11
import Derived.Test.YtknmojjccfhchaaUx18
import Derived.Test.YtknmojjccfhchaaUx19
set_option linter.unusedVariables false
set_option linter.unusedSimpArgs false
namespace Go.Proofs.Ytknmojjccfhchaa.Hand
open Go Go.RowKit Go.Proofs.Ytknmojjccfhchaa.U Go.Proofs.YtknmojjccfhchaaW.PrintWords Go.Proofs.YtknmojjccfhchaaW.PrintMore Go.Proofs.Ytknmojjccfhchaa.RL Go.Proofs.Ytknmojjccfhchaa.PL
theorem rounds_l0 (l : List Shr) (hl : l.length ≤ 9223372036854775807) (d : Nat) : ∀ (k i : Nat), i ≤ l.length → l.length - i = d → d < k → ∃ b, U.spigotlaw36_rounds.l0 k l l (l.length : Int) (i : Int) = some b ∧ (b = true → l.length ≤ 70) := by
  induction d with
  | zero =>
    intro k i hi hd hk
    obtain ⟨k, rfl⟩ : ∃ m, k = m + 1 := ⟨k - 1, by omega⟩
    simp only [U.spigotlaw36_rounds.l0]
    rw [if_neg (by omega)]
    by_cases h : (l.length : Int) ≤ 70
    · rw [if_pos h]; exact ⟨true, rfl, fun _ => by omega⟩
    · rw [if_neg h]; exact ⟨false, rfl, fun h => by cases h⟩
  | succ d ih =>
    intro k i hi hd hk
    obtain ⟨k, rfl⟩ : ∃ m, k = m + 1 := ⟨k - 1, by omega⟩
    have hn := ih k (i + 1) (by omega) (by omega) (by omega)
    rw [show ((i + 1 : Nat) : Int) = wrap64 ((i : Int) + 1) from by rw [w64 (by omega) (by omega)]; rfl] at hn
    simp only [U.spigotlaw36_rounds.l0]
    rw [if_pos (by omega), if_pos (by omega), if_pos (by omega)]
    by_cases h1 : (U.rd_T42 l (i : Int)).f2 ≥ 1
    · rw [if_pos h1, if_neg (by omega)]
      split
      · exact ⟨false, rfl, fun h => by cases h⟩
      · exact hn
    · rw [if_neg h1]; exact hn
theorem ints_ext {xs ys : List Int} (hn : xs.length = ys.length) (h : ∀ j, j < xs.length → rd xs (j : Int) = rd ys (j : Int)) : xs = ys := by
  apply List.ext_getElem hn
  intro i h1 h2
  have := h i h1
  unfold rd at this
  simp only [Int.toNat_natCast] at this
  rwa [List.getD_eq_getElem?_getD, List.getD_eq_getElem?_getD, List.getElem?_eq_getElem h1, List.getElem?_eq_getElem h2] at this
theorem same_l0 (xs ys : List Int) (hn : xs.length = ys.length) (hm : xs.length ≤ 1000) (d : Nat) : ∀ (k i : Nat), i ≤ xs.length → xs.length - i = d → d < k → (∀ m, m < i → rd xs (m : Int) = rd ys (m : Int)) → U.spigotref03_Same.l0 k xs ys (i : Int) = some (decide (xs = ys)) := by
  induction d with
  | zero =>
    intro k i hi hd hk hall
    obtain ⟨k, rfl⟩ : ∃ m, k = m + 1 := ⟨k - 1, by omega⟩
    simp only [U.spigotref03_Same.l0]
    rw [if_neg (by omega), decide_eq_true (ints_ext hn (fun j hj => hall j (by omega)))]
  | succ d ih =>
    intro k i hi hd hk hall
    obtain ⟨k, rfl⟩ : ∃ m, k = m + 1 := ⟨k - 1, by omega⟩
    simp only [U.spigotref03_Same.l0]
    rw [if_pos (by omega), if_pos (by omega), if_pos (by omega)]
    by_cases h : rd xs (i : Int) = rd ys (i : Int)
    · rw [if_pos h, show wrap64 ((i : Int) + 1) = ((i + 1 : Nat) : Int) from by rw [w64 (by omega) (by omega)]; rfl]
      refine ih k (i + 1) (by omega) (by omega) (by omega) ?_
      intro m hm'
      by_cases he : m = i
      · rw [he]; exact h
      · exact hall m (by omega)
    · rw [if_neg h, decide_eq_false (by rintro rfl; exact h rfl)]
theorem same_is (xs ys : List Int) (hm : xs.length ≤ 1000) (k : Nat) (hk : xs.length < k) : U.spigotref03_Same.f k xs ys = some (decide (xs = ys)) := by
  unfold U.spigotref03_Same.f
  by_cases h : xs.length = ys.length
  · rw [if_pos (by omega)]
    exact same_l0 xs ys h hm _ k 0 (by omega) rfl (by omega) (fun m hm => absurd hm (Nat.not_lt_zero _))
  · rw [if_neg (by omega), decide_eq_false (by rintro rfl; exact h rfl)]
theorem pro_ex : allot_Pro.f 10 [⟨1, 0, 1⟩, ⟨1, 0, 1⟩, ⟨1, 0, 1⟩] = some ([4, 3, 3], 0) := by kernel_rfl
theorem lots_ex : allot_Lots.f 25 [⟨10, 10, 10⟩, ⟨20, 20, 5⟩] = some ([10, 15], 0, 0) := by kernel_rfl
theorem awake_is (k : Nat) (hk : 5 ≤ k) : U.spigotlaw36_awake.f k = some true := by
  unfold U.spigotlaw36_awake.f
  rw [pro_ex, Option.bind_some, lots_ex, Option.bind_some]
  dsimp only
  rw [same_is _ _ (by simp) k (by simp; omega), same_is _ _ (by simp) k (by simp; omega)]
  rfl
def mkS (x : Int × Int × Int) : Shr := ⟨x.1, x.2.1, x.2.2⟩
theorem shr_row (W : World) (A1 : Option Addr) (c1 : Nat) (l1 : List (Int × Int × Int)) (w1 : (A1 = none ∧ c1 = 0 ∧ l1 = []) ∨ ∃ x, A1 = some x ∧ l1.length ≤ c1 ∧ c1 ≤ maxLen ∧ ∀ i (h : i < l1.length), W.cell? (x.add (i * 3 + 0)) = some (.int .i64 l1[i].1) ∧ W.cell? (x.add (i * 3 + 1)) = some (.int .i64 l1[i].2.1) ∧ W.cell? (x.add (i * 3 + 2)) = some (.int .i64 l1[i].2.2) ∧ (Lit.int .i64 l1[i].1).wf = true ∧ (Lit.int .i64 l1[i].2.1).wf = true ∧ (Lit.int .i64 l1[i].2.2).wf = true) :
    Kd.C kS W A1 (l1.map mkS).length (l1.map mkS) ∧ (l1.map mkS).length ≤ c1 ∧ (l1.map mkS).length ≤ 9223372036854775807 := by
  have hlen : (l1.map mkS).length = l1.length := List.length_map ..
  rcases w1 with ⟨rfl, rfl, rfl⟩ | ⟨x, rfl, hc, hm, hf⟩
  · exact ⟨⟨rfl, by simp, fun hp => absurd hp (by simp)⟩, by simp, by simp⟩
  · have hmx : maxLen ≤ 9223372036854775807 := by decide
    refine ⟨⟨rfl, by rw [hlen]; omega, fun hp => ⟨x, rfl, fun j p hj => ?_⟩⟩, by omega, by omega⟩
    have hlt : j < (l1.map mkS).length := (List.getElem?_eq_some_iff.1 hj).1
    have e : (l1.map mkS)[j] = p := (List.getElem?_eq_some_iff.1 hj).2
    have hlt' : j < l1.length := by omega
    obtain ⟨g0, g1, g2, _⟩ := hf j hlt'
    rw [List.getElem_map] at e
    subst e
    refine ⟨[.int .i64 l1[j].1, .int .i64 l1[j].2.1, .int .i64 l1[j].2.2], rfl, U.k42_mk _ (mkS l1[j]), fun i u hu => ?_⟩
    match i, hu with
    | 0, hu => cases hu; exact g0
    | 1, hu => cases hu; exact g1
    | 2, hu => cases hu; exact g2
    | i + 3, hu => simp at hu
theorem mul_small {a b m n : Int} (ha : 0 ≤ a ∧ a ≤ m) (hb : 0 ≤ b ∧ b ≤ n) : 0 ≤ a * b ∧ a * b ≤ m * n :=
  ⟨Int.mul_nonneg ha.1 hb.1, Int.mul_le_mul ha.2 hb.2 hb.1 (by omega)⟩
theorem times_is (a b : Int) (ha : 0 ≤ a ∧ a ≤ 9223372036854775807) (hb : 0 ≤ b ∧ b ≤ 9223372036854775807) : spigotref36_times.f a b = some (enc (a * b)) := by
  unfold spigotref36_times.f
  rw [of_is a (by unfold in64; omega), Option.bind_some, of_is b (by unfold in64; omega), Option.bind_some]
  have s1 : small a := small_le (by omega)
  have s2 : small b := small_le (by omega)
  have e : spigotref01_Mul.f (enc a).1 (enc a).2 (enc b).1 (enc b).2 = some (enc (a * b)) := by
    unfold spigotref01_Mul.f; rw [if_pos ⟨okB_enc s1, okB_enc s2⟩, dec_enc, dec_enc]
  rw [e]; rfl
theorem rfair_is (q a all : Int) (hq : 0 ≤ q ∧ q ≤ 9223372036854775807) (ha : 0 ≤ a ∧ a ≤ all) (hall : 1 ≤ all ∧ all ≤ 70368744177664) : spigotref36_Fair.f q a all = some (q * a / all) := by
  have hb := mul_small hq (show 0 ≤ a ∧ a ≤ 70368744177664 by omega)
  have h1 : q * a ≤ q * all := Int.mul_le_mul_of_nonneg_left ha.2 hq.1
  have h2 : q * a / all ≤ q := by
    have := Int.ediv_le_ediv (show 0 < all by omega) h1
    rwa [Int.mul_ediv_cancel _ (by omega)] at this
  have h3 : 0 ≤ q * a / all := Int.ediv_nonneg hb.1 (by omega)
  have s1 : small (q * a) := small_le (by omega)
  have s2 : small all := small_le (by omega)
  have s3 : small (q * a / all) := small_le (by omega)
  unfold spigotref36_Fair.f
  rw [times_is q a hq (by omega), Option.bind_some, of_is all (by unfold in64; omega), Option.bind_some]
  have e : spigotref01_Part.f (enc (q * a)).1 (enc (q * a)).2 (enc all).1 (enc all).2 false = some (enc (q * a / all)) := by
    unfold spigotref01_Part.f
    rw [if_pos ⟨okB_enc s1, okB_enc s2, by rw [dec_enc]; omega⟩, dec_enc, dec_enc]
    unfold frac flo
    simp only [Bool.false_eq_true, if_false]
    rw [if_neg (by omega)]
  rw [e, Option.bind_some, int_is _ s3, Option.bind_some, intV_in (by unfold in64; omega)]
theorem neg_f (z : Int) : spigotref01_Neg.f (enc z).1 (enc z).2 = some (enc (-z)) := by
  have hl := len_pos z.natAbs
  unfold spigotref01_Neg.f
  have e2 : (enc (-z)).2 = (enc z).2 := by show Bl.nbits (-z).natAbs = Bl.nbits z.natAbs; rw [Int.natAbs_neg]
  have e1 : (enc z).1 = decide (z < 0) := rfl
  have e3 : (enc (-z)).1 = decide (-z < 0) := rfl
  have e4 : ((enc z).2.length : Int) = ((Bl.nbits z.natAbs).length : Int) := rfl
  have e5 : enc (-z) = (decide (-z < 0), (enc z).2) := by rw [← e2]; rfl
  rw [e5, e1]
  by_cases h : z < 0
  · rw [if_pos (decide_eq_true h), decide_eq_false (by omega)]
  · rw [if_neg (by rw [decide_eq_true_eq]; exact h)]
    by_cases h2 : 0 < z.natAbs
    · have h3 := hl.2 h2
      rw [if_pos (by omega), decide_eq_true (by omega)]
    · have h3 : ¬ 0 < (Bl.nbits z.natAbs).length := fun q => h2 (hl.1 (by omega))
      rw [if_neg (by omega), decide_eq_false (by omega)]
theorem over_is (q a n all : Int) (hq : 0 ≤ q ∧ q ≤ 9223372036854775807) (ha : 0 ≤ a ∧ a ≤ 70368744177664) (hn : 0 ≤ n ∧ n ≤ 9223372036854775807) (hall : 0 ≤ all ∧ all ≤ 70368744177664) : spigotref36_over.f q a n all = some (enc (q * a - n * all)) ∧ small (q * a - n * all) := by
  have b1 := mul_small hq ha
  have b2 := mul_small hn hall
  have s1 : small (q * a) := small_le (by omega)
  have s2 : small (-(n * all)) := small_le (by omega)
  unfold spigotref36_over.f
  rw [times_is q a hq (by omega), Option.bind_some, times_is n all hn (by omega), Option.bind_some, neg_f, Option.bind_some]
  have e : spigotref01_Add.f (enc (q * a)).1 (enc (q * a)).2 (enc (-(n * all))).1 (enc (-(n * all))).2 = some (enc (q * a - n * all)) := by
    unfold spigotref01_Add.f
    rw [if_pos ⟨okB_enc s1, okB_enc s2⟩, dec_enc, dec_enc, ← Int.sub_eq_add_neg]
  rw [e]
  exact ⟨rfl, small_le (by omega)⟩
theorem getD_rd (l : List Int) (i : Nat) : rd l (i : Int) = l.getD i 0 := by unfold rd; rw [Int.toNat_natCast]
end Go.Proofs.Ytknmojjccfhchaa.Hand
namespace Go.Proofs.Ytknmojjccfhchaa.Pure
open Go Go.RowKit Go.Proofs.Ytknmojjccfhchaa.U Go.Proofs.Ytknmojjccfhchaa.PL Go.Proofs.Ytknmojjccfhchaa.Hand Go.Proofs.Ytknmojjccfhchaa.RL Go.Proofs.YtknmojjccfhchaaW.PrintWords Go.Proofs.YtknmojjccfhchaaW.PrintMore
theorem mn_min (a b : Int) : mn a b = min a b := by unfold mn; split <;> omega
theorem rdD (l : List Shr) (i : Nat) (hi : i < l.length) : (rd_T49 (l.map cvS) (i : Int)).f0 = (shr l i).f0 ∧ (rd_T49 (l.map cvS) (i : Int)).f1 = (shr l i).f1 ∧ (rd_T49 (l.map cvS) (i : Int)).f2 = (shr l i).f2 := by
  rw [rdP l i hi]; exact ⟨rfl, rfl, rfl⟩
theorem ok_at {l : List Shr} (h : l.all okShr = true) (i : Nat) (hi : i < l.length) : 0 ≤ (shr l i).f0 ∧ (shr l i).f0 ≤ 1099511627776 ∧ 0 ≤ (shr l i).f1 ∧ (shr l i).f1 ≤ (shr l i).f0 ∧ 1 ≤ (shr l i).f2 ∧ (shr l i).f2 ≤ 1099511627776 := by
  have := rd_all h i hi
  unfold okShr at this
  simp only [Bool.and_eq_true, decide_eq_true_eq] at this
  exact ⟨this.1.1.1, this.1.1.2, this.1.2.1, this.1.2.2, this.2.1, this.2.2⟩
theorem lots_over {q all : Int} {l : List Shr} {G : List Int} (F : PotOk q all l G) (i : Nat) (hi : i < l.length) : spigotref36_over.f q (rd_T49 (l.map cvS) (i : Int)).f0 (rd G (i : Int)) all = some (enc (q * (shr l i).f0 - G.getD i 0 * all)) ∧ small (q * (shr l i).f0 - G.getD i 0 * all) := by
  have h := ok_at F.ok i hi
  have hG := F.hG i
  have hq := F.hq
  have := over_is q (shr l i).f0 (G.getD i 0) all ⟨hq.1, by omega⟩ ⟨h.1, by omega⟩ ⟨hG.1, by omega⟩ ⟨F.ha.1, F.ha.2⟩
  rw [(rdD l i hi).1, getD_rd]
  exact this
theorem lots_l2 {q all left : Int} {l : List Shr} {G : List Int} (F : PotOk q all l G) (hn : G.length = l.length) (hleft : 0 ≤ left ∧ left ≤ 1099511627776) (res : List Int × Int) (h0 : nextN q all left l G l.length < 0 → res = (G, left)) (h1 : ∀ i : Nat, i < l.length → nextN q all left l G l.length = i → Ev fun k => spigotref36_Lots.l1 k q (l.map cvS) all (G.set i (G.getD i 0 + (shr l i).f2)) (left - (shr l i).f2) = some res) (d : Nat) :
    ∀ i : Nat, i ≤ l.length → l.length - i = d → Ev fun k => spigotref36_Lots.l2 k q (l.map cvS) all G left (nextN q all left l G i) (i : Int) = some res := by
  have hm := F.hm
  have hml : (l.map cvS).length = l.length := List.length_map ..
  induction d with
  | zero =>
    intro i hi hd
    obtain rfl : i = l.length := by omega
    rcases nextN_b q all left l G l.length with hno | ⟨p, hp, hyes⟩
    · refine (Ev.now (p := fun _ => True) fun _ => trivial).succ fun k _ => ?_
      simp only [spigotref36_Lots.l2]
      rw [if_neg (by omega), hno, if_pos (by omega), h0 (by omega)]
    · have hmy := nextN_may hyes
      unfold mayS at hmy
      simp only [Bool.and_eq_true, decide_eq_true_eq] at hmy
      have hx := ok_at F.ok p hp
      have hG := F.hG p
      obtain ⟨r0, r1, r2⟩ := rdD l p hp
      refine (h1 p hp hyes).succ fun k hk => ?_
      simp only [spigotref36_Lots.l2]
      rw [if_neg (by omega), hyes, if_neg (by omega), if_pos (by omega), if_pos (by omega), if_pos (by omega), Int.toNat_natCast, r2, getD_rd, w64 (by omega) (by omega), w64 (by omega) (by omega)]
      exact hk
  | succ d ih =>
    intro i hi hd
    have hil : i < l.length := by omega
    have hx := ok_at F.ok i hil
    have hG := F.hG i
    obtain ⟨r0, r1, r2⟩ := rdD l i hil
    have hnx := ih (i + 1) (by omega) (by omega)
    rw [← wrap_n (by omega)] at hnx
    refine (hnx.succ (q := fun k => spigotref36_Lots.j3 k q (l.map cvS) all G left (nextN q all left l G i) (i : Int) (!mayS l G left i) = some res) (fun k hk => ?_)).succ fun k hk => ?_
    · simp only [spigotref36_Lots.j3]
      unfold nextN at hk
      cases hmy : mayS l G left i with
      | false =>
        rw [hmy, Bool.false_and, if_neg (by decide)] at hk
        rw [if_pos (by rfl)]
        exact hk
      | true =>
        rw [hmy, Bool.true_and] at hk
        rw [if_neg (by decide)]
        rcases nextN_b q all left l G i with hno | ⟨p, hp, hyes⟩
        · rw [hno] at hk ⊢
          rw [if_pos (by decide)]
          rw [if_pos (by simp)] at hk
          exact hk
        · rw [hyes] at hk ⊢
          have hpl : p < l.length := by omega
          rw [if_neg (by omega), if_pos (by omega), if_pos (by omega), if_pos (by omega), (lots_over F p hpl).1, Option.bind_some, if_pos (by omega), if_pos (by omega), if_pos (by omega), (lots_over F i hil).1, Option.bind_some, below_is _ _ (lots_over F p hpl).2 (lots_over F i hil).2, Option.bind_some]
          rw [decide_eq_false (show ¬ ((p : Int) < 0) by omega), Bool.false_or, Int.toNat_natCast] at hk
          unfold behS at hk
          by_cases c : q * (shr l p).f0 - G.getD p 0 * all < q * (shr l i).f0 - G.getD i 0 * all
          · rw [if_pos (decide_eq_true c)]
            rw [if_pos (by rw [decide_eq_true_eq]; omega)] at hk
            exact hk
          · rw [if_neg (by rw [decide_eq_true_eq]; exact c)]
            rw [if_neg (by rw [decide_eq_true_eq]; omega)] at hk
            exact hk
    · simp only [spigotref36_Lots.l2]
      rw [if_pos (by omega), if_pos (by omega), r2, r1, getD_rd]
      unfold mayS at hk
      by_cases c : left < (shr l i).f2
      · rw [if_pos c]
        rw [decide_eq_false (show ¬ (shr l i).f2 ≤ left by omega), Bool.false_and] at hk
        exact hk
      · rw [if_neg c, if_pos (by omega), w64 (by omega) (by omega)]
        rw [decide_eq_true (show (shr l i).f2 ≤ left by omega), Bool.true_and] at hk
        have e : (!decide (G.getD i 0 ≤ (shr l i).f1 - (shr l i).f2)) = decide (G.getD i 0 + (shr l i).f2 > (shr l i).f1) := by
          by_cases c2 : G.getD i 0 ≤ (shr l i).f1 - (shr l i).f2
          · rw [decide_eq_true c2, decide_eq_false (by omega)]; rfl
          · rw [decide_eq_false c2, decide_eq_true (by omega)]; rfl
        rw [e] at hk
        exact hk
theorem lots_l1 {q all : Int} {l : List Shr} : ∀ (K : Nat) (G : List Int) (left : Int), PotOk q all l G → G.length = l.length → 0 ≤ left → left < (K : Int) → left ≤ 1099511627776 → Ev fun k => spigotref36_Lots.l1 k q (l.map cvS) all G left = some (lotsN q all l K G left)
  | 0, G, left, F, hn, h0, hK, hl => by omega
  | K + 1, G, left, F, hn, h0, hK, hl => by
    have h2 := lots_l2 F hn ⟨h0, hl⟩ (lotsN q all l (K + 1) G left) (fun h => lots_end h) (fun i hi hyes => by
      have hmy := nextN_may hyes
      unfold mayS at hmy
      simp only [Bool.and_eq_true, decide_eq_true_eq] at hmy
      have hx := ok_at F.ok i hi
      have hG := F.hG i
      rw [lots_step hyes]
      exact lots_l1 K _ _ ⟨F.ok, F.hm, F.hq, F.ha, set_b F.hG (by omega)⟩ (by rw [List.length_set]; exact hn) (by omega) (by omega) (by omega)) l.length 0 (Nat.zero_le _) rfl
    refine h2.succ fun k hk => ?_
    simp only [spigotref36_Lots.l1]
    exact hk
theorem lots_l0 {q : Int} {l : List Shr} (hq : 0 ≤ q ∧ q ≤ 1099511627776) (hok : l.all okShr = true) (hm : l.length ≤ 64) (h1 : 1 ≤ sumA l) (res : List Int × Int) (hnx : Ev fun k => spigotref36_Lots.l1 k q (l.map cvS) (sumA l) (firstG q (sumA l) l) (q - (firstG q (sumA l) l).sum) = some res) (d : Nat) :
    ∀ i : Nat, i ≤ l.length → l.length - i = d → Ev fun k => spigotref36_Lots.l0 k q (l.map cvS) (sumA l) ((firstG q (sumA l) l).take i) (i : Int) = some res := by
  have hA : ∀ x ∈ l, okA x := fun x hx => okShr_A (List.all_eq_true.1 hok x hx)
  have hsb := sumA_b l hA
  have hml : (l.map cvS).length = l.length := List.length_map ..
  have hfb := firstG_b (l := l) hq hok rfl h1
  have hfit := fit_first hq hok h1
  have hnn : ∀ x ∈ firstG q (sumA l) l, 0 ≤ x := fun x hx => by
    obtain ⟨j, hj, rfl⟩ := List.getElem_of_mem hx
    have := (hfb j).1
    rwa [List.getD_eq_getElem?_getD, List.getElem?_eq_getElem hj] at this
  have hs0 := sum_nn _ hnn
  have hsq : (firstG q (sumA l) l).sum ≤ q := by have := hfit.2.1; omega
  induction d with
  | zero =>
    intro i hi hd
    obtain rfl : i = l.length := by omega
    refine (hnx.both (rsum_is (firstG q (sumA l) l) (by rw [firstG_len]; omega) hnn (by omega))).succ fun k ⟨a, b⟩ => ?_
    simp only [spigotref36_Lots.l0]
    rw [if_neg (by omega), List.take_of_length_le (by rw [firstG_len]; omega), b, Option.bind_some, w64 (by omega) (by omega)]
    exact a
  | succ d ih =>
    intro i hi hd
    have hil : i < l.length := by omega
    refine (ih (i + 1) (by omega) (by omega)).succ fun k hk => ?_
    obtain ⟨r0, r1, r2⟩ := rdD l i hil
    have hx := ok_at hok i hil
    have hle := f0_le hA i hil
    have hb := first_b (all := sumA l) (x := shr l i) hq (rd_all hok i hil) hle h1
    have e : (firstG q (sumA l) l).take (i + 1) = (firstG q (sumA l) l).take i ++ [firstI q (sumA l) (shr l i)] := by
      rw [List.take_succ_eq_append_getElem (by rw [firstG_len]; exact hil), firstG_at q (sumA l) l i hil]
    have ev : wrap64 (mn (q * (shr l i).f0 / sumA l) (shr l i).f1 - Int.tmod (mn (q * (shr l i).f0 / sumA l) (shr l i).f1) (shr l i).f2) = firstI q (sumA l) (shr l i) := by
      rw [mn_min]
      unfold firstI at hb ⊢
      have hmn : 0 ≤ min (q * (shr l i).f0 / sumA l) (shr l i).f1 ∧ min (q * (shr l i).f0 / sumA l) (shr l i).f1 ≤ (shr l i).f1 := by omega
      generalize min (q * (shr l i).f0 / sumA l) (shr l i).f1 = m at *
      rw [Int.tmod_eq_emod_of_nonneg hmn.1]
      have hd := Int.ediv_mul_add_emod m (shr l i).f2
      have h3 := Int.emod_nonneg m (show (shr l i).f2 ≠ 0 by omega)
      generalize m % (shr l i).f2 = r at *
      generalize m / (shr l i).f2 * (shr l i).f2 = y at *
      rw [w64 (by omega) (by omega)]; omega
    simp only [spigotref36_Lots.l0]
    rw [if_pos (by omega), if_pos (by omega), r0, r1, r2, rfair_is q _ (sumA l) ⟨hq.1, by omega⟩ ⟨hx.1, hle⟩ ⟨h1, by omega⟩, Option.bind_some, if_neg (by omega), if_pos (by rw [List.length_take]; omega), ev, ← e, wrap_n (by omega)]
    exact hk
theorem rlots_is {q : Int} {l : List Shr} (hq : 0 ≤ q ∧ q ≤ 1099511627776) (hok : checkS l = true) : Ev fun k => spigotref36_Lots.f k q (l.map cvS) = some (lotsS q l) := by
  unfold checkS at hok
  simp only [Bool.and_eq_true, decide_eq_true_eq, Bool.not_eq_true', decide_eq_false_iff_not] at hok
  obtain ⟨hm, hall, hs0⟩ := hok
  have hA : ∀ x ∈ l, okA x := fun x hx => okShr_A (List.all_eq_true.1 hall x hx)
  have hsb := sumA_b l hA
  have h1 : 1 ≤ sumA l := by omega
  have hfit := fit_first hq hall h1
  have hfb := firstG_b (l := l) hq hall rfl h1
  have hnn : ∀ x ∈ firstG q (sumA l) l, 0 ≤ x := fun x hx => by
    obtain ⟨j, hj, rfl⟩ := List.getElem_of_mem hx
    have := (hfb j).1
    rwa [List.getD_eq_getElem?_getD, List.getElem?_eq_getElem hj] at this
  have hs1 := sum_nn _ hnn
  have hl1 := lots_l1 (q := q) (all := sumA l) (l := l) (q.toNat + 1) (firstG q (sumA l) l) (q - (firstG q (sumA l) l).sum) ⟨hall, hm.2, hq, ⟨by omega, by omega⟩, hfb⟩ (firstG_len _ _ _) hfit.2.1 (by omega) (by omega)
  have hl0 := lots_l0 hq hall hm.2 h1 _ hl1 l.length 0 (Nat.zero_le _) rfl
  have hsum := rsum_is (asksS l) (by simp [asksS]; omega) (fun x hx => by
    obtain ⟨y, hy, rfl⟩ := List.mem_map.1 hx
    exact (hA y hy).1) (by rw [asks_sum]; omega)
  refine (hl0.both (hsum.both (rasks_is l (by omega)))).imp fun k ⟨a, b, c⟩ => ?_
  unfold spigotref36_Lots.f lotsS
  rw [c, Option.bind_some, b, Option.bind_some, asks_sum]
  simpa using a
theorem lots_pure (q : Int) (l : List Shr) (hl : l.length ≤ 9223372036854775807) : ∃ k, spigotlaw36_AllotLots.f k q l = some true := by
  have hcase : (checkS l = true ∧ (0 ≤ q ∧ q ≤ 1099511627776)) ∨ ¬ (checkS l = true ∧ (0 ≤ q ∧ q ≤ 1099511627776)) := Classical.em _
  obtain ⟨K, hK⟩ : ∃ K, ∀ k, K ≤ k → (checkS l = true ∧ (0 ≤ q ∧ q ≤ 1099511627776)) → spigotref36_Lots.f k q (l.map cvS) = some (lotsS q l) := by
    rcases hcase with g | g
    · obtain ⟨K, hK⟩ := rlots_is g.2 g.1
      exact ⟨K, fun k hk _ => hK k hk⟩
    · exact ⟨0, fun k _ h => absurd h g⟩
  refine ⟨K + l.length + 1010, ?_⟩
  obtain ⟨b, hr, hb⟩ := rounds_l0 l hl l.length (K + l.length + 1010) 0 (by omega) (by omega) (by omega)
  have hr' : spigotlaw36_rounds.f (K + l.length + 1010) l = some b := hr
  unfold spigotlaw36_AllotLots.f
  rw [awake_is _ (by omega), Option.bind_some, if_pos rfl, hr', Option.bind_some]
  cases b with
  | false => rw [if_neg (by decide)]
  | true =>
    have hm := hb rfl
    have hpl : spigotlaw36_plain.f l = some (l.map cvS) := by unfold spigotlaw36_plain.f; rw [if_pos (by omega)]
    rw [if_pos rfl]
    rcases hcase with g | g
    · have hL : allot_Lots.f q l = some ((lotsS q l).1, (lotsS q l).2, 0) := by unfold allot_Lots.f; rw [if_pos g]
      have hk := hK (K + l.length + 1009) (by omega) g
      have hG := (fit_all g.2 g.1).1.1
      rw [hL, Option.bind_some, hpl, Option.bind_some, right_is, Option.bind_some, if_pos g.1, if_neg (by omega), decide_eq_false (by omega)]
      simp only [spigotlaw36_AllotLots.j0]
      rw [if_neg (by decide), hpl, Option.bind_some, hk, Option.bind_some]
      simp [same_is (lotsS q l).1 (lotsS q l).1 (by omega) (K + l.length + 1009) (by omega)]
    · have hL : allot_Lots.f q l = some ([], 0, 2) := by unfold allot_Lots.f; rw [if_neg g]
      have hj : ∀ k, spigotlaw36_AllotLots.j0 (k + 1) q l [] 0 2 true = some true := fun k => by simp [spigotlaw36_AllotLots.j0]
      rw [hL, Option.bind_some, hpl, Option.bind_some, right_is, Option.bind_some]
      dsimp only
      by_cases hc : checkS l = true
      · rw [if_pos hc]
        by_cases hn : q < 0
        · rw [if_pos hn]; exact hj _
        · rw [if_neg hn, decide_eq_true (by
            rcases Int.lt_or_le 1099511627776 q with h | h
            · exact h
            · exact absurd ⟨hc, by omega, h⟩ g)]
          exact hj _
      · rw [if_neg hc]; exact hj _
end Go.Proofs.Ytknmojjccfhchaa.Pure
namespace Go.Proofs.Ytknmojjccfhchaa.Walk
open Go Go.RowKit Go.Proofs.Ytknmojjccfhchaa.U Go.Proofs.Ytknmojjccfhchaa.Hand Go.Proofs.YtknmojjccfhchaaW.PrintWords Go.Proofs.YtknmojjccfhchaaW.PrintMore
theorem AllotLots (a0 : Int) (A1 : Option Addr) (c1 : Nat) (l1 : List (Int × Int × Int)) (W : World) (w0 : (Lit.int .i64 a0).wf = true) (w1 : (A1 = none ∧ c1 = 0 ∧ l1 = []) ∨ ∃ x, A1 = some x ∧ l1.length ≤ c1 ∧ c1 ≤ maxLen ∧ ∀ i (h : i < l1.length), W.cell? (x.add (i * 3 + 0)) = some (.int .i64 l1[i].1) ∧ W.cell? (x.add (i * 3 + 1)) = some (.int .i64 l1[i].2.1) ∧ W.cell? (x.add (i * 3 + 2)) = some (.int .i64 l1[i].2.2) ∧ (Lit.int .i64 l1[i].1).wf = true ∧ (Lit.int .i64 l1[i].2.1).wf = true ∧ (Lit.int .i64 l1[i].2.2).wf = true) :
    Calls Try.prog 4 #[.int .i64 a0, .slice A1 l1.length c1] W fun e W' => e = .returned (.bool true) ∧ Below W.heap.size W W' := by
  obtain ⟨h1, h2, h3⟩ := shr_row W A1 c1 l1 w1
  obtain ⟨k, hk⟩ := Pure.lots_pure a0 (l1.map mkS) h3
  have := spigotlaw36_AllotLots.calls k a0 A1 c1 (l1.map mkS) true W h1 h2 hk
  rwa [show (l1.map mkS).length = l1.length from List.length_map ..] at this
end Go.Proofs.Ytknmojjccfhchaa.Walk
