/- PaceRises: what should be out never falls as time goes by, is nothing at the beginning and all at the end; an even curve is even; no condition. -/
import Derived.Test.YtcbjamjmefgjcaaPl24
import Derived.Test.YtcbjamjmefgjcaaRowKit
import Derived.Test.YtcbjamjmefgjcaaUx10
set_option linter.unusedVariables false
namespace Go.Proofs.Ytcbjamjmefgjcaa.Walk
open Go Go.RowKit Go.Proofs.Ytcbjamjmefgjcaa.Row Go.Proofs.Ytcbjamjmefgjcaa.U Go.Proofs.Ytcbjamjmefgjcaa.PL Go.Proofs.Ytcbjamjmefgjcaa.Hand Go.Proofs.Ytcbjamjmefgjcaa.RL Go.Proofs.YtcbjamjmefgjcaaW.PrintWords Go.Proofs.YtcbjamjmefgjcaaW.PrintMore
theorem pclamp_mono {a b s : Int} (h : a ≤ b) : clampG a s ≤ clampG b s ∨ s < 0 := by
  unfold clampG
  by_cases c1 : a > s <;> by_cases c2 : b > s <;> by_cases c3 : a > 0 <;> by_cases c4 : b > 0 <;> simp only [c1, c2, c3, c4, if_true, if_false] <;> omega
theorem pdone_mono {l : List Int} (hz : okZ l) {t u s : Int} (hs : 0 ≤ s) (h : t ≤ u) : ∀ m, doneP l t s m ≤ doneP l u s m
  | 0 => Int.le_refl _
  | m + 1 => by
    simp only [doneP]
    have h1 : t * (l.length : Int) ≤ u * (l.length : Int) := Int.mul_le_mul_of_nonneg_right h (by omega)
    have h2 := (pclamp_mono (s := s) (show t * (l.length : Int) - m * s ≤ u * (l.length : Int) - m * s by omega)).resolve_right (by omega)
    have h3 := Int.mul_le_mul_of_nonneg_left h2 (getD_bd hz m).1
    have := pdone_mono hz hs h m
    omega
theorem right_same {q s e n : Int} (m : Int) (h : 0 ≤ n ∧ n ≤ 1099511627776) (hm : 0 ≤ m ∧ m ≤ 1099511627776) : rightP q s e m = rightP q s e n := by
  unfold rightP
  simp only [h.1, h.2, hm.1, hm.2, and_self, and_true]
theorem even_right : rightW [3, 3, 3, 3] = true := by decide
theorem even_done {t s : Int} (ht : 0 < t) (hs : t < s) : doneN [3, 3, 3, 3] t s = 12 * t := by
  show 0 + 3 * clampG (t * ((4 : Nat) : Int) - ((0 : Nat) : Int) * s) s + 3 * clampG (t * ((4 : Nat) : Int) - ((1 : Nat) : Int) * s) s + 3 * clampG (t * ((4 : Nat) : Int) - ((2 : Nat) : Int) * s) s + 3 * clampG (t * ((4 : Nat) : Int) - ((3 : Nat) : Int) * s) s = 12 * t
  unfold clampG
  have e0 : t * ((4 : Nat) : Int) - ((0 : Nat) : Int) * s = 4 * t := by omega
  have e1 : t * ((4 : Nat) : Int) - ((1 : Nat) : Int) * s = 4 * t - s := by omega
  have e2 : t * ((4 : Nat) : Int) - ((2 : Nat) : Int) * s = 4 * t - 2 * s := by omega
  have e3 : t * ((4 : Nat) : Int) - ((3 : Nat) : Int) * s = 4 * t - 3 * s := by omega
  rw [e0, e1, e2, e3]
  (repeat' split) <;> omega
theorem even_is (q s e n : Int) : vwapW q [3, 3, 3, 3] s e n = twapW q s e n := by
  unfold twapW vwapW
  by_cases c : rightP q s e n = 0
  · rw [if_pos c, if_pos c, if_pos even_right]
    obtain ⟨b0, b1, b2, b3, b4⟩ := rightP_open c
    by_cases h1 : n ≤ s
    · rw [if_pos h1, if_pos h1]
    · rw [if_neg h1, if_neg h1]
      by_cases h2 : e ≤ n
      · rw [if_pos h2, if_pos h2]
      · rw [if_neg h2, if_neg h2, (fr_cum b0.1 b0.2 (show 0 ≤ n - s by omega) (show n - s ≤ e - s by omega) (by omega)).1]
        unfold targetW
        rw [if_pos even_right, if_pos (by omega), if_pos b0, even_done (by omega) (by omega)]
        have e2 : ([3, 3, 3, 3] : List Int).sum * (e - s) = 12 * (e - s) := by rfl
        have e3 : q * (12 * (n - s)) = 12 * (q * (n - s)) := Int.mul_left_comm _ _ _
        rw [e2, e3, Int.mul_ediv_mul_of_pos _ _ (by decide)]
  · rw [if_neg c, if_neg c]
theorem rises24 (q : Int) (l : List Int) (s e n : Int) : spigotlaw24_PaceRises.f 10 q l s e n = some true := by
  have skip : spigotlaw24_PaceRises.j0 10 q l true s e n = some true := by simp [spigotlaw24_PaceRises.j0]
  unfold spigotlaw24_PaceRises.f
  rw [awake24 10 (by omega), Option.bind_some, if_pos rfl]
  by_cases h : (l.length : Int) > 64
  · rw [if_pos h]; exact skip
  rw [if_neg h]
  by_cases h1 : n ≥ 1099511627776
  · rw [if_pos h1]; exact skip
  rw [if_neg h1]
  by_cases h2 : n < 0
  · rw [decide_eq_true h2]; exact skip
  rw [decide_eq_false h2]
  simp only [spigotlaw24_PaceRises.j0, Bool.false_eq_true, if_false]
  unfold pace_Vwap.f
  rw [w64q (n := n + 1) (by omega) (by omega)]
  simp only [Option.bind_some]
  have hsame : rightP q s e (n + 1) = rightP q s e n := right_same (n + 1) (by omega) (by omega)
  by_cases c : rightP q s e n = 0
  · obtain ⟨b0, b1, b2, b3, b4⟩ := rightP_open c
    by_cases d : rightW l = true
    · have val : ∀ m, 0 ≤ m ∧ m ≤ 1099511627776 → vwapW q l s e m = (if m ≤ s then (0, 0) else if e ≤ m then (q, 0) else (q * doneN l (m - s) (e - s) / (l.sum * (e - s)), 0)) := by
        intro m hm
        unfold vwapW
        rw [if_pos (by rw [right_same (n := n) m (by omega) hm]; exact c), if_pos d]
        by_cases k1 : m ≤ s
        · rw [if_pos k1, if_pos k1]
        · rw [if_neg k1, if_neg k1]
          by_cases k2 : e ≤ m
          · rw [if_pos k2, if_pos k2]
          · rw [if_neg k2, if_neg k2]
            unfold targetW
            rw [if_pos d, if_pos (by omega), if_pos b0]
      have x1 : mx (mn s 1099511627776) 0 = s := by unfold mx mn; (repeat' split) <;> omega
      have x2 : mx (mn e 1099511627776) 0 = e := by unfold mx mn; (repeat' split) <;> omega
      have ha := all_span d (show 1 ≤ e - s by omega) (by omega)
      have hmono : q * doneN l (n - s) (e - s) / (l.sum * (e - s)) ≤ q * doneN l (n + 1 - s) (e - s) / (l.sum * (e - s)) :=
        Int.ediv_le_ediv (by omega) (Int.mul_le_mul_of_nonneg_left (pdone_mono (right_okZ d).1 (by omega) (by omega) _) b0.1)
      have vt := (target_val d (n - s) b0.1 b0.2 (show 1 ≤ e - s by omega) (by omega)).2
      have vu := (target_val d (n + 1 - s) b0.1 b0.2 (show 1 ≤ e - s by omega) (by omega)).2
      rw [x1, x2, val n (by omega), val (n + 1) (by omega), val s b1, val e b2, if_pos (Int.le_refl s), if_neg (show ¬ e ≤ s by omega), if_pos (Int.le_refl e)]
      generalize q * doneN l (n - s) (e - s) / (l.sum * (e - s)) = a at *
      generalize q * doneN l (n + 1 - s) (e - s) / (l.sum * (e - s)) = b at *
      have fin : ∀ x y : Int, 0 ≤ x → x ≤ y → y ≤ q → (if ((x, (0 : Int)) : Int × Int).2 = 0 then (if ((y, (0 : Int)) : Int × Int).2 = 0 then (if (((0 : Int), (0 : Int)) : Int × Int).2 = 0 then (if ((q, (0 : Int)) : Int × Int).2 = 0 then (if ((x, (0 : Int)) : Int × Int).1 < 0 then (spigotlaw24_PaceRises.j1 9 q true s e n) else (if ((x, (0 : Int)) : Int × Int).1 > ((y, (0 : Int)) : Int × Int).1 then (spigotlaw24_PaceRises.j1 9 q true s e n) else (if ((y, (0 : Int)) : Int × Int).1 > q then (spigotlaw24_PaceRises.j1 9 q true s e n) else (if (((0 : Int), (0 : Int)) : Int × Int).1 = 0 then (spigotlaw24_PaceRises.j1 9 q (((q, (0 : Int)) : Int × Int).1 != q) s e n) else (spigotlaw24_PaceRises.j1 9 q true s e n))))) else (spigotlaw24_PaceRises.j1 9 q true s e n)) else (spigotlaw24_PaceRises.j1 9 q true s e n)) else (spigotlaw24_PaceRises.j1 9 q true s e n)) else (if ((x, (0 : Int)) : Int × Int).1 = 0 then (if ((y, (0 : Int)) : Int × Int).1 = 0 then (some (((x, (0 : Int)) : Int × Int).2 == ((y, (0 : Int)) : Int × Int).2)) else (some false)) else (some false))) = some true := by
        intro x y k1 k2 k3
        rw [if_pos rfl, if_pos rfl, if_pos rfl, if_pos rfl, if_neg (show ¬ x < 0 by omega), if_neg (show ¬ x > y by omega), if_neg (show ¬ y > q by omega), if_pos rfl]
        show spigotlaw24_PaceRises.j1 9 q (q != q) s e n = some true
        rw [bne_self_eq_false]
        simp only [spigotlaw24_PaceRises.j1, Bool.false_eq_true, if_false]
        unfold pace_Vwap.f pace_Twap.f
        rw [Option.bind_some, Option.bind_some, even_is, if_pos rfl]; simp
      by_cases k1 : n ≤ s
      · rw [if_pos k1]
        by_cases k2 : n + 1 ≤ s
        · rw [if_pos k2]; exact fin 0 0 (by omega) (by omega) (by omega)
        · rw [if_neg k2]
          by_cases k3 : e ≤ n + 1
          · rw [if_pos k3]; exact fin 0 q (by omega) (by omega) (by omega)
          · rw [if_neg k3]; exact fin 0 b (by omega) (by omega) (by omega)
      · rw [if_neg k1, if_neg (show ¬ n + 1 ≤ s by omega)]
        by_cases k2 : e ≤ n
        · rw [if_pos k2, if_pos (show e ≤ n + 1 by omega)]; exact fin q q (by omega) (by omega) (by omega)
        · rw [if_neg k2]
          by_cases k3 : e ≤ n + 1
          · rw [if_pos k3]; exact fin a q (by omega) (by omega) (by omega)
          · rw [if_neg k3]; exact fin a b (by omega) (by omega) (by omega)
    · have v : ∀ m, rightP q s e m = 0 → vwapW q l s e m = (0, 30) := fun m hm => by unfold vwapW; rw [if_pos hm, if_neg d]
      rw [v n c, v (n + 1) (by rw [hsame]; exact c), if_neg (show ¬ (((0 : Int), (30 : Int)) : Int × Int).2 = 0 by decide), if_pos rfl, if_pos rfl]; simp
  · have v : ∀ m, rightP q s e m = rightP q s e n → vwapW q l s e m = (0, rightP q s e n) := fun m hm => by unfold vwapW; rw [hm, if_neg c]
    rw [v n rfl, v (n + 1) hsame, if_neg (show ¬ (((0 : Int), rightP q s e n) : Int × Int).2 = 0 from c), if_pos rfl, if_pos rfl]; simp
theorem PaceRises (a0 : Int) (A1 : Option Addr) (n1 c1 : Nat) (z1 : List Int) (a2_0 : Int) (a2_1 : Int) (a2_2 : Int) (W : World) (w0 : (Lit.int .i64 a0).wf = true) (w1 : IntRow .i64 W A1 n1 c1 z1) (y1 : n1 * 8 ≤ 140737488351232) (w2_0 : (Lit.int .i64 a2_0).wf = true) (w2_1 : (Lit.int .i64 a2_1).wf = true) (w2_2 : (Lit.int .i64 a2_2).wf = true) :
    Calls Try.prog 6 #[.int .i64 a0, .slice A1 n1 c1, .agg #[.int .i64 a2_0, .int .i64 a2_1, .int .i64 a2_2]] W fun e W' => e = .returned (.bool true) ∧ Below W.heap.size W W' := by
  obtain ⟨l1, rfl, hr1, hm1, hw1, hc1⟩ := ReadsInt.ofRowC w1
  exact spigotlaw24_PaceRises.calls 10 a0 A1 c1 l1 a2_0 a2_1 a2_2 true W (Kd.C_of_reads (d := (0 : Int)) (h1 := fun _ => rfl) hr1) hc1 (rises24 a0 l1 a2_0 a2_1 a2_2)
end Go.Proofs.Ytcbjamjmefgjcaa.Walk
