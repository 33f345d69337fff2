/- A target never falls, is nothing at first and all at most: plainly. -/
import Derived.Test.YtapfidpfjbacgaaSl8
set_option linter.unusedVariables false
set_option linter.unusedSimpArgs false
namespace Go.Proofs.Ytapfidpfjbacgaa.Hand
open Go Go.RowKit Go.Proofs.YtapfidpfjbacgaaW.PrintWords Go.Proofs.YtapfidpfjbacgaaW.PrintMore Go.Proofs.Ytapfidpfjbacgaa.RL Go.Proofs.Ytapfidpfjbacgaa.PL
theorem qclamp_mono {a b s : Int} (h : a ≤ b) : clampG a s ≤ clampG b s ∨ s < 0 := by
  unfold clampG
  by_cases c1 : a > s <;> by_cases c2 : b > s <;> by_cases c3 : a > 0 <;> by_cases c4 : b > 0 <;> simp only [c1, c2, c3, c4, if_true, if_false] <;> omega
theorem qdone_mono {l : List Int} (hz : okZ l) {t u s : Int} (hs : 0 ≤ s) (h : t ≤ u) : ∀ m, doneP l t s m ≤ doneP l u s m
  | 0 => Int.le_refl _
  | m + 1 => by
    simp only [doneP]
    have h1 : t * (l.length : Int) ≤ u * (l.length : Int) := Int.mul_le_mul_of_nonneg_right h (by omega)
    have h2 := (qclamp_mono (s := s) (show t * (l.length : Int) - m * s ≤ u * (l.length : Int) - m * s by omega)).resolve_right (by omega)
    have h3 := Int.mul_le_mul_of_nonneg_left h2 (getD_bd hz m).1
    have := qdone_mono hz hs h m
    omega
/-- Two numbers of which the first is nothing at least, the second all at most, and that do not fall. -/
def Rise (q : Int) (x y : Int × Int) : Prop := x.2 = 0 ∧ y.2 = 0 ∧ 0 ≤ x.1 ∧ x.1 ≤ y.1 ∧ y.1 ≤ q
theorem rightP_zero {q s e n : Int} (h1 : 0 ≤ q ∧ q ≤ 1099511627776) (h2 : 0 ≤ s ∧ s ≤ 1099511627776) (h3 : 0 ≤ e ∧ e ≤ 1099511627776) (h4 : 0 ≤ n ∧ n ≤ 1099511627776) (h5 : 1 ≤ e - s ∧ e - s ≤ 1073741824) : rightP q s e n = 0 := by
  unfold rightP
  rw [if_pos h1, if_pos ⟨h2, h3, h4⟩, if_pos h5]
theorem rise_of {q s e n m a b : Int} (hq : 0 ≤ q) (hse : s < e) (hnm : n ≤ m) (h0 : 0 ≤ a) (hab : a ≤ b) (hb : b ≤ q) :
    Rise q (if n ≤ s then (0, 0) else if e ≤ n then (q, 0) else (a, 0)) (if m ≤ s then (0, 0) else if e ≤ m then (q, 0) else (b, 0)) := by
  unfold Rise
  by_cases k1 : n ≤ s <;> by_cases k2 : e ≤ n <;> by_cases k3 : m ≤ s <;> by_cases k4 : e ≤ m <;> (simp only [k1, k2, k3, k4, if_true, if_false]; refine ⟨?_, ?_, ?_, ?_, ?_⟩ <;> first | trivial | omega)
theorem twap_rise {q s e n m : Int} (h1 : 0 ≤ q ∧ q ≤ 1099511627776) (h2 : 0 ≤ s ∧ s ≤ 1099511627776) (h3 : 0 ≤ e ∧ e ≤ 1099511627776) (h4 : 0 ≤ n ∧ n ≤ 1099511627776) (h4' : 0 ≤ m ∧ m ≤ 1099511627776) (h5 : 1 ≤ e - s ∧ e - s ≤ 1073741824) (hnm : n ≤ m) : Rise q (twapW q s e n) (twapW q s e m) := by
  have val : ∀ n, 0 ≤ n ∧ n ≤ 1099511627776 → ∃ a, twapW q s e n = (if n ≤ s then (0, 0) else if e ≤ n then (q, 0) else (a, 0)) ∧ (s < n → n < e → a = q * (n - s) / (e - s)) ∧ 0 ≤ a ∧ a ≤ q := by
    intro n hn
    unfold twapW
    rw [if_pos (rightP_zero h1 h2 h3 hn h5)]
    by_cases k1 : n ≤ s
    · exact ⟨0, by rw [if_pos k1, if_pos k1], fun h => absurd k1 (by omega), by omega, by omega⟩
    · by_cases k2 : e ≤ n
      · exact ⟨0, by rw [if_neg k1, if_neg k1, if_pos k2, if_pos k2], fun _ h => absurd k2 (by omega), by omega, by omega⟩
      · have f := fr_cum h1.1 h1.2 (show 0 ≤ n - s by omega) (show n - s ≤ e - s by omega) (by omega)
        exact ⟨_, by rw [if_neg k1, if_neg k1, if_neg k2, if_neg k2, f.1], fun _ _ => rfl, f.2.1, f.2.2⟩
  obtain ⟨a, ea, va, a0, aq⟩ := val n h4
  obtain ⟨b, eb, vb, b0, bq⟩ := val m h4'
  rw [ea, eb]
  by_cases hk : s < n ∧ m < e
  · refine rise_of h1.1 (by omega) hnm a0 ?_ bq
    rw [va hk.1 (by omega), vb (by omega) hk.2]
    exact Int.ediv_le_ediv (by omega) (Int.mul_le_mul_of_nonneg_left (by omega) h1.1)
  · unfold Rise
    by_cases k1 : n ≤ s <;> by_cases k2 : e ≤ n <;> by_cases k3 : m ≤ s <;> by_cases k4 : e ≤ m <;> (simp only [k1, k2, k3, k4, if_true, if_false]; refine ⟨?_, ?_, ?_, ?_, ?_⟩ <;> first | trivial | omega)
theorem vwap_rise {q s e n m : Int} {l : List Int} (d : rightW l = true) (h1 : 0 ≤ q ∧ q ≤ 1099511627776) (h2 : 0 ≤ s ∧ s ≤ 1099511627776) (h3 : 0 ≤ e ∧ e ≤ 1099511627776) (h4 : 0 ≤ n ∧ n ≤ 1099511627776) (h4' : 0 ≤ m ∧ m ≤ 1099511627776) (h5 : 1 ≤ e - s ∧ e - s ≤ 1073741824) (hnm : n ≤ m) : Rise q (vwapW q l s e n) (vwapW q l s e m) := by
  have ha := all_span d h5.1 h5.2
  have hmono : q * doneN l (n - s) (e - s) / (l.sum * (e - s)) ≤ q * doneN l (m - s) (e - s) / (l.sum * (e - s)) :=
    Int.ediv_le_ediv (by omega) (Int.mul_le_mul_of_nonneg_left (qdone_mono (right_okZ d).1 (by omega) (by omega) _) h1.1)
  have val : ∀ m, 0 ≤ m ∧ m ≤ 1099511627776 → vwapW q l s e m = (if m ≤ s then (0, 0) else if e ≤ m then (q, 0) else (q * doneN l (m - s) (e - s) / (l.sum * (e - s)), 0)) := by
    intro m hm
    unfold vwapW
    rw [if_pos (rightP_zero h1 h2 h3 hm h5), if_pos d]
    by_cases k1 : m ≤ s
    · rw [if_pos k1, if_pos k1]
    · rw [if_neg k1, if_neg k1]
      by_cases k2 : e ≤ m
      · rw [if_pos k2, if_pos k2]
      · rw [if_neg k2, if_neg k2]
        unfold targetW
        rw [if_pos d, if_pos (by omega), if_pos h1]
  have vt := (target_val d (n - s) h1.1 h1.2 h5.1 h5.2).2
  have vu := (target_val d (m - s) h1.1 h1.2 h5.1 h5.2).2
  rw [val n h4, val m h4']
  exact rise_of h1.1 (by omega) hnm vt.1 hmono vu.2
theorem tgt_rise {al q st en rt sh n m v u dn dm : Int} {l : List Int} (ha2 : al = 2 → rightW l = true) (ha3 : al = 3 → 1 ≤ rt ∧ rt ≤ 10000) (ha4 : al = 4 → 1 ≤ sh ∧ sh ≤ 1099511627776)
    (h1 : 0 ≤ q ∧ q ≤ 1099511627776) (h2 : 0 ≤ st ∧ st ≤ 1099511627776) (h3 : 0 ≤ en ∧ en ≤ 1099511627776) (h4 : 0 ≤ n ∧ n ≤ 1099511627776) (h4' : 0 ≤ m ∧ m ≤ 1099511627776) (h5 : 1 ≤ en - st ∧ en - st ≤ 1073741824) (hnm : n ≤ m) (hv : 0 ≤ v) (hvu : v ≤ u) (hd : 0 ≤ dn) (hdm : dn ≤ dm) :
    Rise q (tgtS al q st en rt sh l n v dn) (tgtS al q st en rt sh l m u dm) := by
  unfold tgtS
  by_cases a2 : al = 2
  · rw [if_pos a2, if_pos a2]; exact vwap_rise (ha2 a2) h1 h2 h3 h4 h4' h5 hnm
  · rw [if_neg a2, if_neg a2]
    by_cases a3 : al = 3
    · rw [if_pos a3, if_pos a3]
      have hr := ha3 a3
      have k0 : 0 ≤ v * rt := Int.mul_nonneg hv (by omega)
      have k1 : v * rt ≤ u * rt := Int.mul_le_mul_of_nonneg_right hvu (by omega)
      unfold Rise mn
      dsimp only
      refine ⟨rfl, rfl, ?_, ?_, ?_⟩ <;> (repeat' split) <;> omega
    · rw [if_neg a3, if_neg a3]
      by_cases a4 : al = 4
      · rw [if_pos a4, if_pos a4]
        have hs := ha4 a4
        unfold Rise mn
        dsimp only
        refine ⟨rfl, rfl, ?_, ?_, ?_⟩ <;> (repeat' split) <;> omega
      · rw [if_neg a4, if_neg a4]; exact twap_rise h1 h2 h3 h4 h4' h5 hnm
/-- What a new order that is let through is like. -/
theorem fresh_open {id tg ac sy : ByteArray} {sd q p al st en rt sh : Int} {l : List Int} (h : (nameV id && freshS tg ac sy sd q p al st en rt sh l) = true) :
    (1 ≤ q ∧ q ≤ 1099511627776) ∧ (0 ≤ st ∧ st ≤ 1099511627776) ∧ (0 ≤ en ∧ en ≤ 1099511627776) ∧ (1 ≤ en - st ∧ en - st ≤ 1073741824) ∧ (al = 2 → rightW l = true) ∧ (al = 3 → 1 ≤ rt ∧ rt ≤ 10000) ∧ (al = 4 → 1 ≤ sh ∧ sh ≤ 1099511627776) := by
  unfold freshS worthB at h
  simp only [Bool.and_eq_true, decide_eq_true_eq] at h
  obtain ⟨_, ⟨⟨⟨⟨_, ⟨⟨hq, _⟩, he⟩⟩, hs⟩, hspan⟩, ha⟩⟩ := h
  refine ⟨hq, hs, he, hspan, ?_, ?_, ?_⟩
  · rintro rfl
    unfold algoS at ha
    rw [if_neg (by decide), if_pos rfl] at ha
    simp only [Bool.and_eq_true] at ha
    exact ha.1.1
  · rintro rfl
    unfold algoS at ha
    rw [if_neg (by decide), if_neg (by decide), if_pos rfl] at ha
    simp only [Bool.and_eq_true, decide_eq_true_eq] at ha
    exact ha.1.2
  · rintro rfl
    unfold algoS at ha
    rw [if_neg (by decide), if_neg (by decide), if_neg (by decide), if_pos rfl] at ha
    simp only [Bool.and_eq_true, decide_eq_true_eq] at ha
    exact ha.2
end Go.Proofs.Ytapfidpfjbacgaa.Hand
namespace Go.Proofs.Ytapfidpfjbacgaa.Hand
open Go Go.RowKit Go.Proofs.YtapfidpfjbacgaaW.PrintWords Go.Proofs.YtapfidpfjbacgaaW.PrintMore Go.Proofs.Ytapfidpfjbacgaa.RL Go.Proofs.Ytapfidpfjbacgaa.PL
def tgF (al q st en rt sh : Int) (l : List Int) (now vol dn : Int) : Int := if now < st then 0 else (tgtS al q st en rt sh l now vol dn).1
theorem tgF_rise {al q st en rt sh n m v u dn dm : Int} {l : List Int} (ha2 : al = 2 → rightW l = true) (ha3 : al = 3 → 1 ≤ rt ∧ rt ≤ 10000) (ha4 : al = 4 → 1 ≤ sh ∧ sh ≤ 1099511627776)
    (h1 : 0 ≤ q ∧ q ≤ 1099511627776) (h2 : 0 ≤ st ∧ st ≤ 1099511627776) (h3 : 0 ≤ en ∧ en ≤ 1099511627776) (h4 : 0 ≤ n ∧ n ≤ 1099511627776) (h4' : 0 ≤ m ∧ m ≤ 1099511627776) (h5 : 1 ≤ en - st ∧ en - st ≤ 1073741824) (hnm : n ≤ m) (hv : 0 ≤ v) (hvu : v ≤ u) (hd : 0 ≤ dn) (hdm : dn ≤ dm) :
    0 ≤ tgF al q st en rt sh l n v dn ∧ tgF al q st en rt sh l n v dn ≤ tgF al q st en rt sh l m u dm ∧ tgF al q st en rt sh l m u dm ≤ q := by
  obtain ⟨_, _, r0, r1, r2⟩ := tgt_rise (sh := sh) ha2 ha3 ha4 h1 h2 h3 h4 h4' h5 hnm hv hvu hd hdm
  obtain ⟨_, _, s0, s1, s2⟩ := tgt_rise (sh := sh) (dn := dm) (dm := dm) (v := u) (u := u) ha2 ha3 ha4 h1 h2 h3 h4' h4' h5 (Int.le_refl m) (by omega) (Int.le_refl u) (by omega) (Int.le_refl dm)
  unfold tgF
  by_cases c1 : n < st <;> by_cases c2 : m < st <;> simp only [c1, c2, if_true, if_false] <;> omega
theorem target_gen (g : Nat) (k sd q p al st en rt sh now vol dn : Int) (id tg ac sy : ByteArray) (cA : Option Addr) (cc : Nat) (l : List Int) (hcc : l.length ≤ cc) (f1 : 1 ≤ q ∧ q ≤ 1099511627776) (f2 : 0 ≤ st ∧ st ≤ 1099511627776) (f3 : 0 ≤ en ∧ en ≤ 1099511627776) (f4 : 1 ≤ en - st ∧ en - st ≤ 1073741824) (f5 : al = 2 → rightW l = true) (ha3 : al = 3 → 1 ≤ rt ∧ rt ≤ 10000) (ha4 : al = 4 → 1 ≤ sh ∧ sh ≤ 1099511627776)
    (hb1 : 0 ≤ now ∧ now ≤ 1099511627776) (hb2 : 0 ≤ vol ∧ vol ≤ 4611686018427387904) (hb3 : 0 ≤ dn ∧ dn ≤ q) (w : World) (hC : Kd.C (Kd.int .i64) w cA l.length l)
    (hS : Blk w g 56 (slC k sd q p al st en rt sh id tg ac sy (.slice cA l.length cc) (howV al rt sh 0 cA l.length cc) 0)) :
    Calls Try.prog 9 #[.pointer (some ⟨g, 0, none⟩), .int .i64 now, .int .i64 vol, .int .i64 dn] w fun e w' => e = .returned (.tuple #[.int .i64 (tgF al q st en rt sh l now vol dn), .int .i64 0]) ∧ Below w.heap.size w w' := by
  unfold tgF
  by_cases hlt : now < st
  · rw [if_pos hlt]
    have hh : ∃ T hv, howV al rt sh 0 cA l.length cc = .iface T hv := by unfold howV; (repeat' split) <;> exact ⟨_, _, rfl⟩
    obtain ⟨T, hv, hh⟩ := hh
    rw [hh] at hS
    exact (target_early g k sd q p al st en rt sh 0 now vol dn id tg ac sy cA l.length cc T hv hb1 hb2 hb3 hlt w hS).mono fun e w' h => ⟨h.1, h.2 ▸ Below.refl _ _⟩
  · rw [if_neg hlt]
    have hr := tgt_rise (sh := sh) (dn := dn) (dm := dn) (v := vol) (u := vol) (n := now) (m := now) f5 ha3 ha4 (show 0 ≤ q ∧ q ≤ 1099511627776 by omega) f2 f3 hb1 hb1 f4 (Int.le_refl _) hb2.1 (Int.le_refl _) hb3.1 (Int.le_refl _)
    have ht := target_walk g k sd q p al st en rt sh 0 now vol dn id tg ac sy cA cc l hcc (by omega) ha3 ha4 hb1 (Int.le_refl 0) hb2 hb3 hlt w hC hS
    rw [Int.sub_zero, hr.1] at ht
    exact ht
theorem row_cell {w : World} {b n c : Nat} {A : Option Addr} {zs : List Int} (h : Kd.R (Kd.int .i64) 3 w b (fun _ => True) (.slice A n c) zs) (hn : zs.length = n) (j : Nat) (hj : j < n) :
    ∃ ga v, A = some ⟨ga, 0, none⟩ ∧ b ≤ ga ∧ ga < w.heap.size ∧ w.cell? ⟨ga, j, none⟩ = some v ∧ w.frozen? ⟨ga, j, none⟩ = false := by
  obtain ⟨_, inner, ⟨h1, h2⟩, hr⟩ := h
  rcases h2 with ⟨_, h2⟩ | ⟨g, cap, cur, he, hg, hh, hnc, _, hs, _⟩
  · omega
  · injection he with e1 e2 e3
    have hb : Blk w g 3 cur := hh
    have hsz : (Kd.int .i64).sz = 1 := rfl
    rw [hsz, Nat.mul_one] at hs
    refine ⟨g, cur[j]'(by omega), e1, hg, hb.lt, ?_, hb.frozen j⟩
    rw [hb.cell j, Array.getElem?_eq_getElem (by omega)]
theorem R_low {w : World} {b g : Nat} {v : Value} {l : List Int} (h : Kd.R (Kd.int .i64) 3 w b (fun _ => True) v l) (hg : g < b) (k : Nat) (u : Value) : Kd.R (Kd.int .i64) 3 (w.setCell ⟨g, k, none⟩ u) b (fun _ => True) v l :=
  Kd.R_mono (Kd.R_far (p := ⟨g, k, none⟩) (Kd.R_bound h) (fun k' hk' => by have := hk'.2.1; show k' ≠ g; omega) u) (fun _ _ => trivial)
end Go.Proofs.Ytapfidpfjbacgaa.Hand
