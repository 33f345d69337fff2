/- CostSlips: what any executions cost, what was not executed, and both together, of any six numbers of 64 bits, is the document's, or refused; no condition. -/
import Derived.Test.YtbkoahipcjknfaaPl35
import Derived.Test.YtbkoahipcjknfaaCx7
import Derived.Test.YtbkoahipcjknfaaCx8
import Derived.Test.YtbkoahipcjknfaaCx9
import Derived.Test.YtbkoahipcjknfaaCx10
import Derived.Test.YtbkoahipcjknfaaCx11
import Derived.Test.YtbkoahipcjknfaaBlk
set_option linter.unusedVariables false
set_option linter.unusedSimpArgs false
namespace Go.Proofs.Ytbkoahipcjknfaa.PL
open Go Go.RowKit Go.Proofs.Ytbkoahipcjknfaa.C Go.Proofs.Ytbkoahipcjknfaa.Hand Go.Proofs.Ytbkoahipcjknfaa.RL Go.Proofs.YtbkoahipcjknfaaW.PrintWords Go.Proofs.YtbkoahipcjknfaaW.PrintMore
theorem rneg35 (a : Int) : spigotref01_Neg.f (enc a).1 (enc a).2 = some (enc (-a)) := by
  unfold spigotref01_Neg.f
  have hl := len_pos a.natAbs
  show (if decide (a < 0) = true then some (false, Bl.nbits a.natAbs) else (if ((Bl.nbits a.natAbs).length : Int) > 0 then some (true, Bl.nbits a.natAbs) else some (false, Bl.nbits a.natAbs))) = _
  unfold enc
  rw [Int.natAbs_neg]
  by_cases h : a < 0
  · rw [if_pos (by simpa using h)]; congr 2; rw [eq_comm, decide_eq_false_iff_not]; omega
  · rw [if_neg (by simpa using h)]
    by_cases h2 : 0 < a.natAbs
    · rw [if_pos (hl.2 h2)]; congr 2; rw [eq_comm, decide_eq_true_eq]; omega
    · rw [if_neg (fun q => h2 (hl.1 q))]; congr 2; rw [eq_comm, decide_eq_false_iff_not]; omega
theorem radd35 (a b : Int) (ha : small a) (hb : small b) : spigotref01_Add.f (enc a).1 (enc a).2 (enc b).1 (enc b).2 = some (enc (a + b)) := by
  unfold spigotref01_Add.f; rw [if_pos ⟨okB_enc ha, okB_enc hb⟩, dec_enc, dec_enc]
theorem rtoward_is (s n : Int) : spigotref35_toward.f s (enc n).1 (enc n).2 = some (enc (sg s n)) := by
  unfold spigotref35_toward.f sg
  by_cases hs : s = 2
  · rw [if_pos hs, if_pos hs, rneg35, Option.bind_some]
  · rw [if_neg hs, if_neg hs]
theorem small_neg {a : Int} (h : small a) : small (-a) := by unfold small at h ⊢; rwa [Int.natAbs_neg]
theorem rminus_is (a b : Int) (ha : small a) (hb : small b) : spigotref35_minus.f (enc a).1 (enc a).2 (enc b).1 (enc b).2 = some (enc (a - b)) := by
  unfold spigotref35_minus.f
  rw [rneg35, Option.bind_some, radd35 a (-b) ha (small_neg hb), Option.bind_some, Int.sub_eq_add_neg]
theorem small_mul {q p : Int} (h2 : 0 ≤ q ∧ q ≤ 1099511627776) (h4 : 0 ≤ p ∧ p ≤ 1099511627776) : small (q * p) := by
  have := mul_b h2.1 h2.2 h4.1 h4.2
  exact small_le (by omega)
theorem sg_b {s n : Int} {b : Nat} (h : n.natAbs ≤ b) : (sg s n).natAbs ≤ b := by unfold sg; split <;> omega
theorem rslip_is (s q w p : Int) (hw : in64 w) (k : Nat) (hk : 1 ≤ k) : spigotref35_Slip.f k s q w p = some (slipS s q w p) := by
  obtain ⟨k, rfl⟩ : ∃ m, k = m + 1 := ⟨k - 1, by omega⟩
  have hno : spigotref35_Slip.j0 (k + 1) s q w p true = some (0, 2) := by simp [spigotref35_Slip.j0]
  unfold spigotref35_Slip.f slipS
  simp only [side_is, cin_is, Option.bind_some]
  by_cases h1 : s = 1 ∨ s = 2
  · rw [decide_eq_true h1, if_pos rfl]
    by_cases h2 : 0 ≤ q ∧ q ≤ 1099511627776
    · rw [decide_eq_true h2, if_pos rfl]
      by_cases h3 : w < 0
      · rw [if_pos h3, hno, if_neg (by omega)]
      · rw [if_neg h3]
        by_cases h4 : 1 ≤ p ∧ p ≤ 1099511627776
        · rw [decide_eq_true h4, if_pos ⟨h1, h2, by omega, h4⟩]
          simp only [spigotref35_Slip.j0, Bool.not_true, Bool.false_eq_true, if_false]
          have iq : in64 q := by unfold in64; omega
          have ip : in64 p := by unfold in64; omega
          have sm := small_mul h2 (show 0 ≤ p ∧ p ≤ 1099511627776 by omega)
          rw [of_is q iq, Option.bind_some, of_is p ip, Option.bind_some, rmul_is q p (small64 iq) (small64 ip), Option.bind_some, int_is _ sm, Option.bind_some]
          by_cases hi : in64 (q * p)
          · have hm : 0 ≤ q * p := Int.mul_nonneg h2.1 (by omega)
            have hi2 : (w - q * p).natAbs ≤ 18446744073709551616 := by unfold in64 at *; omega
            rw [intV_in hi, if_pos rfl, if_pos hi, of_is w hw, Option.bind_some, rminus_is w _ (small64 hw) sm, Option.bind_some, rtoward_is, Option.bind_some, told_is _ (small_le (Nat.le_trans (sg_b hi2) (by omega))), Option.bind_some]
          · rw [if_neg (by rw [intV_out hi]; simp), if_neg hi]
        · rw [decide_eq_false h4, Bool.not_false, hno, if_neg (fun h => h4 h.2.2.2)]
    · rw [decide_eq_false h2, if_neg (by simp), hno, if_neg (fun h => h2 h.2.1)]
  · rw [decide_eq_false h1, if_neg (by simp), hno, if_neg (fun h => h1 h.1)]
theorem small_miss {l d : Int} (h2 : 0 ≤ l ∧ l ≤ 1099511627776) (h4 : -1099511627776 ≤ d ∧ d ≤ 1099511627776) : (l * d).natAbs ≤ 1208925819614629174706176 := by
  have h1 : l * d ≤ l * 1099511627776 := Int.mul_le_mul_of_nonneg_left h4.2 h2.1
  have h3 : l * (-1099511627776) ≤ l * d := Int.mul_le_mul_of_nonneg_left h4.1 h2.1
  omega
theorem rmiss_is (s l p t : Int) (k : Nat) (hk : 1 ≤ k) : spigotref35_Miss.f k s l p t = some (missS s l p t) := by
  obtain ⟨k, rfl⟩ : ∃ m, k = m + 1 := ⟨k - 1, by omega⟩
  have hno : spigotref35_Miss.j0 (k + 1) s l p t true = some (0, 2) := by simp [spigotref35_Miss.j0]
  unfold spigotref35_Miss.f missS
  simp only [side_is, cin_is, Option.bind_some]
  by_cases h1 : s = 1 ∨ s = 2
  · rw [decide_eq_true h1, if_pos rfl]
    by_cases h2 : 0 ≤ l ∧ l ≤ 1099511627776
    · rw [decide_eq_true h2, if_pos rfl]
      by_cases h3 : 1 ≤ p ∧ p ≤ 1099511627776
      · rw [decide_eq_true h3, if_pos rfl]
        by_cases h4 : 1 ≤ t ∧ t ≤ 1099511627776
        · rw [decide_eq_true h4, if_pos ⟨h1, h2, h3, h4⟩]
          simp only [spigotref35_Miss.j0, Bool.not_true, Bool.false_eq_true, if_false]
          have il : in64 l := by unfold in64; omega
          have id : in64 (t - p) := by unfold in64; omega
          have sb := small_miss h2 (show -1099511627776 ≤ t - p ∧ t - p ≤ 1099511627776 by omega)
          have sm : small (l * (t - p)) := small_le (by omega)
          rw [w64c (n := t - p) (by omega) (by omega), of_is l il, Option.bind_some, of_is _ id, Option.bind_some, rmul_is l _ (small64 il) (small64 id), Option.bind_some, int_is _ sm, Option.bind_some]
          by_cases hi : in64 (l * (t - p))
          · rw [intV_in hi, if_pos rfl, if_pos hi, rtoward_is, Option.bind_some, told_is _ (small_le (Nat.le_trans (sg_b sb) (by omega))), Option.bind_some]
          · rw [if_neg (by rw [intV_out hi]; simp), if_neg hi]
        · rw [decide_eq_false h4, Bool.not_false, hno, if_neg (fun h => h4 h.2.2.2)]
      · rw [decide_eq_false h3, if_neg (by simp), hno, if_neg (fun h => h3 h.2.2.1)]
    · rw [decide_eq_false h2, if_neg (by simp), hno, if_neg (fun h => h2 h.2.1)]
  · rw [decide_eq_false h1, if_neg (by simp), hno, if_neg (fun h => h1 h.1)]
theorem rshort_is (s q f w p t : Int) (hw : in64 w) (k : Nat) (hk : 2 ≤ k) : spigotref35_Shortfall.f k s q f w p t = some (shortS s q f w p t) := by
  obtain ⟨k, rfl⟩ : ∃ m, k = m + 1 := ⟨k - 1, by omega⟩
  have hno : spigotref35_Shortfall.j0 (k + 1) s q f w p t true = some (0, 2) := by simp [spigotref35_Shortfall.j0]
  unfold spigotref35_Shortfall.f shortS
  simp only [cin_is, Option.bind_some]
  by_cases h1 : 0 ≤ q ∧ q ≤ 1099511627776
  · rw [decide_eq_true h1, if_pos rfl]
    by_cases h2 : 0 ≤ f ∧ f ≤ q
    · rw [decide_eq_true h2, if_pos ⟨h1, h2⟩]
      simp only [spigotref35_Shortfall.j0, Bool.not_true, Bool.false_eq_true, if_false]
      have i1 := slip_64 s f w p
      have i2 := miss_64 s (q - f) p t
      have i3 : small ((slipS s f w p).1 + (missS s (q - f) p t).1) := small_le (by unfold in64 at i1 i2; omega)
      rw [rslip_is s f w p hw k (by omega), Option.bind_some, w64c (n := q - f) (by omega) (by omega), rmiss_is s _ p t k (by omega), Option.bind_some,
        of_is _ i1, Option.bind_some, of_is _ i2, Option.bind_some, radd35 _ _ (small64 i1) (small64 i2), Option.bind_some, told_is _ i3, Option.bind_some]
      split
      · split <;> rfl
      · rfl
    · rw [decide_eq_false h2, Bool.not_false, hno, if_neg (fun h => h2 h.2)]
  · rw [decide_eq_false h1, if_neg (by simp), hno, if_neg (fun h => h1 h.1)]
end Go.Proofs.Ytbkoahipcjknfaa.PL

set_option linter.unusedVariables false
set_option linter.unusedSimpArgs false
namespace Go.Proofs.Ytbkoahipcjknfaa.Walk
open Go Go.RowKit Go.Proofs.Ytbkoahipcjknfaa.C Go.Proofs.Ytbkoahipcjknfaa.PL Go.Proofs.Ytbkoahipcjknfaa.Hand Go.Proofs.YtbkoahipcjknfaaW.PrintWords Go.Proofs.YtbkoahipcjknfaaW.PrintMore
theorem cells6 {w : World} {g : Nat} {t : TypeId} {v0 v1 v2 v3 v4 v5 : Value} (h : Blk w g t #[v0, v1, v2, v3, v4, v5]) : w.cell? ⟨g, 0, none⟩ = some v0 ∧ w.cell? ⟨g, 1, none⟩ = some v1 ∧ w.cell? ⟨g, 2, none⟩ = some v2 ∧ w.cell? ⟨g, 3, none⟩ = some v3 ∧ w.cell? ⟨g, 4, none⟩ = some v4 ∧ w.cell? ⟨g, 5, none⟩ = some v5 := ⟨h.cell 0, h.cell 1, h.cell 2, h.cell 3, h.cell 4, h.cell 5⟩
set_option maxHeartbeats 8000000 in
set_option maxRecDepth 100000 in
theorem slips_walk (s q f w p t slip1 slip2 miss1 miss2 short1 short2 : Int) (W : World)
    (ha : ∀ w0, Calls Try.prog 32 #[] w0 fun e w' => e = .returned (.bool true) ∧ Below w0.heap.size w0 w')
    (h0 : ∀ w0, Calls Try.prog 33 #[.int .i64 s, .int .i64 f, .int .i64 w, .int .i64 p] w0 fun e w' => e = .returned (.tuple #[.int .i64 slip1, .int .i64 slip2]) ∧ Below w0.heap.size w0 w')
    (h1 : ∀ w0, Calls Try.prog 34 #[.int .i64 s, .int .i64 q, .int .i64 p, .int .i64 t] w0 fun e w' => e = .returned (.tuple #[.int .i64 miss1, .int .i64 miss2]) ∧ Below w0.heap.size w0 w')
    (h2 : ∀ w0, Calls Try.prog 35 #[.int .i64 s, .int .i64 q, .int .i64 f, .int .i64 w, .int .i64 p, .int .i64 t] w0 fun e w' => e = .returned (.tuple #[.int .i64 short1, .int .i64 short2]) ∧ Below w0.heap.size w0 w')
    (h3 : ∀ w0, Calls Try.prog 36 #[.int .i64 s, .int .i64 f, .int .i64 w, .int .i64 p] w0 fun e w' => e = .returned (.tuple #[.int .i64 slip1, .int .i64 slip2]) ∧ Below w0.heap.size w0 w')
    (h4 : ∀ w0, Calls Try.prog 37 #[.int .i64 s, .int .i64 q, .int .i64 p, .int .i64 t] w0 fun e w' => e = .returned (.tuple #[.int .i64 miss1, .int .i64 miss2]) ∧ Below w0.heap.size w0 w')
    (h5 : ∀ w0, Calls Try.prog 38 #[.int .i64 s, .int .i64 q, .int .i64 f, .int .i64 w, .int .i64 p, .int .i64 t] w0 fun e w' => e = .returned (.tuple #[.int .i64 short1, .int .i64 short2]) ∧ Below w0.heap.size w0 w') :
    Calls Try.prog 9 #[.agg #[.int .i64 s, .int .i64 q, .int .i64 f, .int .i64 w, .int .i64 p, .int .i64 t]] W fun e W' => e = .returned (.bool true) ∧ Below W.heap.size W W' := by
  have Ha := Lib.hid ha
  have H0 := Lib.hid h0
  have H1 := Lib.hid h1
  have H2 := Lib.hid h2
  have H3 := Lib.hid h3
  have H4 := Lib.hid h4
  have H5 := Lib.hid h5
  clear ha h0 h1 h2 h3 h4 h5
  have b0 := Blk.new W 55 #[.int .i64 s, .int .i64 q, .int .i64 f, .int .i64 w, .int .i64 p, .int .i64 t]
  have B0 := (Below.refl W.heap.size W).alloc (Nat.le_refl _) (.cells #[.int .i64 s, .int .i64 q, .int .i64 f, .int .i64 w, .int .i64 p, .int .i64 t] 55)
  have Hb0 := Lib.hid b0
  clear b0
  go_enter Try.func9, Try.ntmps9
  go_wp2_with fail
  refine (Ha.out _).mono ?_
  rintro e w1 ⟨rfl, hb1⟩
  have b1 := Hb0.out.below hb1 Hb0.out.lt
  have B1 := bt B0 hb1
  obtain ⟨f0, f1, f2, f3, f4, f5⟩ := cells6 b1
  have Hb1 := Lib.hid b1
  clear b1 Hb0 B0 hb1
  go_wp2_with fail
  refine (H0.out _).mono ?_
  rintro e w2 ⟨rfl, hb2⟩
  have b2 := Hb1.out.below hb2 Hb1.out.lt
  have B2 := bt B1 hb2
  clear f0 f1 f2 f3 f4 f5
  obtain ⟨f0, f1, f2, f3, f4, f5⟩ := cells6 b2
  have Hb2 := Lib.hid b2
  clear b2 Hb1 B1 hb2
  go_wp2_with fail
  refine (H1.out _).mono ?_
  rintro e w3 ⟨rfl, hb3⟩
  have b3 := Hb2.out.below hb3 Hb2.out.lt
  have B3 := bt B2 hb3
  clear f0 f1 f2 f3 f4 f5
  obtain ⟨f0, f1, f2, f3, f4, f5⟩ := cells6 b3
  have Hb3 := Lib.hid b3
  clear b3 Hb2 B2 hb3
  go_wp2_with fail
  refine (H2.out _).mono ?_
  rintro e w4 ⟨rfl, hb4⟩
  have b4 := Hb3.out.below hb4 Hb3.out.lt
  have B4 := bt B3 hb4
  clear f0 f1 f2 f3 f4 f5
  obtain ⟨f0, f1, f2, f3, f4, f5⟩ := cells6 b4
  have Hb4 := Lib.hid b4
  clear b4 Hb3 B3 hb4
  go_wp2_with fail
  refine (H3.out _).mono ?_
  rintro e w5 ⟨rfl, hb5⟩
  have b5 := Hb4.out.below hb5 Hb4.out.lt
  have B5 := bt B4 hb5
  clear f0 f1 f2 f3 f4 f5
  obtain ⟨f0, f1, f2, f3, f4, f5⟩ := cells6 b5
  have Hb5 := Lib.hid b5
  clear b5 Hb4 B4 hb5
  go_wp2_with fail
  refine (H4.out _).mono ?_
  rintro e w6 ⟨rfl, hb6⟩
  have b6 := Hb5.out.below hb6 Hb5.out.lt
  have B6 := bt B5 hb6
  clear f0 f1 f2 f3 f4 f5
  obtain ⟨f0, f1, f2, f3, f4, f5⟩ := cells6 b6
  have Hb6 := Lib.hid b6
  clear b6 Hb5 B5 hb6
  go_wp2_with fail
  refine (H5.out _).mono ?_
  rintro e w7 ⟨rfl, hb7⟩
  have b7 := Hb6.out.below hb7 Hb6.out.lt
  have B7 := bt B6 hb7
  clear f0 f1 f2 f3 f4 f5
  obtain ⟨f0, f1, f2, f3, f4, f5⟩ := cells6 b7
  have Hb7 := Lib.hid b7
  clear b7 Hb6 B6 hb7
  go_wp2_with fail
  go_ret
  exact ⟨rfl, B7⟩
theorem CostSlips (a0_0 : Int) (a0_1 : Int) (a0_2 : Int) (a0_3 : Int) (a0_4 : Int) (a0_5 : Int) (W : World) (w0_0 : (Lit.int .i64 a0_0).wf = true) (w0_1 : (Lit.int .i64 a0_1).wf = true) (w0_2 : (Lit.int .i64 a0_2).wf = true) (w0_3 : (Lit.int .i64 a0_3).wf = true) (w0_4 : (Lit.int .i64 a0_4).wf = true) (w0_5 : (Lit.int .i64 a0_5).wf = true) :
    Calls Try.prog 9 #[.agg #[.int .i64 a0_0, .int .i64 a0_1, .int .i64 a0_2, .int .i64 a0_3, .int .i64 a0_4, .int .i64 a0_5]] W fun e W' => e = .returned (.bool true) ∧ Below W.heap.size W W' :=
  slips_walk a0_0 a0_1 a0_2 a0_3 a0_4 a0_5 (slipS a0_0 a0_2 a0_3 a0_4).1 (slipS a0_0 a0_2 a0_3 a0_4).2 (missS a0_0 a0_1 a0_4 a0_5).1 (missS a0_0 a0_1 a0_4 a0_5).2 (shortS a0_0 a0_1 a0_2 a0_3 a0_4 a0_5).1 (shortS a0_0 a0_1 a0_2 a0_3 a0_4 a0_5).2 W
    (fun w0 => spigotlaw35_awake.calls 2 true w0 (awake35 2 (by omega)))
    (fun w0 => cost_Slip.calls 2 _ _ _ _ _ _ w0 (slip_is _ _ _ _ (in64_wf w0_3) 2 (by omega)))
    (fun w0 => cost_Miss.calls 2 _ _ _ _ _ _ w0 (miss_is _ _ _ _ 2 (by omega)))
    (fun w0 => cost_Shortfall.calls 2 _ _ _ _ _ _ _ _ w0 (short_is _ _ _ _ _ _ (in64_wf w0_3) 2 (by omega)))
    (fun w0 => spigotref35_Slip.calls 2 _ _ _ _ _ _ w0 (rslip_is _ _ _ _ (in64_wf w0_3) 2 (by omega)))
    (fun w0 => spigotref35_Miss.calls 2 _ _ _ _ _ _ w0 (rmiss_is _ _ _ _ 2 (by omega)))
    (fun w0 => spigotref35_Shortfall.calls 2 _ _ _ _ _ _ _ _ w0 (rshort_is _ _ _ _ _ _ (in64_wf w0_3) 2 (by omega)))
end Go.Proofs.Ytbkoahipcjknfaa.Walk
