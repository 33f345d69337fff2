/- Texts laid together by join.py: Al1 Al2 Al3 Al4 Al5 Al6. -/
import Derived.Test.YtknmojjccfhchaaPl
import Derived.Test.YtknmojjccfhchaaHandI
import Derived.Test.YtknmojjccfhchaaBlk
import Derived.Test.YtknmojjccfhchaaUx1
import Derived.Laws.MakeOwn
import Derived.Laws.OwnMore
import Derived.LoopTactic
import Derived.BigRegion
import Derived.Outline
import Derived.Test.YtknmojjccfhchaaChk
import Derived.Deep.QuietTactic
import Derived.BigQuiet
/- allot: the sum of what is asked for, Check, walked. -/
set_option linter.unusedVariables false
set_option linter.unusedSimpArgs false
namespace Go.Proofs.Ytknmojjccfhchaa.Hand
open Go Go.RowKit Go.Proofs.YtknmojjccfhchaaW.PrintWords Go.Proofs.YtknmojjccfhchaaW.PrintMore Go.Proofs.Ytknmojjccfhchaa.RL Go.Proofs.Ytknmojjccfhchaa.PL
abbrev Shr := U.S42
abbrev kS : Kd Shr := U.k42
def sumA (l : List Shr) : Int := (l.map (·.f0)).sum
def okA (x : Shr) : Prop := 0 ≤ x.f0 ∧ x.f0 ≤ 1099511627776
theorem sumA_take (l : List Shr) (j : Nat) (h : j < l.length) : sumA (l.take (j + 1)) = sumA (l.take j) + (U.rd_T42 l (j : Int)).f0 := by
  unfold sumA U.rd_T42
  rw [List.take_add_one, List.map_append, List.sum_append, Int.toNat_natCast, List.getD_eq_getElem?_getD, List.getElem?_eq_getElem h]
  simp
theorem sumA_b (l : List Shr) (hb : ∀ x ∈ l, okA x) : 0 ≤ sumA l ∧ sumA l ≤ l.length * 1099511627776 := by
  induction l with
  | nil => simp [sumA]
  | cons x l ih =>
    have h1 := hb x (by simp)
    have h2 := ih (fun y hy => hb y (by simp [hy]))
    unfold okA at h1
    unfold sumA at *
    simp only [List.map_cons, List.sum_cons, List.length_cons]
    omega
theorem ask_calls (x : Shr) (w : World) : Calls Try.prog 28 #[.agg #[.int .i64 x.f0, .int .i64 x.f1, .int .i64 x.f2]] w fun e w' => e = .returned (.int .i64 x.f0) ∧ Below w.heap.size w w' := by
  go_enter Try.func28, Try.ntmps28
  go_wp2_with fail
  go_ret
  exact ⟨rfl, by first | exact Below.refl _ _ | exact (Below.refl _ _).alloc (Nat.le_refl _) _⟩
set_option maxHeartbeats 4000000 in
set_option maxRecDepth 100000 in
theorem total_walk (A : Option Addr) (c : Nat) (l : List Shr) (hm : l.length ≤ 64) (hb : ∀ x ∈ l, okA x) (w : World) (hl : Kd.C kS w A l.length l) :
    Calls Try.prog 27 #[.slice A l.length c, .func (.func 28) #[] #[]] w fun e w' => e = .returned (.int .i64 (sumA l)) ∧ Below w.heap.size w w' := by
  have hrd : ∀ w' (j : Nat), Below w.heap.size w w' → j < l.length → ∃ ad, A = some ad ∧ w'.cell? (ad.add (j * 3)) = some (.int .i64 (U.rd_T42 l j).f0) ∧ w'.cell? ⟨(ad.add (j * 3)).block, (ad.add (j * 3)).off + 1, none⟩ = some (.int .i64 (U.rd_T42 l j).f1) ∧ w'.cell? ⟨(ad.add (j * 3)).block, (ad.add (j * 3)).off + 2, none⟩ = some (.int .i64 (U.rd_T42 l j).f2) := fun w' j hbw hj => by
    have := U.at_T42 (Kd.C_below hl hbw) (j : Int) (by omega) (by omega)
    rwa [Int.toNat_natCast] at this
  have hsum : ∀ j : Nat, j < l.length → sumA (l.take (j + 1)) = sumA (l.take j) + (U.rd_T42 l (j : Int)).f0 ∧ 0 ≤ sumA (l.take j) ∧ sumA (l.take j) ≤ 70368744177664 ∧ 0 ≤ (U.rd_T42 l (j : Int)).f0 ∧ (U.rd_T42 l (j : Int)).f0 ≤ 1099511627776 := fun j hj => by
    have h1 := sumA_b (l.take j) (fun x hx => hb x (List.mem_of_mem_take hx))
    have h2 : okA (U.rd_T42 l (j : Int)) := by
      unfold U.rd_T42
      rw [Int.toNat_natCast, List.getD_eq_getElem?_getD, List.getElem?_eq_getElem hj]
      exact hb _ (List.getElem_mem hj)
    have h3 : (l.take j).length ≤ 64 := by rw [List.length_take]; omega
    unfold okA at h2
    exact ⟨sumA_take l j hj, h1.1, by omega, h2.1, h2.2⟩
  have hend : sumA l = sumA (l.take l.length) := by rw [List.take_length]
  have HR := Lib.hid hrd; have HS := Lib.hid hsum; have HE := Lib.hid hend
  have hz : sumA (l.take 0) = 0 := rfl
  clear hrd hsum hl hend
  go_enter Try.func27, Try.ntmps27
  go_wp2_with fail
  go_loopw [5, 10] (fun s i wr => ∃ j : Nat, j ≤ l.length ∧ s = .int .i64 (sumA (l.take j)) ∧ i = .int .i64 j ∧ Below w.heap.size w wr) (fun _ i _ => l.length - (intOf i).toNat)
  case atStart => exact ⟨0, Nat.zero_le _, by rw [hz], rfl, Below.refl _ _⟩
  case round =>
    obtain ⟨j, hj, rfl, rfl, hB⟩ := hrel
    by_cases hlt : j < l.length
    · obtain ⟨ad, rfl, c0, c1, c2⟩ := HR.out wr j hB hlt
      obtain ⟨s1, s2, s3, s4, s5⟩ := HS.out j hlt
      have hA := fun w => ask_calls (U.rd_T42 l (j : Int)) w
      generalize U.rd_T42 l (j : Int) = X at *
      obtain ⟨x0, x1, x2⟩ := X
      dsimp only at *
      generalize sumA (l.take j) = s at *
      have HA := Lib.hid hA
      have hN := Lib.hid s1
      clear HR HS HE hz hA s1
      have hB2 := hB.alloc hB.size (.cells #[.int .i64 x0, .int .i64 x1, .int .i64 x2] 42)
      go_wp2_with (go_at_call 28; (with_reducible refine (HA.out _).mono ?_); rintro e wa ⟨rfl, hb1⟩)
      go_roundw
      case rel => exact ⟨j + 1, by omega, by rw [hN.out], by go_num, bt hB2 hb1⟩
      case measure => simp only [intOf]; omega
    · obtain rfl : j = l.length := by omega
      have he := HE.out
      clear HR HS HE
      go_wp2_with fail
      go_ret
      exact ⟨congrArg (fun x => Ending.returned (.int .i64 x)) he.symm, hB⟩
theorem lwithin_walk (n lo hi : Int) (w : World) : Calls Try.prog 23 #[.int .i64 n, .int .i64 lo, .int .i64 hi] w fun e w' => e = .returned (.bool (decide (lo ≤ n ∧ n ≤ hi))) ∧ w' = w := by
  by_cases h : lo ≤ n
  · go_enter Try.func23, Try.ntmps23
    go_wp2_with fail
    go_ret
    exact ⟨by simp [h], rfl⟩
  · go_enter Try.func23, Try.ntmps23
    go_wp2_with fail
    go_ret
    exact ⟨by simp; omega, rfl⟩
/-- May a share be? -/
def okShr (x : Shr) : Bool := decide (0 ≤ x.f0 ∧ x.f0 ≤ 1099511627776) && decide (0 ≤ x.f1 ∧ x.f1 ≤ x.f0) && decide (1 ≤ x.f2 ∧ x.f2 ≤ 1099511627776)
/-- May shares be? -/
def checkS (l : List Shr) : Bool := decide (1 ≤ l.length ∧ l.length ≤ 64) && (l.all okShr && !decide (sumA l = 0))
theorem okShr_A {x : Shr} (h : okShr x = true) : okA x := by
  unfold okShr at h
  simp only [Bool.and_eq_true, decide_eq_true_eq] at h
  exact h.1.1
theorem rd_all {l : List Shr} (h : l.all okShr = true) (j : Nat) (hj : j < l.length) : okShr (U.rd_T42 l (j : Int)) = true := by
  unfold U.rd_T42
  rw [Int.toNat_natCast, List.getD_eq_getElem?_getD, List.getElem?_eq_getElem hj]
  exact List.all_eq_true.1 h _ (List.getElem_mem hj)
theorem rd_no {l : List Shr} (j : Nat) (hj : j < l.length) (h : okShr (U.rd_T42 l (j : Int)) = false) : l.all okShr = false := by
  rw [Bool.eq_false_iff]
  intro ha
  rw [rd_all ha j hj] at h; cases h
theorem rd_yes {l : List Shr} (h : ∀ j : Nat, j < l.length → okShr (U.rd_T42 l (j : Int)) = true) : l.all okShr = true := by
  rw [List.all_eq_true]
  intro x hx
  obtain ⟨j, hj, rfl⟩ := List.getElem_of_mem hx
  have := h j hj
  unfold U.rd_T42 at this
  rwa [Int.toNat_natCast, List.getD_eq_getElem?_getD, List.getElem?_eq_getElem hj] at this
set_option maxHeartbeats 4000000 in
set_option maxRecDepth 100000 in
theorem check_walk (A : Option Addr) (c : Nat) (l : List Shr) (w : World) (hl : Kd.C kS w A l.length l) :
    Calls Try.prog 12 #[.slice A l.length c] w fun e w' => e = .returned (.int .i64 (if checkS l = true then 0 else 2)) ∧ Below w.heap.size w w' := by
  obtain ⟨v, hv⟩ : ∃ v : Int, v = (if checkS l = true then 0 else 2) := ⟨_, rfl⟩
  rw [← hv]
  have hlen : ¬ (1 ≤ l.length ∧ l.length ≤ 64) → v = 2 := fun h => by rw [hv]; unfold checkS; rw [decide_eq_false h]; rfl
  have hmn := Kd.C_max hl
  by_cases h64 : 1 ≤ l.length ∧ l.length ≤ 64
  · have hno : l.all okShr = false → v = 2 := fun h => by rw [hv]; unfold checkS; rw [h, Bool.false_and, Bool.and_false]; rfl
    have hye : l.all okShr = true → v = (if sumA l = 0 then 2 else 0) := fun h => by
      rw [hv]; unfold checkS; rw [h, decide_eq_true h64]
      by_cases hs : sumA l = 0
      · rw [if_pos hs, decide_eq_true hs]; rfl
      · rw [if_neg hs, decide_eq_false hs]; rfl
    have hrd : ∀ w' (j : Nat), Below w.heap.size w w' → j < l.length → ∃ ad, A = some ad ∧ w'.cell? (ad.add (j * 3)) = some (.int .i64 (U.rd_T42 l j).f0) ∧ w'.cell? ⟨(ad.add (j * 3)).block, (ad.add (j * 3)).off + 1, none⟩ = some (.int .i64 (U.rd_T42 l j).f1) ∧ w'.cell? ⟨(ad.add (j * 3)).block, (ad.add (j * 3)).off + 2, none⟩ = some (.int .i64 (U.rd_T42 l j).f2) := fun w' j hbw hj => by
      have := U.at_T42 (Kd.C_below hl hbw) (j : Int) (by omega) (by omega)
      rwa [Int.toNat_natCast] at this
    have htot : l.all okShr = true → ∀ w', Below w.heap.size w w' → Calls Try.prog 27 #[.slice A l.length c, .func (.func 28) #[] #[]] w' fun e w'' => e = .returned (.int .i64 (sumA l)) ∧ Below w'.heap.size w' w'' := fun h w' hb => total_walk A c l h64.2 (fun x hx => okShr_A (List.all_eq_true.1 h x hx)) w' (Kd.C_below hl hb)
    have hnj : ∀ j : Nat, j < l.length → okShr (U.rd_T42 l (j : Int)) = false → v = 2 := fun j hj h => hno (rd_no j hj h)
    have hyj : (∀ j : Nat, j < l.length → okShr (U.rd_T42 l (j : Int)) = true) → l.all okShr = true := rd_yes
    have w0 := fun w => lwithin_walk (l.length : Int) 1 64 w
    rw [decide_eq_true (show (1 : Int) ≤ (l.length : Int) ∧ (l.length : Int) ≤ 64 by omega)] at w0
    have HR := Lib.hid hrd; have HT := Lib.hid htot; have HN := Lib.hid hnj; have HY := Lib.hid hyj; have HE := Lib.hid hye; have HW := Lib.hid w0
    clear hrd htot hnj hyj hye hno w0 hlen hv hl
    go_enter Try.func12, Try.ntmps12
    go_wp2_with (go_at_call 23; (with_reducible refine (HW.out _).mono ?_); rintro e wa ⟨rfl, hwa⟩; replace hwa := hwa.symm; subst hwa)
    go_loopw [11] (fun i wr => ∃ j : Nat, j ≤ l.length ∧ i = .int .i64 j ∧ Below w.heap.size w wr ∧ Hid (∀ m : Nat, m < j → okShr (U.rd_T42 l (m : Int)) = true)) (fun i _ => l.length - (intOf i).toNat)
    case atStart => exact ⟨0, Nat.zero_le _, rfl, Below.refl _ _, Lib.hid fun m hm => absurd hm (Nat.not_lt_zero _)⟩
    case round =>
      obtain ⟨j, hj, rfl, hB, HI⟩ := hrel
      by_cases hlt : j < l.length
      · obtain ⟨ad, rfl, c0, c1, c2⟩ := HR.out wr j hB hlt
        have hF := HN.out j hlt
        have hT : okShr (U.rd_T42 l (j : Int)) = true → ∀ m : Nat, m < j + 1 → okShr (U.rd_T42 l (m : Int)) = true := by
          intro h m hm
          by_cases he : m = j
          · rw [he]; exact h
          · exact HI.out m (by omega)
        unfold okShr at hF
        have hT2 : (decide (0 ≤ (U.rd_T42 l (j : Int)).f0 ∧ (U.rd_T42 l (j : Int)).f0 ≤ 1099511627776) && decide (0 ≤ (U.rd_T42 l (j : Int)).f1 ∧ (U.rd_T42 l (j : Int)).f1 ≤ (U.rd_T42 l (j : Int)).f0) && decide (1 ≤ (U.rd_T42 l (j : Int)).f2 ∧ (U.rd_T42 l (j : Int)).f2 ≤ 1099511627776)) = true → ∀ m : Nat, m < j + 1 → okShr (U.rd_T42 l (m : Int)) = true := hT
        have i1 := fun w => lwithin_walk (U.rd_T42 l (j : Int)).f0 0 1099511627776 w
        have i2 := fun w => lwithin_walk (U.rd_T42 l (j : Int)).f1 0 (U.rd_T42 l (j : Int)).f0 w
        have i3 := fun w => lwithin_walk (U.rd_T42 l (j : Int)).f2 1 1099511627776 w
        have HT2 := Lib.hid hT2
        clear hT hT2 HI HN HY HE HT HW HR
        generalize decide (0 ≤ (U.rd_T42 l (j : Int)).f0 ∧ (U.rd_T42 l (j : Int)).f0 ≤ 1099511627776) = d1 at *
        generalize decide (0 ≤ (U.rd_T42 l (j : Int)).f1 ∧ (U.rd_T42 l (j : Int)).f1 ≤ (U.rd_T42 l (j : Int)).f0) = d2 at *
        generalize decide (1 ≤ (U.rd_T42 l (j : Int)).f2 ∧ (U.rd_T42 l (j : Int)).f2 ≤ 1099511627776) = d3 at *
        generalize (U.rd_T42 l (j : Int)).f0 = x0 at *
        generalize (U.rd_T42 l (j : Int)).f1 = x1 at *
        generalize (U.rd_T42 l (j : Int)).f2 = x2 at *
        have I1 := Lib.hid i1; have I2 := Lib.hid i2; have I3 := Lib.hid i3
        have HF := Lib.hid hF
        clear i1 i2 i3 hF
        have hB2 := hB.alloc hB.size (.cells #[.int .i64 x0, .int .i64 x1, .int .i64 x2] 42)
        have hq : d1 = false ∨ (d1 = true ∧ d2 = false) ∨ (d1 = true ∧ d2 = true ∧ d3 = false) ∨ (d1 = true ∧ d2 = true ∧ d3 = true) := by cases d1 <;> cases d2 <;> cases d3 <;> simp
        rcases hq with rfl | ⟨rfl, rfl⟩ | ⟨rfl, rfl, rfl⟩ | ⟨rfl, rfl, rfl⟩
        · have hv := HF.out rfl
          go_wp2_with (go_at_call 23; first | ((with_reducible refine (I1.out _).mono ?_); rintro e wa ⟨rfl, rfl⟩) | ((with_reducible refine (I2.out _).mono ?_); rintro e wb ⟨rfl, rfl⟩) | ((with_reducible refine (I3.out _).mono ?_); rintro e wc ⟨rfl, rfl⟩))
          go_ret
          exact ⟨by subst hv; rfl, hB2⟩
        · have hv := HF.out rfl
          go_wp2_with (go_at_call 23; first | ((with_reducible refine (I1.out _).mono ?_); rintro e wa ⟨rfl, rfl⟩) | ((with_reducible refine (I2.out _).mono ?_); rintro e wb ⟨rfl, rfl⟩) | ((with_reducible refine (I3.out _).mono ?_); rintro e wc ⟨rfl, rfl⟩))
          go_ret
          exact ⟨by subst hv; rfl, hB2⟩
        · have hv := HF.out rfl
          go_wp2_with (go_at_call 23; first | ((with_reducible refine (I1.out _).mono ?_); rintro e wa ⟨rfl, rfl⟩) | ((with_reducible refine (I2.out _).mono ?_); rintro e wb ⟨rfl, rfl⟩) | ((with_reducible refine (I3.out _).mono ?_); rintro e wc ⟨rfl, rfl⟩))
          go_ret
          exact ⟨by subst hv; rfl, hB2⟩
        · have hn := Lib.hid (HT2.out rfl)
          clear HT2 HF
          go_wp2_with (go_at_call 23; first | ((with_reducible refine (I1.out _).mono ?_); rintro e wa ⟨rfl, rfl⟩) | ((with_reducible refine (I2.out _).mono ?_); rintro e wb ⟨rfl, rfl⟩) | ((with_reducible refine (I3.out _).mono ?_); rintro e wc ⟨rfl, rfl⟩))
          go_roundw
          case rel => exact ⟨j + 1, by omega, by go_num, hB2, hn⟩
          case measure => simp only [intOf]; omega
      · have hall := HY.out (fun m hm => HI.out m (by omega))
        have hv := HE.out hall
        have ht := HT.out hall
        generalize sumA l = s at *
        have HT2 := Lib.hid ht
        clear HR HT HN HY HE HW HI hall ht
        by_cases hs : s = 0
        · rw [if_pos hs] at hv
          subst hs
          go_wp2_with (go_at_call 27; (with_reducible refine (HT2.out _ hB).mono ?_); rintro e wt ⟨rfl, hb⟩)
          go_ret
          exact ⟨by subst hv; rfl, bt hB hb⟩
        · rw [if_neg hs] at hv
          have hsb : (s == 0) = false := beq_eq_false_iff_ne.2 hs
          go_wp2_with (go_at_call 27; (with_reducible refine (HT2.out _ hB).mono ?_); rintro e wt ⟨rfl, hb⟩)
          go_ret
          exact ⟨by subst hv; rfl, bt hB hb⟩
  · have hv := hlen h64
    have w0 := fun w => lwithin_walk (l.length : Int) 1 64 w
    rw [decide_eq_false (show ¬ ((1 : Int) ≤ (l.length : Int) ∧ (l.length : Int) ≤ 64) by omega)] at w0
    have HW := Lib.hid w0
    clear w0 hlen hl
    go_enter Try.func12, Try.ntmps12
    go_wp2_with (go_at_call 23; (with_reducible refine (HW.out _).mono ?_); rintro e wa ⟨rfl, rfl⟩)
    go_ret
    exact ⟨by subst hv; rfl, Below.refl _ _⟩
end Go.Proofs.Ytknmojjccfhchaa.Hand

/- allot: who is behind whom, who may have more; walked. -/
set_option linter.unusedVariables false
set_option linter.unusedSimpArgs false
namespace Go.Proofs.Ytknmojjccfhchaa.Hand
open Go Go.RowKit Go.Proofs.YtknmojjccfhchaaW.PrintWords Go.Proofs.YtknmojjccfhchaaW.PrintMore Go.Proofs.Ytknmojjccfhchaa.RL Go.Proofs.Ytknmojjccfhchaa.PL
theorem mul64_c (a b : Int) (ha0 : 0 ≤ a) (ha : a ≤ 18446744073709551615) (hb0 : 0 ≤ b) (hb : b ≤ 18446744073709551615) (w : World) : Calls Try.prog 71 #[.int .u64 a, .int .u64 b] w fun e w' => e = .returned (.tuple #[.int .u64 (pHi a b), .int .u64 (pLo a b)]) ∧ w' = w := by
  obtain ⟨a, rfl⟩ := Int.eq_ofNat_of_zero_le ha0
  obtain ⟨b, rfl⟩ := Int.eq_ofNat_of_zero_le hb0
  have := Try.bits_Mul64 a b (by omega) (by omega) w
  have e1 : ((a * b / 18446744073709551616 : Nat) : Int) = pHi a b := by unfold pHi; omega
  have e2 : ((a * b % 18446744073709551616 : Nat) : Int) = pLo a b := by unfold pLo; omega
  rw [e1, e2] at this
  exact this
theorem u64_in {a : Int} (h0 : 0 ≤ a) (h1 : a ≤ 18446744073709551615) : IntKind.u64.wrap a = a := by rw [IntKind.wrap_u64]; omega
set_option maxHeartbeats 800000 in
theorem wide_walk (a b c d : Int) (a0 : 0 ≤ a) (a1 : a ≤ 9223372036854775807) (b0 : 0 ≤ b) (b1 : b ≤ 9223372036854775807) (c0 : 0 ≤ c) (c1 : c ≤ 9223372036854775807) (d0 : 0 ≤ d) (d1 : d ≤ 9223372036854775807) (hs : a * b + c * d < 340282366920938463463374607431768211456) (w : World) :
    Calls Try.prog 62 #[.int .i64 a, .int .i64 b, .int .i64 c, .int .i64 d] w fun e w' => e = .returned (.agg #[.int .u64 ((a * b + c * d) / 18446744073709551616), .int .u64 ((a * b + c * d) % 18446744073709551616)]) ∧ Below w.heap.size w w' := by
  have wa := u64_in a0 (by omega); have wb := u64_in b0 (by omega); have wc := u64_in c0 (by omega); have wd := u64_in d0 (by omega)
  have m1 := fun w => mul64_c a b a0 (by omega) b0 (by omega) w
  have m2 := fun w => mul64_c c d c0 (by omega) d0 (by omega) w
  have l1 := pLo_b a b; have l2 := pLo_b c d
  have e1 := halves a b; have e2 := halves c d
  have h1 := pHi_b a0 (show a ≤ 18446744073709551615 by omega) b0 (show b ≤ 18446744073709551615 by omega)
  have h2 := pHi_b c0 (show c ≤ 18446744073709551615 by omega) d0 (show d ≤ 18446744073709551615 by omega)
  have p0 : 0 ≤ a * b := Int.mul_nonneg a0 b0
  have p1 : 0 ≤ c * d := Int.mul_nonneg c0 d0
  generalize pHi a b = h at *
  generalize pLo a b = l at *
  generalize pHi c d = i at *
  generalize pLo c d = m at *
  have ad1 := fun w => run_add l m 0 l1.1 l2.1 (by omega) (by omega) w
  rw [Int.add_zero] at ad1
  have ad2 := fun w => run_add h i ((l + m) / 18446744073709551616) h1.1 h2.1 (by omega) (by omega) w
  have s1 : (h + i + (l + m) / 18446744073709551616) % 18446744073709551616 = (a * b + c * d) / 18446744073709551616 := by
    rw [← e1, ← e2] at hs ⊢; omega
  have s2 : (l + m) % 18446744073709551616 = (a * b + c * d) % 18446744073709551616 := by rw [← e1, ← e2]; omega
  rw [s1] at ad2
  rw [s2] at ad1
  generalize (l + m) / 18446744073709551616 = cy at *
  generalize (a * b + c * d) / 18446744073709551616 = r1 at *
  generalize (a * b + c * d) % 18446744073709551616 = r2 at *
  have M1 := Lib.hid m1; have M2 := Lib.hid m2
  clear m1 m2 e1 e2 s1 s2 hs h1 h2 l1 l2 p0 p1 a0 a1 b0 b1 c0 c1 d0 d1
  go_enter Try.func62, Try.ntmps62
  go_wp2_with (first | (go_at_call 71; first | ((with_reducible refine (M1.out _).mono ?_); rintro e w1 ⟨rfl, rfl⟩) | ((with_reducible refine (M2.out _).mono ?_); rintro e w2 ⟨rfl, rfl⟩)) | (simp only [ad1, ad2]; done) | simp only [ad1] | simp only [ad2])
  exact bodyPost_ret (v := .agg #[.int .u64 r1, .int .u64 r2]) (by simp [results, Try.results62, go_sem]) rfl ⟨rfl, (Below.refl _ _).alloc (Nat.le_refl _) _⟩
theorem pless_is (x y : Int) (hx : 0 ≤ x) (hy : 0 ≤ y) : U.allot_pair_less.f (x / 18446744073709551616) (x % 18446744073709551616) (y / 18446744073709551616) (y % 18446744073709551616) = some (decide (x < y)) := by
  unfold U.allot_pair_less.f
  by_cases h1 : x / 18446744073709551616 < y / 18446744073709551616
  · rw [if_pos h1, decide_eq_true (by omega)]
  · rw [if_neg h1]
    by_cases h2 : x / 18446744073709551616 = y / 18446744073709551616
    · rw [if_pos h2, decide_eq_decide.2 (show x % 18446744073709551616 < y % 18446744073709551616 ↔ x < y by omega)]
    · rw [if_neg h2, decide_eq_false (by omega)]
/-- What is shared out in lots, in memory. -/
structure Pot (w : World) (g gg : Nat) (q all left : Int) (A : Option Addr) (c : Nat) (l : List Shr) (G : List Int) : Prop where
  P : Blk w g 61 #[.int .i64 q, .int .i64 all, .int .i64 left, .slice A l.length c, .slice (some ⟨gg, 0, none⟩) l.length l.length]
  R : Blk w gg 3 (ints G)
  L : Kd.C kS w A l.length l
  n : G.length = l.length
theorem Pot.on {w w' : World} {g gg : Nat} {q all left : Int} {A : Option Addr} {c : Nat} {l : List Shr} {G : List Int} (h : Pot w g gg q all left A c l G) (hb : Below w.heap.size w w') : Pot w' g gg q all left A c l G :=
  ⟨h.P.below hb h.P.lt, h.R.below hb h.R.lt, Kd.C_below h.L hb, h.n⟩
/-- One of the shares. -/
abbrev shr (l : List Shr) (i : Nat) : Shr := U.rd_T42 l (i : Int)
theorem Pot.row {w : World} {g gg : Nat} {q all left : Int} {A : Option Addr} {c : Nat} {l : List Shr} {G : List Int} (h : Pot w g gg q all left A c l G) (i : Nat) (hi : i < l.length) :
    (∃ ad, A = some ad ∧ w.cell? (ad.add (i * 3)) = some (.int .i64 (shr l i).f0) ∧ w.cell? ⟨(ad.add (i * 3)).block, (ad.add (i * 3)).off + 1, none⟩ = some (.int .i64 (shr l i).f1) ∧ w.cell? ⟨(ad.add (i * 3)).block, (ad.add (i * 3)).off + 2, none⟩ = some (.int .i64 (shr l i).f2)) ∧ w.cell? ⟨gg, i, none⟩ = some (.int .i64 (G.getD i 0)) := by
  have h1 := U.at_T42 h.L (i : Int) (by omega) (by omega)
  rw [Int.toNat_natCast] at h1
  refine ⟨h1, ?_⟩
  have hn := h.n
  rw [h.R.cell i, ints_at G i (by omega)]
  rw [List.getD_eq_getElem?_getD, List.getElem?_eq_getElem (show i < G.length by omega)]
  rfl
/-- May one have a lot more? -/
def mayS (l : List Shr) (G : List Int) (left : Int) (i : Nat) : Bool := decide ((shr l i).f2 ≤ left) && decide (G.getD i 0 ≤ (shr l i).f1 - (shr l i).f2)
/-- Is one behind another? -/
def behS (q all : Int) (l : List Shr) (G : List Int) (i k : Nat) : Bool := decide (G.getD i 0 * all + q * (shr l k).f0 < G.getD k 0 * all + q * (shr l i).f0)
set_option maxHeartbeats 4000000 in
set_option maxRecDepth 100000 in
theorem may_walk (g gg : Nat) (q all left : Int) (A : Option Addr) (c : Nat) (l : List Shr) (G : List Int) (i : Nat) (hi : i < l.length) (hok : okShr (shr l i) = true) (hm : l.length ≤ 64) (w : World) (h : Pot w g gg q all left A c l G) :
    Calls Try.prog 49 #[.pointer (some ⟨g, 0, none⟩), .int .i64 i] w fun e w' => e = .returned (.bool (mayS l G left i)) ∧ Below w.heap.size w w' := by
  obtain ⟨⟨ad, rfl, c0, c1, c2⟩, g0⟩ := h.row i hi
  have y2 := h.P.cell 2; have y3 := h.P.cell 3; have y4 := h.P.cell 4
  simp at y2 y3 y4
  unfold okShr at hok
  simp only [Bool.and_eq_true, decide_eq_true_eq] at hok
  unfold mayS
  generalize shr l i = X at *
  obtain ⟨x0, x1, x2⟩ := X
  dsimp only at *
  generalize G.getD i 0 = gi at *
  have hgs := h.P.lt
  have hgg := h.R.lt
  have hB := (Below.refl w.heap.size w).alloc (Nat.le_refl _) (.cells #[.int .i64 x0, .int .i64 x1, .int .i64 x2] 42)
  have p1 : (0 : Int) ≤ (i : Int) := by omega
  have q1 : (i : Int) < (l.length : Int) := by omega
  have hwr : IntKind.i64.wrap (x1 - x2) = x1 - x2 := IntWalk.i64_in _ (by omega)
  clear h
  by_cases d1 : x2 ≤ left
  · have b0 : decide (x2 ≤ left) = true := decide_eq_true d1
    go_enter Try.func49, Try.ntmps49
    go_wp2_with fail
    repeat (go_quiet (fail); try go_wp2)
    go_ret
    exact ⟨by simp [d1], bt hB (by repeat (first | exact Below.refl _ _ | apply below_drew1 | apply pw_below_drewN))⟩
  · have b0 : decide (x2 ≤ left) = false := decide_eq_false d1
    go_enter Try.func49, Try.ntmps49
    go_wp2_with fail
    repeat (go_quiet (fail); try go_wp2)
    go_ret
    exact ⟨congrArg (fun b => Ending.returned (.bool b)) (show false = (decide (x2 ≤ left) && decide (gi ≤ x1 - x2)) by simp only [b0, Bool.false_and]), bt hB (by repeat (first | exact Below.refl _ _ | apply below_drew1 | apply pw_below_drewN))⟩
set_option maxHeartbeats 4000000 in
set_option maxRecDepth 100000 in
theorem behind_walk (g gg : Nat) (q all left : Int) (A : Option Addr) (c : Nat) (l : List Shr) (G : List Int) (i k : Nat) (hi : i < l.length) (hk : k < l.length) (hoki : okShr (shr l i) = true) (hokk : okShr (shr l k) = true) (hm : l.length ≤ 64) (hq : 0 ≤ q ∧ q ≤ 1099511627776) (ha : 0 ≤ all ∧ all ≤ 70368744177664) (gi : 0 ≤ G.getD i 0 ∧ G.getD i 0 ≤ 1099511627776) (gk : 0 ≤ G.getD k 0 ∧ G.getD k 0 ≤ 1099511627776) (w : World) (h : Pot w g gg q all left A c l G) :
    Calls Try.prog 50 #[.pointer (some ⟨g, 0, none⟩), .int .i64 i, .int .i64 k] w fun e w' => e = .returned (.bool (behS q all l G i k)) ∧ Below w.heap.size w w' := by
  unfold okShr at hoki hokk
  simp only [Bool.and_eq_true, decide_eq_true_eq] at hoki hokk
  have ub : ∀ a b : Int, 0 ≤ a → a ≤ 1099511627776 → 0 ≤ b → b ≤ 70368744177664 → 0 ≤ a * b ∧ a * b ≤ 77371252455336267181195264 := fun a b h1 h2 h3 h4 => ⟨Int.mul_nonneg h1 h3, by have := Int.mul_le_mul h2 h4 h3 (by decide); exact Int.le_trans this (by decide)⟩
  have u1 := ub (G.getD i 0) all gi.1 gi.2 ha.1 ha.2
  have u2 := ub (G.getD k 0) all gk.1 gk.2 ha.1 ha.2
  have u3 := ub q (shr l k).f0 hq.1 hq.2 hokk.1.1.1 (by omega)
  have u4 := ub q (shr l i).f0 hq.1 hq.2 hoki.1.1.1 (by omega)
  have w1 := fun w => wide_walk (G.getD i 0) all q (shr l k).f0 gi.1 (by omega) ha.1 (by omega) hq.1 (by omega) hokk.1.1.1 (by omega) (by omega) w
  have w2 := fun w => wide_walk (G.getD k 0) all q (shr l i).f0 gk.1 (by omega) ha.1 (by omega) hq.1 (by omega) hoki.1.1.1 (by omega) (by omega) w
  have hl := fun w => U.allot_pair_less.calls _ _ _ _ _ w (pless_is (G.getD i 0 * all + q * (shr l k).f0) (G.getD k 0 * all + q * (shr l i).f0) (by omega) (by omega))
  unfold behS
  generalize G.getD i 0 * all + q * (shr l k).f0 = S1 at *
  generalize G.getD k 0 * all + q * (shr l i).f0 = S2 at *
  have keepS : ∀ w', Below w.heap.size w w' → (w'.cell? ⟨g, 0, none⟩ = some (.int .i64 q) ∧ w'.cell? ⟨g, 1, none⟩ = some (.int .i64 all) ∧ w'.cell? ⟨g, 3, none⟩ = some (.slice A l.length c) ∧ w'.cell? ⟨g, 4, none⟩ = some (.slice (some ⟨gg, 0, none⟩) l.length l.length) ∧ w'.cell? ⟨gg, i, none⟩ = some (.int .i64 (G.getD i 0)) ∧ w'.cell? ⟨gg, k, none⟩ = some (.int .i64 (G.getD k 0))) ∧ (∃ ad, A = some ad ∧ w'.cell? (ad.add (i * 3)) = some (.int .i64 (shr l i).f0) ∧ w'.cell? (ad.add (k * 3)) = some (.int .i64 (shr l k).f0)) ∧ Below w.heap.size w w' := fun w' hb => by
    have hP := h.on hb
    obtain ⟨⟨ad, e1, c0, _⟩, g0⟩ := hP.row i hi
    obtain ⟨⟨ad2, e2, c1, _⟩, g1⟩ := hP.row k hk
    rw [e1] at e2
    obtain rfl := Option.some.inj e2
    exact ⟨⟨hP.P.cell 0, hP.P.cell 1, hP.P.cell 3, hP.P.cell 4, g0, g1⟩, ⟨ad, e1, c0, c1⟩, hb⟩
  obtain ⟨ad, rfl⟩ : ∃ ad, A = some ad := by obtain ⟨_, ⟨ad, e, _⟩, _⟩ := keepS w (Below.refl _ _); exact ⟨ad, e⟩
  have keepS2 : ∀ w', Below w.heap.size w w' → (w'.cell? ⟨g, 0, none⟩ = some (.int .i64 q) ∧ w'.cell? ⟨g, 1, none⟩ = some (.int .i64 all) ∧ w'.cell? ⟨g, 3, none⟩ = some (.slice (some ad) l.length c) ∧ w'.cell? ⟨g, 4, none⟩ = some (.slice (some ⟨gg, 0, none⟩) l.length l.length) ∧ w'.cell? ⟨gg, i, none⟩ = some (.int .i64 (G.getD i 0)) ∧ w'.cell? ⟨gg, k, none⟩ = some (.int .i64 (G.getD k 0))) ∧ (w'.cell? (ad.add (i * 3)) = some (.int .i64 (shr l i).f0) ∧ w'.cell? (ad.add (k * 3)) = some (.int .i64 (shr l k).f0)) ∧ Below w.heap.size w w' := fun w' hb => by
    obtain ⟨h1, ⟨ad2, e2, h2⟩, h3⟩ := keepS w' hb
    obtain rfl := Option.some.inj e2
    exact ⟨h1, h2, h3⟩
  have p1 : (0 : Int) ≤ (i : Int) := by omega
  have q1 : (i : Int) < (l.length : Int) := by omega
  have p2 : (0 : Int) ≤ (k : Int) := by omega
  have q2 : (k : Int) < (l.length : Int) := by omega
  generalize G.getD i 0 = Gi at *
  generalize G.getD k 0 = Gk at *
  generalize (shr l i).f0 = fi at *
  generalize (shr l k).f0 = fk at *
  have KS := Lib.hid keepS2; have W1 := Lib.hid w1; have W2 := Lib.hid w2; have HL := Lib.hid hl
  obtain ⟨⟨y0, y1, y3, y4, z0, z1⟩, ⟨t0, t1⟩, _⟩ := keepS2 w (Below.refl _ _)
  clear keepS keepS2 w1 w2 hl u1 u2 u3 u4 ub h hoki hokk gi gk ha hq
  go_enter Try.func50, Try.ntmps50
  go_wp2_with fail
  go_region_held3 (fun w' => (w'.cell? ⟨g, 0, none⟩ = some (.int .i64 q) ∧ w'.cell? ⟨g, 1, none⟩ = some (.int .i64 all) ∧ w'.cell? ⟨g, 3, none⟩ = some (.slice (some ad) l.length c) ∧ w'.cell? ⟨g, 4, none⟩ = some (.slice (some ⟨gg, 0, none⟩) l.length l.length) ∧ w'.cell? ⟨gg, i, none⟩ = some (.int .i64 Gi) ∧ w'.cell? ⟨gg, k, none⟩ = some (.int .i64 Gk)) ∧ (w'.cell? (ad.add (i * 3)) = some (.int .i64 fi) ∧ w'.cell? (ad.add (k * 3)) = some (.int .i64 fk)) ∧ Below w.heap.size w w') (first | exact KS.out _ (by repeat (first | exact Below.refl _ _ | assumption | apply below_drew1 | apply pw_below_drewN | refine bt ?_ hb1 | refine bt ?_ hb2 | refine bt ?_ hb3))) (first | (go_at_call 62; first | ((with_reducible refine (W1.out _).mono ?_); rintro e wa ⟨rfl, hb1⟩) | ((with_reducible refine (W2.out _).mono ?_); rintro e wb ⟨rfl, hb2⟩)) | (go_at_call 63; (with_reducible refine (HL.out _).mono ?_); rintro e wc ⟨rfl, hb3⟩))
  go_wp2_with fail
  go_ret
  exact ⟨rfl, by repeat (first | exact Below.refl _ _ | assumption | apply below_drew1 | apply pw_below_drewN | refine bt ?_ hb1 | refine bt ?_ hb2 | refine bt ?_ hb3)⟩
end Go.Proofs.Ytknmojjccfhchaa.Hand

/- allot: who is next, walked. -/
set_option linter.unusedVariables false
set_option linter.unusedSimpArgs false
namespace Go.Proofs.Ytknmojjccfhchaa.Hand
open Go Go.RowKit Go.Proofs.YtknmojjccfhchaaW.PrintWords Go.Proofs.YtknmojjccfhchaaW.PrintMore Go.Proofs.Ytknmojjccfhchaa.RL Go.Proofs.Ytknmojjccfhchaa.PL
/-- What stands fast of the numbers of a pot. -/
structure PotOk (q all : Int) (l : List Shr) (G : List Int) : Prop where
  ok : l.all okShr = true
  hm : l.length ≤ 64
  hq : 0 ≤ q ∧ q ≤ 1099511627776
  ha : 0 ≤ all ∧ all ≤ 70368744177664
  hG : ∀ i, 0 ≤ G.getD i 0 ∧ G.getD i 0 ≤ 1099511627776
/-- Who is next, of the first j. -/
def nextN (q all left : Int) (l : List Shr) (G : List Int) : Nat → Int
  | 0 => -1
  | j + 1 => if mayS l G left j && (decide (nextN q all left l G j < 0) || behS q all l G j (nextN q all left l G j).toNat) then (j : Int) else nextN q all left l G j
theorem nextN_b (q all left : Int) (l : List Shr) (G : List Int) (j : Nat) : nextN q all left l G j = -1 ∨ ∃ k : Nat, k < j ∧ nextN q all left l G j = k := by
  induction j with
  | zero => exact .inl rfl
  | succ j ih =>
    unfold nextN
    split
    · exact .inr ⟨j, by omega, rfl⟩
    · rcases ih with h | ⟨k, hk, h⟩
      · exact .inl h
      · exact .inr ⟨k, by omega, h⟩
theorem nextN_no {q all left : Int} {l : List Shr} {G : List Int} {j : Nat} (h : nextN q all left l G j < 0) : ∀ i, i < j → mayS l G left i = false := by
  induction j with
  | zero => intro i hi; omega
  | succ j ih =>
    intro i hi
    unfold nextN at h
    split at h
    · omega
    · rename_i hc
      by_cases he : i = j
      · subst he
        rw [decide_eq_true h, Bool.true_or, Bool.and_true] at hc
        simpa using hc
      · exact ih h i (by omega)
theorem nextN_may {q all left : Int} {l : List Shr} {G : List Int} {j k : Nat} (h : nextN q all left l G j = k) : mayS l G left k = true := by
  induction j with
  | zero => unfold nextN at h; omega
  | succ j ih =>
    unfold nextN at h
    split at h
    · rename_i hc
      obtain rfl : j = k := by omega
      rw [Bool.and_eq_true] at hc
      exact hc.1
    · exact ih h
set_option maxHeartbeats 4000000 in
set_option maxRecDepth 100000 in
theorem next_walk (g gg : Nat) (q all left : Int) (A : Option Addr) (c : Nat) (l : List Shr) (G : List Int) (F : PotOk q all l G) (w : World) (h : Pot w g gg q all left A c l G) :
    Calls Try.prog 34 #[.pointer (some ⟨g, 0, none⟩)] w fun e w' => e = .returned (.int .i64 (nextN q all left l G l.length)) ∧ Below w.heap.size w w' := by
  have y3 := h.P.cell 3
  simp at y3
  have hmay := fun (j : Nat) (hj : j < l.length) w' (hb : Below w.heap.size w w') => may_walk g gg q all left A c l G j hj (rd_all F.ok j hj) F.hm w' (h.on hb)
  have hbeh := fun (j k : Nat) (hj : j < l.length) (hk : k < l.length) w' (hb : Below w.heap.size w w') => behind_walk g gg q all left A c l G j k hj hk (rd_all F.ok j hj) (rd_all F.ok k hk) F.hm F.hq F.ha (F.hG j) (F.hG k) w' (h.on hb)
  have HM := Lib.hid hmay; have HB := Lib.hid hbeh
  have hm := F.hm
  clear hmay hbeh h F
  go_enter Try.func34, Try.ntmps34
  go_wp2_with fail
  go_loopw [3, 10] (fun a i wr => ∃ j : Nat, j ≤ l.length ∧ a = .int .i64 (nextN q all left l G j) ∧ i = .int .i64 j ∧ Below w.heap.size w wr) (fun _ i _ => l.length - (intOf i).toNat)
  case atStart => exact ⟨0, Nat.zero_le _, rfl, rfl, Below.refl _ _⟩
  case round =>
    obtain ⟨j, hj, rfl, rfl, hB⟩ := hrel
    by_cases hlt : j < l.length
    · have m1 := HM.out j hlt wr hB
      have hnx : nextN q all left l G (j + 1) = if mayS l G left j && (decide (nextN q all left l G j < 0) || behS q all l G j (nextN q all left l G j).toNat) then (j : Int) else nextN q all left l G j := by
        simp only [nextN]
      have hnb := nextN_b q all left l G j
      cases hmv : mayS l G left j with
      | false =>
        rw [hmv] at m1 hnx
        have hn := Lib.hid hnx
        have M1 := Lib.hid m1
        clear hnx m1 HB HM hnb
        generalize nextN q all left l G j = at_ at *
        go_wp2_with (go_at_call 49; (with_reducible refine M1.out.mono ?_); rintro e wa ⟨rfl, hb1⟩)
        go_roundw
        case rel => exact ⟨j + 1, by omega, by rw [hn.out]; simp, by go_num, bt hB hb1⟩
        case measure => simp only [intOf]; omega
      | true =>
        rw [hmv] at m1 hnx
        rcases hnb with hat | ⟨k, hk, hat⟩
        · rw [hat] at hnx ⊢
          have hn := Lib.hid hnx
          have M1 := Lib.hid m1
          clear hnx m1 HB HM
          go_wp2_with (go_at_call 49; (with_reducible refine M1.out.mono ?_); rintro e wa ⟨rfl, hb1⟩)
          go_roundw
          case rel => exact ⟨j + 1, by omega, by rw [hn.out]; simp, by go_num, bt hB hb1⟩
          case measure => simp only [intOf]; omega
        · rw [hat] at hnx ⊢
          have hb2 := fun w' hb => HB.out j k hlt (by omega) w' hb
          rw [Int.toNat_natCast] at hnx
          generalize behS q all l G j k = b at *
          have hn := Lib.hid hnx
          have M1 := Lib.hid m1
          have B2 := Lib.hid hb2
          have hk0 : ¬ ((k : Int) < 0) := by omega
          clear hnx m1 hb2 HB HM hat
          cases b with
          | false =>
            go_wp2_with (first | (go_at_call 49; (with_reducible refine M1.out.mono ?_); rintro e wa ⟨rfl, hb1⟩) | (go_at_call 50; (with_reducible refine (B2.out _ (bt hB hb1)).mono ?_); rintro e wb ⟨rfl, hb3⟩))
            go_roundw
            case rel => exact ⟨j + 1, by omega, by rw [hn.out, decide_eq_false (show ¬ ((k : Int) < 0) by omega)]; simp, by go_num, bt hB (bt hb1 hb3)⟩
            case measure => simp only [intOf]; omega
          | true =>
            go_wp2_with (first | (go_at_call 49; (with_reducible refine M1.out.mono ?_); rintro e wa ⟨rfl, hb1⟩) | (go_at_call 50; (with_reducible refine (B2.out _ (bt hB hb1)).mono ?_); rintro e wb ⟨rfl, hb3⟩))
            go_roundw
            case rel => exact ⟨j + 1, by omega, by rw [hn.out, decide_eq_false (show ¬ ((k : Int) < 0) by omega)]; simp, by go_num, bt hB (bt hb1 hb3)⟩
            case measure => simp only [intOf]; omega
    · obtain rfl : j = l.length := by omega
      clear HM HB
      go_wp2_with fail
      go_ret
      exact ⟨rfl, hB⟩
end Go.Proofs.Ytknmojjccfhchaa.Hand

/- allot.Lots, walked. -/
set_option linter.unusedVariables false
set_option linter.unusedSimpArgs false
namespace Go.Proofs.Ytknmojjccfhchaa.Hand
open Go Go.RowKit Go.Proofs.YtknmojjccfhchaaW.PrintWords Go.Proofs.YtknmojjccfhchaaW.PrintMore Go.Proofs.Ytknmojjccfhchaa.RL Go.Proofs.Ytknmojjccfhchaa.PL
/-- Lot for lot. -/
def lotsN (q all : Int) (l : List Shr) : Nat → List Int → Int → List Int × Int
  | 0, G, left => (G, left)
  | k + 1, G, left => if nextN q all left l G l.length < 0 then (G, left) else lotsN q all l k (G.set (nextN q all left l G l.length).toNat (G.getD (nextN q all left l G l.length).toNat 0 + (shr l (nextN q all left l G l.length).toNat).f2)) (left - (shr l (nextN q all left l G l.length).toNat).f2)
/-- The first part of one. -/
def firstI (q all : Int) (x : Shr) : Int := min (q * x.f0 / all) x.f1 / x.f2 * x.f2
def firstG (q all : Int) (l : List Shr) : List Int := l.map (firstI q all)
theorem make_n (n : Nat) (hn : n ≤ 1000) (w : World) : (Instr.makeSlice 24 (.int .i64 n) (.int .i64 n)).run Try.prog w = .ok (.slice (some ⟨w.heap.size, 0, none⟩) n n) (w.alloc (.cells (ints (List.replicate n 0)) 3)) := by
  have info : (Try.prog.info? 3).map (fun i => (i.zero, i.size, i.bytes)) = some (some (.int .i64 0), 1, 8) := by kernel_rfl
  obtain ⟨i0, hi, hz0, hz1, hz2⟩ := info_parts info
  have := run_makeSlice (P := Try.prog) (w := w) 24 3 i0 (.int .i64 0) Try.underlying24 hi hz0 .i64 .i64 (n : Int) (n : Int) (by omega) (Int.le_refl _) (by rw [hz1]; omega) (by rw [hz2]; omega) (by omega)
  rw [this, hz1]
  have e : madeCells (Value.int .i64 0).cells (Int.toNat n * 1) = ints (List.replicate n 0) := by
    unfold ints
    apply Array.ext'
    rw [show (Value.int .i64 0).cells = #[.int .i64 0] from rfl, toList_madeCells_one]
    simp
  rw [e]
  rfl
theorem Pot.setG {w0 w : World} {g gg : Nat} {q all left : Int} {A : Option Addr} {c : Nat} {l : List Shr} {G : List Int} (h : Pot w g gg q all left A c l G) (hl : Kd.C kS w0 A l.length l) (hB : Below w0.heap.size w0 w) (hgg : w0.heap.size ≤ gg) (hne : g ≠ gg) (j : Nat) (v : Int) : Pot (w.setCell ⟨gg, j, none⟩ (.int .i64 v)) g gg q all left A c l (G.set j v) ∧ Below w0.heap.size w0 (w.setCell ⟨gg, j, none⟩ (.int .i64 v)) := by
  have hB2 := hB.setCell (p := ⟨gg, j, none⟩) hgg (.int .i64 v)
  have hR := h.R.put j (.int .i64 v)
  rw [ints_set] at hR
  exact ⟨⟨h.P.far (p := ⟨gg, j, none⟩) hne _, hR, Kd.C_below hl hB2, by rw [List.length_set]; exact h.n⟩, hB2⟩
theorem Pot.setLeft {w0 w : World} {g gg : Nat} {q all left : Int} {A : Option Addr} {c : Nat} {l : List Shr} {G : List Int} (h : Pot w g gg q all left A c l G) (hl : Kd.C kS w0 A l.length l) (hB : Below w0.heap.size w0 w) (hg : w0.heap.size ≤ g) (hne : g ≠ gg) (x : Int) : Pot (w.setCell ⟨g, 2, none⟩ (.int .i64 x)) g gg q all x A c l G ∧ Below w0.heap.size w0 (w.setCell ⟨g, 2, none⟩ (.int .i64 x)) := by
  have hB2 := hB.setCell (p := ⟨g, 2, none⟩) hg (.int .i64 x)
  have hP : Blk (w.setCell ⟨g, 2, none⟩ (.int .i64 x)) g 61 #[.int .i64 q, .int .i64 all, .int .i64 x, .slice A l.length c, .slice (some ⟨gg, 0, none⟩) l.length l.length] := h.P.put 2 (.int .i64 x)
  exact ⟨⟨hP, h.R.far (p := ⟨g, 2, none⟩) (Ne.symm hne) _, Kd.C_below hl hB2, h.n⟩, hB2⟩
/-- The parts of the first j, and noughts. -/
def initG (q all : Int) (l : List Shr) (j : Nat) : List Int := (firstG q all l).take j ++ List.replicate (l.length - j) 0
def initL (q all : Int) (l : List Shr) (j : Nat) : Int := q - ((firstG q all l).take j).sum
theorem firstG_len (q all : Int) (l : List Shr) : (firstG q all l).length = l.length := by simp [firstG]
theorem firstG_at (q all : Int) (l : List Shr) (j : Nat) (hj : j < l.length) : (firstG q all l)[j]'(by rw [firstG_len]; exact hj) = firstI q all (shr l j) := by
  unfold firstG shr U.rd_T42
  rw [List.getElem_map, Int.toNat_natCast, List.getD_eq_getElem?_getD, List.getElem?_eq_getElem hj]
  rfl
theorem initG_step (q all : Int) (l : List Shr) (j : Nat) (hj : j < l.length) : (initG q all l j).set j (firstI q all (shr l j)) = initG q all l (j + 1) := by
  have hlen : ((firstG q all l).take j).length = j := by rw [List.length_take, firstG_len]; omega
  unfold initG
  rw [List.set_append_right _ _ (by omega), hlen, Nat.sub_self, show l.length - j = (l.length - (j + 1)) + 1 by omega, List.replicate_succ, List.set_cons_zero, List.take_succ_eq_append_getElem (by rw [firstG_len]; exact hj), firstG_at q all l j hj, List.append_assoc]
  rfl
theorem initG_at (q all : Int) (l : List Shr) (j : Nat) (hj : j < l.length) : (initG q all l (j + 1)).getD j 0 = firstI q all (shr l j) := by
  unfold initG
  rw [List.getD_eq_getElem?_getD, List.getElem?_append_left (by rw [List.length_take, firstG_len]; omega), List.getElem?_take_of_lt (by omega), List.getElem?_eq_getElem (by rw [firstG_len]; exact hj), firstG_at q all l j hj]
  rfl
theorem initL_step (q all : Int) (l : List Shr) (j : Nat) (hj : j < l.length) : initL q all l (j + 1) = initL q all l j - firstI q all (shr l j) := by
  unfold initL
  rw [List.take_succ_eq_append_getElem (by rw [firstG_len]; exact hj), firstG_at q all l j hj, List.sum_append]
  simp only [List.sum_cons, List.sum_nil]
  omega
theorem initG_end (q all : Int) (l : List Shr) : initG q all l l.length = firstG q all l ∧ initL q all l l.length = q - (firstG q all l).sum := by
  have h : (firstG q all l).take l.length = firstG q all l := by rw [← firstG_len q all l, List.take_length]
  unfold initG initL
  rw [h, Nat.sub_self]
  exact ⟨by simp, rfl⟩
theorem first_b {q all : Int} {x : Shr} (hq : 0 ≤ q ∧ q ≤ 1099511627776) (hx : okShr x = true) (ha : x.f0 ≤ all) (hall : 1 ≤ all) : 0 ≤ q * x.f0 / all ∧ q * x.f0 / all ≤ q ∧ 0 ≤ firstI q all x ∧ firstI q all x ≤ x.f1 ∧ firstI q all x ≤ q * x.f0 / all := by
  unfold okShr at hx
  simp only [Bool.and_eq_true, decide_eq_true_eq] at hx
  have h0 : 0 ≤ q * x.f0 := Int.mul_nonneg hq.1 hx.1.1.1
  have h1 : q * x.f0 ≤ q * all := Int.mul_le_mul_of_nonneg_left ha hq.1
  have h2 : q * x.f0 / all ≤ q := by
    have := Int.ediv_le_ediv (show 0 < all by omega) h1
    rwa [Int.mul_ediv_cancel _ (by omega)] at this
  have h3 : 0 ≤ q * x.f0 / all := Int.ediv_nonneg h0 (by omega)
  unfold firstI
  have hmn : 0 ≤ min (q * x.f0 / all) x.f1 ∧ min (q * x.f0 / all) x.f1 ≤ x.f1 ∧ min (q * x.f0 / all) x.f1 ≤ q * x.f0 / all := by omega
  generalize min (q * x.f0 / all) x.f1 = m at *
  have hd := div_b (n := m) (s := x.f2) (by omega) hmn.1
  exact ⟨h3, h2, hd.2.2.2, by omega, by omega⟩
theorem f0_le {l : List Shr} (hb : ∀ x ∈ l, okA x) (j : Nat) (hj : j < l.length) : (shr l j).f0 ≤ sumA l := by
  have h1 := sumA_take l j hj
  have h2 := sumA_b (l.take j) (fun x hx => hb x (List.mem_of_mem_take hx))
  have h3 : sumA l = sumA (l.take (j + 1)) + sumA (l.drop (j + 1)) := by
    unfold sumA
    rw [← List.sum_append, ← List.map_append, List.take_append_drop]
  have h4 := sumA_b (l.drop (j + 1)) (fun x hx => hb x (List.mem_of_mem_drop hx))
  show (U.rd_T42 l (j : Int)).f0 ≤ sumA l
  omega
theorem initL_b {q all : Int} {l : List Shr} (hq : 0 ≤ q ∧ q ≤ 1099511627776) (hok : l.all okShr = true) (hall : all = sumA l) (h1 : 1 ≤ all) (hm : l.length ≤ 64) (j : Nat) (hj : j ≤ l.length) : q - j * 1099511627776 ≤ initL q all l j ∧ initL q all l j ≤ q := by
  induction j with
  | zero => unfold initL; simp
  | succ j ih =>
    have ih := ih (by omega)
    have hs := initL_step q all l j (by omega)
    have hb := first_b (x := shr l j) hq (rd_all hok j (by omega)) (by rw [hall]; exact f0_le (fun x hx => okShr_A (List.all_eq_true.1 hok x hx)) j (by omega)) h1
    omega
theorem fair_all (q a all : Int) (hq : 0 ≤ q ∧ q ≤ 1099511627776) (ha : 0 ≤ a ∧ a ≤ all) (hall : 1 ≤ all ∧ all ≤ 70368744177664) : ∃ r : Int, ∀ w : World, Calls Try.prog 32 #[.int .i64 q, .int .i64 a, .int .i64 all] w fun e w' => e = .returned (.tuple #[.int .i64 (q * a / all), .int .i64 r]) ∧ Below w.heap.size w w' := by
  have h0 : 0 ≤ q * a := Int.mul_nonneg hq.1 ha.1
  have h1 : q * a ≤ q * all := Int.mul_le_mul_of_nonneg_left ha.2 hq.1
  have h2 : q * a / all ≤ q := by
    have := Int.ediv_le_ediv (show 0 < all by omega) h1
    rwa [Int.mul_ediv_cancel _ (by omega)] at this
  have h3 : 0 ≤ q * a / all := Int.ediv_nonneg h0 (by omega)
  have hd : checked_Down.f q a all = some (q * a / all, 0) := by
    rw [down_is q a all (by unfold in64; omega) (by unfold in64; omega) (by unfold in64; omega)]
    unfold fr frac flo
    rw [if_neg (by omega)]
    simp only [Bool.false_eq_true, if_false]
    rw [if_neg (by omega), tell_in (by unfold in64; omega)]
  have hf : ∃ r, U.allot_fair.f q a all = some (q * a / all, r) := by
    unfold U.allot_fair.f
    rw [hd, Option.bind_some]
    exact ⟨_, rfl⟩
  obtain ⟨r, hf⟩ := hf
  exact ⟨r, fun w => U.allot_fair.calls q a all _ _ w hf⟩
theorem floor_is {q all : Int} {x : Shr} (hx : okShr x = true) (hf : 0 ≤ q * x.f0 / all) : grain_Floor.f (min (q * x.f0 / all) x.f1) x.f2 = some (firstI q all x, 0) := by
  unfold okShr at hx
  simp only [Bool.and_eq_true, decide_eq_true_eq] at hx
  unfold grain_Floor.f firstI
  rw [if_pos (by unfold in64; omega), if_neg (by omega)]
theorem firstG_b {q all : Int} {l : List Shr} (hq : 0 ≤ q ∧ q ≤ 1099511627776) (hok : l.all okShr = true) (hall : all = sumA l) (h1 : 1 ≤ all) : ∀ i, 0 ≤ (firstG q all l).getD i 0 ∧ (firstG q all l).getD i 0 ≤ 1099511627776 := by
  intro i
  by_cases hi : i < l.length
  · have e := firstG_at q all l i hi
    rw [List.getD_eq_getElem?_getD, List.getElem?_eq_getElem (by rw [firstG_len]; exact hi)]
    show 0 ≤ (firstG q all l)[i]'_ ∧ (firstG q all l)[i]'_ ≤ _
    rw [e]
    have hb := first_b (x := shr l i) hq (rd_all hok i hi) (by rw [hall]; exact f0_le (fun x hx => okShr_A (List.all_eq_true.1 hok x hx)) i hi) h1
    omega
  · rw [List.getD_eq_getElem?_getD, List.getElem?_eq_none (by rw [firstG_len]; omega)]
    exact ⟨by decide, by decide⟩
/-- What is left of a pot. -/
def leftOf (w : World) (g : Nat) : Int := match w.cell? ⟨g, 2, none⟩ with | some (.int _ x) => x | _ => 0
theorem leftOf_pot {w : World} {g gg : Nat} {q all left : Int} {A : Option Addr} {c : Nat} {l : List Shr} {G : List Int} (h : Pot w g gg q all left A c l G) : leftOf w g = left := by
  have h2 : w.cell? ⟨g, 2, none⟩ = some (.int .i64 left) := h.P.cell 2
  unfold leftOf
  rw [h2]
theorem lots_end {q all : Int} {l : List Shr} {k : Nat} {G : List Int} {left : Int} (h : nextN q all left l G l.length < 0) : lotsN q all l k G left = (G, left) := by
  cases k with
  | zero => rfl
  | succ k => simp only [lotsN]; rw [if_pos h]
theorem lots_step {q all : Int} {l : List Shr} {k i : Nat} {G : List Int} {left : Int} (h : nextN q all left l G l.length = i) : lotsN q all l (k + 1) G left = lotsN q all l k (G.set i (G.getD i 0 + (shr l i).f2)) (left - (shr l i).f2) := by
  simp only [lotsN]
  rw [h, if_neg (by omega), Int.toNat_natCast]
theorem set_b {G : List Int} {i : Nat} {x m : Int} (hG : ∀ k, 0 ≤ G.getD k 0 ∧ G.getD k 0 ≤ m) (hx : 0 ≤ x ∧ x ≤ m) : ∀ k, 0 ≤ (G.set i x).getD k 0 ∧ (G.set i x).getD k 0 ≤ m := by
  intro k
  have hk := hG k
  by_cases e : k = i
  · subst e
    by_cases h : k < G.length
    · rw [List.getD_eq_getElem?_getD, List.getElem?_set_self h]; exact hx
    · rw [List.getD_eq_getElem?_getD, List.getElem?_eq_none (by rw [List.length_set]; omega)]
      rw [List.getD_eq_getElem?_getD, List.getElem?_eq_none (by omega)] at hk
      exact hk
  · rw [List.getD_eq_getElem?_getD, List.getElem?_set_ne (Ne.symm e), ← List.getD_eq_getElem?_getD]
    exact hk
set_option maxHeartbeats 8000000 in
set_option maxRecDepth 100000 in
theorem lots_ok (q : Int) (A : Option Addr) (c : Nat) (l : List Shr) (hq : 0 ≤ q ∧ q ≤ 1099511627776) (hok : checkS l = true) (w : World) (hl : Kd.C kS w A l.length l) :
    Calls Try.prog 17 #[.int .i64 q, .slice A l.length c] w fun e w' => ∃ gg, e = .returned (.tuple #[.slice (some ⟨gg, 0, none⟩) l.length l.length, .int .i64 (lotsN q (sumA l) l (q.toNat + 1) (firstG q (sumA l) l) (q - (firstG q (sumA l) l).sum)).2, .int .i64 0]) ∧ w.heap.size ≤ gg ∧ Blk w' gg 3 (ints (lotsN q (sumA l) l (q.toNat + 1) (firstG q (sumA l) l) (q - (firstG q (sumA l) l).sum)).1) ∧ Below w.heap.size w w' := by
  have hck := fun w' (hb : Below w.heap.size w w') => check_walk A c l w' (Kd.C_below hl hb)
  rw [hok, if_pos rfl] at hck
  unfold checkS at hok
  simp only [Bool.and_eq_true, decide_eq_true_eq, Bool.not_eq_true', decide_eq_false_iff_not] at hok
  obtain ⟨hm, hall, hs0⟩ := hok
  have hokA : ∀ x ∈ l, okA x := fun x hx => okShr_A (List.all_eq_true.1 hall x hx)
  have hsb := sumA_b l hokA
  have hto := fun w' (hb : Below w.heap.size w w') => total_walk A c l hm.2 hokA w' (Kd.C_below hl hb)
  have hw := fun w => lwithin_walk q 0 1099511627776 w
  rw [decide_eq_true hq] at hw
  have hmk := fun w => make_n l.length (by omega) w
  have HC := Lib.hid hck; have HT := Lib.hid hto; have HW := Lib.hid hw
  clear hck hto hw
  go_enter Try.func17, Try.ntmps17
  go_wp2_with (first | (go_at_call 12; (with_reducible refine (HC.out _ (Below.refl _ _)).mono ?_); rintro e w1 ⟨rfl, hb1⟩) | (go_at_call 23; (with_reducible refine (HW.out _).mono ?_); rintro e wa ⟨rfl, hwa⟩; replace hwa := hwa.symm; subst hwa))
  go_region_with (go_at_call 27; (with_reducible refine (HT.out _ (by repeat (first | exact Below.refl _ _ | assumption | apply below_drew1 | exact hb1.alloc hb1.size _ | refine bt ?_ hb1))).mono ?_); rintro e w2 ⟨rfl, hb2⟩)
  · have hB2 := bt hb1 (bt (below_drew1 (Below.refl _ _)) hb2)
    have hsz := hB2.size
    have hZ := (Blk.new w2 3 (ints (List.replicate l.length 0))).alloc (.cells #[.int .i64 q, .int .i64 (sumA l), .int .i64 q, .slice A l.length c, .slice (some ⟨w2.heap.size, 0, none⟩) l.length l.length] 61)
    have hP := Blk.new (w2.alloc (.cells (ints (List.replicate l.length 0)) 3)) 61 #[.int .i64 q, .int .i64 (sumA l), .int .i64 q, .slice A l.length c, .slice (some ⟨w2.heap.size, 0, none⟩) l.length l.length]
    have hB := (hB2.alloc hB2.size (.cells (ints (List.replicate l.length 0)) 3)).alloc (by simp; omega) (.cells #[.int .i64 q, .int .i64 (sumA l), .int .i64 q, .slice A l.length c, .slice (some ⟨w2.heap.size, 0, none⟩) l.length l.length] 61)
    rw [World.size_alloc] at hP
    have st : Pot _ (w2.heap.size + 1) w2.heap.size q (sumA l) q A c l (List.replicate l.length 0) := ⟨hP, hZ, Kd.C_below hl hB, by simp⟩
    have hne : w2.heap.size + 1 ≠ w2.heap.size := by omega
    have hlow : w.heap.size ≤ w2.heap.size ∧ w.heap.size ≤ w2.heap.size + 1 := by omega
    clear hP hZ hB2 hb1 hb2 hsz
    generalize (w2.alloc (.cells (ints (List.replicate l.length 0)) 3)).alloc (.cells #[.int .i64 q, .int .i64 (sumA l), .int .i64 q, .slice A l.length c, .slice (some ⟨w2.heap.size, 0, none⟩) l.length l.length] 61) = W at *
    generalize hg : w2.heap.size + 1 = g at *
    generalize w2.heap.size = gg at *
    clear hg
    go_wp2_with fail
    go_loopw [34] (fun i wr => ∃ j : Nat, j ≤ l.length ∧ i = .int .i64 j ∧ Pot wr g gg q (sumA l) (initL q (sumA l) l j) A c l (initG q (sumA l) l j) ∧ Below w.heap.size w wr) (fun i _ => l.length - (intOf i).toNat)
    case atStart => exact ⟨0, Nat.zero_le _, rfl, by have e1 : initL q (sumA l) l 0 = q := by unfold initL; simp
                                                     have e2 : initG q (sumA l) l 0 = List.replicate l.length 0 := by unfold initG; simp
                                                     rw [e1, e2]; exact st, hB⟩
    case round =>
      clear st hB HC HT HW hmk
      obtain ⟨j, hj, rfl, st, hB⟩ := hrel
      by_cases hlt : j < l.length
      · have hfx := first_b (all := sumA l) (x := shr l j) hq (rd_all hall j hlt) (f0_le hokA j hlt) (by omega)
        have hxo := rd_all hall j hlt
        have hLb := initL_b hq hall rfl (show 1 ≤ sumA l by omega) hm.2 j hj
        have hsG := initG_step q (sumA l) l j hlt
        have hsL := initL_step q (sumA l) l j hlt
        have hvj := initG_at q (sumA l) l j hlt
        obtain ⟨r, hf⟩ : ∃ r : Int, ∀ w', Calls Try.prog 32 #[.int .i64 q, .int .i64 (shr l j).f0, .int .i64 (sumA l)] w' fun e w'' => e = .returned (.tuple #[.int .i64 (q * (shr l j).f0 / (sumA l)), .int .i64 r]) ∧ Below w'.heap.size w' w'' := fair_all q (shr l j).f0 (sumA l) hq ⟨by have := okShr_A hxo; exact this.1, f0_le hokA j hlt⟩ ⟨by omega, by omega⟩
        have hfl : ∀ w', Calls Try.prog 33 #[.int .i64 (min (q * (shr l j).f0 / sumA l) (shr l j).f1), .int .i64 (shr l j).f2] w' fun e w'' => e = .returned (.tuple #[.int .i64 (firstI q (sumA l) (shr l j)), .int .i64 0]) ∧ Below w'.heap.size w' w'' := fun w' => grain_Floor.calls _ _ _ _ w' (floor_is hxo hfx.1)
        obtain ⟨⟨ad, rfl, c0, c1, c2⟩, g0⟩ := st.row j hlt
        have y1 := st.P.cell 1; have y2 := st.P.cell 2; have y4 := st.P.cell 4
        simp at y1 y2 y4
        unfold okShr at hxo
        simp only [Bool.and_eq_true, decide_eq_true_eq] at hxo
        generalize firstI q (sumA l) (shr l j) = v at *
        generalize q * (shr l j).f0 / sumA l = fa at *
        generalize (shr l j).f0 = x0 at *
        generalize (shr l j).f1 = x1 at *
        generalize (shr l j).f2 = x2 at *
        generalize initL q (sumA l) l j = left at *
        generalize initG q (sumA l) l j = G0 at *
        generalize G0.getD j 0 = gj at *
        have hwl : IntKind.i64.wrap (left - v) = left - v := IntWalk.i64_in _ (by omega)
        have HN := Lib.hid (And.intro hsG hsL)
        have HV := Lib.hid hvj
        have HF := Lib.hid hf; have HFL := Lib.hid hfl
        have hgl := st.P.lt; have hggl := st.R.lt
        have bO := (Below.refl wr.heap.size wr).alloc (Nat.le_refl _) (.cells #[.int .i64 x0, .int .i64 x1, .int .i64 x2] 42)
        have hO := Blk.new wr 42 #[.int .i64 x0, .int .i64 x1, .int .i64 x2]
        have st8 := st.on bO
        have hB8 := bt hB bO
        have ST := Lib.hid st8; have HO := Lib.hid hO; have HB := Lib.hid hB8
        clear hvj hsG hsL hf hfl st hB bO hO st8 hB8 hfx hLb hxo
        go_upto_region 10 with (fail)
        generalize wr.alloc (.cells #[.int .i64 x0, .int .i64 x1, .int .i64 x2] 42) = w8 at *
        have hos : wr.heap.size ≠ g ∧ wr.heap.size ≠ gg := by omega
        generalize wr.heap.size = o at *
        clear c0 c1 c2 g0 y1 y2 y4 hgl hggl
        have keepS : ∀ w', Below w8.heap.size w8 w' → w'.cell? ⟨o, 0, none⟩ = some (.int .i64 x0) ∧ w'.cell? ⟨g, 1, none⟩ = some (.int .i64 (sumA l)) ∧ Below w8.heap.size w8 w' := fun w' h => ⟨(Blk.below HO.out h HO.out.lt).cell 0, (ST.out.on h).P.cell 1, h⟩
        have KS := Lib.hid keepS
        obtain ⟨z0, z1, _⟩ := keepS w8 (Below.refl _ _)
        clear keepS
        go_region_held3 (fun w' => w'.cell? ⟨o, 0, none⟩ = some (.int .i64 x0) ∧ w'.cell? ⟨g, 1, none⟩ = some (.int .i64 (sumA l)) ∧ Below w8.heap.size w8 w') (first | exact KS.out _ (by repeat (first | exact Below.refl _ _ | assumption | apply below_drew1 | apply pw_below_drewN | refine bt ?_ hb5))) (first | (go_at_call 32; (with_reducible refine (HF.out _).mono ?_); rintro e w9 ⟨rfl, hb5⟩))
        have hb9 : Below w8.heap.size w8 w9 := by repeat (first | exact Below.refl _ _ | assumption | apply below_drew1 | apply pw_below_drewN | refine bt ?_ hb5)
        have st9 := ST.out.on hb9
        have hB9 := bt HB.out hb9
        have hO9 := Blk.below HO.out hb9 HO.out.lt
        clear KS ST HO HB z0 z1 hb5 hb9 HF
        have x4 := st9.P.cell 4; have s1 := hO9.cell 1; have s2 := hO9.cell 2
        simp at x4 s1 s2
        have hj0 : (0 : Int) ≤ (j : Int) := by omega
        have hj1 : (j : Int) < (l.length : Int) := by omega
        have hjj : j < l.length := hlt
        go_upto_region 11 with (fail)
        have keep2 : ∀ w', Below w9.heap.size w9 w' → w'.cell? ⟨g, 4, none⟩ = some (.slice (some ⟨gg, 0, none⟩) l.length l.length) ∧ w'.cell? ⟨o, 1, none⟩ = some (.int .i64 x1) ∧ w'.cell? ⟨o, 2, none⟩ = some (.int .i64 x2) := fun w' h => ⟨(st9.on h).P.cell 4, (Blk.below hO9 h hO9.lt).cell 1, (Blk.below hO9 h hO9.lt).cell 2⟩
        have K2 := Lib.hid keep2
        clear keep2
        go_region_held3 (fun w' => w'.cell? ⟨g, 4, none⟩ = some (.slice (some ⟨gg, 0, none⟩) l.length l.length) ∧ w'.cell? ⟨o, 1, none⟩ = some (.int .i64 x1) ∧ w'.cell? ⟨o, 2, none⟩ = some (.int .i64 x2)) (first | exact kk | exact K2.out _ (by repeat (first | exact Below.refl _ _ | assumption | apply below_drew1 | apply pw_below_drewN | refine bt ?_ hb6))) (first | (go_at_call 33; (with_reducible refine (HFL.out _).mono ?_); rintro e wx ⟨rfl, hb6⟩; have hbx : Below w9.heap.size w9 wx := (by repeat (first | exact Below.refl _ _ | assumption | apply below_drew1 | apply pw_below_drewN | refine bt ?_ hb6)); have stx := st9.on hbx; have xgg := (stx.row j hlt).2; have xfg := stx.R.frozen j; have kk : (fun w' : World => w'.cell? ⟨g, 4, none⟩ = some (.slice (some ⟨gg, 0, none⟩) l.length l.length) ∧ w'.cell? ⟨o, 1, none⟩ = some (.int .i64 x1) ∧ w'.cell? ⟨o, 2, none⟩ = some (.int .i64 x2)) (wx.setCell ⟨gg, j, none⟩ (.int .i64 v)) := ⟨(stx.P.far (p := ⟨gg, j, none⟩) hne (.int .i64 v)).cell 4, ((Blk.below hO9 hbx hO9.lt).far (p := ⟨gg, j, none⟩) hos.2 (.int .i64 v)).cell 1, ((Blk.below hO9 hbx hO9.lt).far (p := ⟨gg, j, none⟩) hos.2 (.int .i64 v)).cell 2⟩))
        obtain ⟨stS, hBS⟩ := stx.setG hl (bt hB9 hbx) hlow.1 hne j v
        rw [HN.out.1] at stS
        clear stx xgg xfg hbx hb6 kk K2 HFL st9 hB9 hO9 x4 s1 s2
        generalize wx.setCell ⟨gg, j, none⟩ (.int .i64 v) = wS at *
        have t2 := stS.P.cell 2; have t4 := stS.P.cell 4
        simp at t2 t4
        have tg := (stS.row j hlt).2
        have tf := stS.P.frozen 2
        have tv : (initG q (sumA l) l (j + 1)).getD j 0 = v := HV.out
        rw [tv] at tg
        obtain ⟨stE, hBE⟩ := stS.setLeft hl hBS hlow.2 hne (left - v)
        have HE := Lib.hid (And.intro stE hBE)
        have HL := Lib.hid HN.out.2
        clear stE hBE stS hBS tv HV HN
        go_upto_region 12 with (fail)
        go_region_with (fail)
        all_goals
          go_wp2_with fail
          go_roundw
          case rel => exact ⟨j + 1, by omega, by go_num, by rw [HL.out]; exact HE.out.1.on (below_drew1 (Below.refl _ _)), bt HE.out.2 (below_drew1 (Below.refl _ _))⟩
          case measure => simp only [intOf]; omega
      · obtain rfl : j = l.length := by omega
        rw [(initG_end q (sumA l) l).1, (initG_end q (sumA l) l).2] at st
        have hfb := firstG_b hq hall rfl (show 1 ≤ sumA l by omega)
        have hin : initL q (sumA l) l l.length ≤ q := (initL_b hq hall rfl (show 1 ≤ sumA l by omega) hm.2 l.length (Nat.le_refl _)).2
        rw [(initG_end q (sumA l) l).2] at hin
        generalize hLT : q - (firstG q (sumA l) l).sum = lt0 at *
        generalize hG0 : firstG q (sumA l) l = G0 at *
        have HLT := Lib.hid hLT; have HG0 := Lib.hid hG0
        clear hLT hG0
        go_wp2_with fail
        have F0 : PotOk q (sumA l) l G0 := ⟨hall, hm.2, hq, ⟨by omega, by omega⟩, hfb⟩
        have hk0 : lt0 < ((q.toNat + 1 : Nat) : Int) := by omega
        go_loopw [13] (fun i wr => ∃ (k : Nat) (G : List Int) (left : Int), Hid (lotsN q (sumA l) l k G left = lotsN q (sumA l) l (q.toNat + 1) G0 lt0) ∧ left < (k : Int) ∧ left ≤ 1099511627776 ∧ Hid (Pot wr g gg q (sumA l) left A c l G ∧ PotOk q (sumA l) l G ∧ Below w.heap.size w wr)) (fun _ wr => (leftOf wr g).toNat)
        case atStart => exact ⟨q.toNat + 1, G0, lt0, Lib.hid rfl, hk0, by omega, Lib.hid ⟨st, F0, hB⟩⟩
        case round =>
          clear st F0 hB hfb hin hk0
          obtain ⟨k, G, left, HE, hlk, hl40, HS⟩ := hrel
          obtain ⟨st, F, hB⟩ := HS.out
          have hnx := next_walk g gg q (sumA l) left A c l G F wr st
          have hml := leftOf_pot st
          rcases nextN_b q (sumA l) left l G l.length with hno | ⟨i, hi, hyes⟩
          · have he := lots_end (k := k) (show nextN q (sumA l) left l G l.length < 0 by omega)
            rw [hno] at hnx
            rw [HE.out] at he
            clear HE HS
            go_wp2_with fail
            refine hnx.mono ?_
            rintro e w2 ⟨rfl, hb2⟩
            have st2 := st.on hb2
            have x2 := st2.P.cell 2; have x4 := st2.P.cell 4
            simp at x2 x4
            go_wp2_with fail
            repeat (go_quiet (fail); try go_wp2)
            exact bodyPost_ret (v := .tuple #[.slice (some ⟨gg, 0, none⟩) l.length l.length, .int .i64 left, .int .i64 0]) (by simp [results, Try.results17, go_sem]) rfl ⟨gg, by rw [HG0.out, HLT.out, he], hlow.1, by rw [HG0.out, HLT.out, he]; exact Blk.below st2.R (by repeat (first | exact Below.refl _ _ | assumption | apply below_drew1 | apply pw_below_drewN)) st2.R.lt, bt hB (bt hb2 (by repeat (first | exact Below.refl _ _ | assumption | apply below_drew1 | apply pw_below_drewN)))⟩
          · obtain ⟨k, rfl⟩ : ∃ m, k = m + 1 := ⟨k - 1, by
              have hmy := nextN_may hyes
              unfold mayS at hmy
              simp only [Bool.and_eq_true, decide_eq_true_eq] at hmy
              have hxo : okShr (shr l i) = true := rd_all hall i hi
              unfold okShr at hxo
              simp only [Bool.and_eq_true, decide_eq_true_eq] at hxo
              omega⟩
            have hmy := nextN_may hyes
            unfold mayS at hmy
            simp only [Bool.and_eq_true, decide_eq_true_eq] at hmy
            have hxo : okShr (shr l i) = true := rd_all hall i hi
            unfold okShr at hxo
            simp only [Bool.and_eq_true, decide_eq_true_eq] at hxo
            have he := lots_step (k := k) hyes
            rw [HE.out] at he
            rw [hyes] at hnx
            have hF2 : PotOk q (sumA l) l (G.set i (G.getD i 0 + (shr l i).f2)) := ⟨F.ok, F.hm, F.hq, F.ha, set_b F.hG (by have := F.hG i; omega)⟩
            have hgi := F.hG i
            have hx1 : (shr l i).f1 ≤ 1099511627776 ∧ 1 ≤ (shr l i).f2 ∧ (shr l i).f2 ≤ left ∧ G.getD i 0 ≤ (shr l i).f1 - (shr l i).f2 := ⟨by omega, hxo.2.1, hmy.1, hmy.2⟩
            clear HE HS hxo hmy hyes F
            go_wp2_with fail
            refine hnx.mono ?_
            rintro e w2 ⟨rfl, hb2⟩
            have st2 := st.on hb2
            have hB2 := bt hB hb2
            clear st hB hnx hb2
            obtain ⟨⟨ad, rfl, c0, c1, c2⟩, g0⟩ := st2.row i hi
            have x4 := st2.P.cell 4; have fg := st2.R.frozen i
            simp at x4
            obtain ⟨st3, hB3⟩ := st2.setG hl hB2 hlow.1 hne i (G.getD i 0 + (shr l i).f2)
            obtain ⟨st4, hB4⟩ := st3.setLeft hl hB3 hlow.2 hne (left - (shr l i).f2)
            have HR := Lib.hid (And.intro he (And.intro st4 (And.intro hF2 hB4)))
            obtain ⟨⟨ad3, ea, d0, d1, d2⟩, _⟩ := st3.row i hi
            obtain rfl := Option.some.inj ea
            have z2 : (w2.drew.setCell ⟨gg, i, none⟩ (.int .i64 (G.getD i 0 + (shr l i).f2))).cell? ⟨g, 2, none⟩ = some (.int .i64 left) := st3.P.cell 2
            have zf : (w2.drew.setCell ⟨gg, i, none⟩ (.int .i64 (G.getD i 0 + (shr l i).f2))).frozen? ⟨g, 2, none⟩ = false := st3.P.frozen 2
            have d2' : (w2.drew.setCell ⟨gg, i, none⟩ (.int .i64 (G.getD i 0 + (shr l i).f2))).cell? ⟨(ad.add (i * 3)).block, (ad.add (i * 3)).off + 2, none⟩ = some (.int .i64 (shr l i).f2) := d2
            have hbk : (ad.add (i * 3)).block < w.heap.size := by
              obtain ⟨ad', e', c', _⟩ := U.at_T42 hl (i : Int) (by omega) (by omega)
              obtain rfl := Option.some.inj e'
              rw [Int.toNat_natCast] at c'
              exact World.block_lt_of_cell? _ _ c'
            have hbk1 : (ad.add (i * 3)).block ≠ gg := by omega
            have hbk2 : (ad.add (i * 3)).block ≠ g := by omega
            have t2 : w2.cell? ⟨g, 2, none⟩ = some (.int .i64 left) := st2.P.cell 2
            have tf := st2.P.frozen 2
            have q0 : (0 : Int) ≤ (i : Int) := by omega
            have q1 : (i : Int) < (l.length : Int) := by omega
            have hw1 : IntKind.i64.wrap (G.getD i 0 + (shr l i).f2) = G.getD i 0 + (shr l i).f2 := IntWalk.i64_in _ (by omega)
            have hw2 : IntKind.i64.wrap (left - (shr l i).f2) = left - (shr l i).f2 := IntWalk.i64_in _ (by omega)
            clear he st2 st3 st4 hF2 hB2 hB3 hB4 ea c0 c1 d0 d1
            have hk2 : left - (shr l i).f2 < (k : Int) ∧ left - (shr l i).f2 ≤ 1099511627776 ∧ (left - (shr l i).f2).toNat < left.toNat := by omega
            generalize (shr l i).f2 = x2 at *
            generalize G.getD i 0 = gi at *
            go_wp2_with fail
            go_region_with (fail)
            all_goals
              go_wp2_with fail
              go_region_with (fail)
              all_goals
                go_wp2_with fail
                refine ⟨⟨k, G.set i (gi + x2), left - x2, Lib.hid HR.out.1.symm, hk2.1, hk2.2.1, Lib.hid ⟨HR.out.2.1.on (by repeat (first | exact Below.refl _ _ | apply below_drew1 | apply pw_below_drewN)), HR.out.2.2.1, bt HR.out.2.2.2 (by repeat (first | exact Below.refl _ _ | apply below_drew1 | apply pw_below_drewN))⟩⟩, ?_⟩
                rw [hml, leftOf_pot (HR.out.2.1.on (by repeat (first | exact Below.refl _ _ | apply below_drew1 | apply pw_below_drewN)))]
                exact hk2.2.2
  · have hB2 := bt (hb1.alloc hb1.size (.cells (ints (List.replicate l.length 0)) 3)) (bt (below_drew1 (Below.refl _ _)) hb2)
    have hsz := hB2.size
    have hsz1 := hb1.size
    have hZ0 := (Blk.new w1 3 (ints (List.replicate l.length 0)))
    have hlt0 : w1.heap.size < w2.heap.size := by have := hb2.size; simp at this; omega
    have hZ := (Blk.below hZ0 (bt (below_drew1 (Below.refl _ _)) hb2) hZ0.lt).alloc (.cells #[.int .i64 q, .int .i64 (sumA l), .int .i64 q, .slice A l.length c, .slice (some ⟨w1.heap.size, 0, none⟩) l.length l.length] 61)
    have hP := Blk.new w2 61 #[.int .i64 q, .int .i64 (sumA l), .int .i64 q, .slice A l.length c, .slice (some ⟨w1.heap.size, 0, none⟩) l.length l.length]
    have hB := hB2.alloc hB2.size (.cells #[.int .i64 q, .int .i64 (sumA l), .int .i64 q, .slice A l.length c, .slice (some ⟨w1.heap.size, 0, none⟩) l.length l.length] 61)
    have st : Pot _ w2.heap.size w1.heap.size q (sumA l) q A c l (List.replicate l.length 0) := ⟨hP, hZ, Kd.C_below hl hB, by simp⟩
    have hne : w2.heap.size ≠ w1.heap.size := by omega
    have hlow : w.heap.size ≤ w1.heap.size ∧ w.heap.size ≤ w2.heap.size := by omega
    clear hP hZ hZ0 hB2 hb1 hb2 hsz hsz1 hlt0
    generalize w2.alloc (.cells #[.int .i64 q, .int .i64 (sumA l), .int .i64 q, .slice A l.length c, .slice (some ⟨w1.heap.size, 0, none⟩) l.length l.length] 61) = W at *
    generalize w2.heap.size = g at *
    generalize w1.heap.size = gg at *
    go_wp2_with fail
    go_loopw [34] (fun i wr => ∃ j : Nat, j ≤ l.length ∧ i = .int .i64 j ∧ Pot wr g gg q (sumA l) (initL q (sumA l) l j) A c l (initG q (sumA l) l j) ∧ Below w.heap.size w wr) (fun i _ => l.length - (intOf i).toNat)
    case atStart => exact ⟨0, Nat.zero_le _, rfl, by have e1 : initL q (sumA l) l 0 = q := by unfold initL; simp
                                                     have e2 : initG q (sumA l) l 0 = List.replicate l.length 0 := by unfold initG; simp
                                                     rw [e1, e2]; exact st, hB⟩
    case round =>
      clear st hB HC HT HW hmk
      obtain ⟨j, hj, rfl, st, hB⟩ := hrel
      by_cases hlt : j < l.length
      · have hfx := first_b (all := sumA l) (x := shr l j) hq (rd_all hall j hlt) (f0_le hokA j hlt) (by omega)
        have hxo := rd_all hall j hlt
        have hLb := initL_b hq hall rfl (show 1 ≤ sumA l by omega) hm.2 j hj
        have hsG := initG_step q (sumA l) l j hlt
        have hsL := initL_step q (sumA l) l j hlt
        have hvj := initG_at q (sumA l) l j hlt
        obtain ⟨r, hf⟩ : ∃ r : Int, ∀ w', Calls Try.prog 32 #[.int .i64 q, .int .i64 (shr l j).f0, .int .i64 (sumA l)] w' fun e w'' => e = .returned (.tuple #[.int .i64 (q * (shr l j).f0 / (sumA l)), .int .i64 r]) ∧ Below w'.heap.size w' w'' := fair_all q (shr l j).f0 (sumA l) hq ⟨by have := okShr_A hxo; exact this.1, f0_le hokA j hlt⟩ ⟨by omega, by omega⟩
        have hfl : ∀ w', Calls Try.prog 33 #[.int .i64 (min (q * (shr l j).f0 / sumA l) (shr l j).f1), .int .i64 (shr l j).f2] w' fun e w'' => e = .returned (.tuple #[.int .i64 (firstI q (sumA l) (shr l j)), .int .i64 0]) ∧ Below w'.heap.size w' w'' := fun w' => grain_Floor.calls _ _ _ _ w' (floor_is hxo hfx.1)
        obtain ⟨⟨ad, rfl, c0, c1, c2⟩, g0⟩ := st.row j hlt
        have y1 := st.P.cell 1; have y2 := st.P.cell 2; have y4 := st.P.cell 4
        simp at y1 y2 y4
        unfold okShr at hxo
        simp only [Bool.and_eq_true, decide_eq_true_eq] at hxo
        generalize firstI q (sumA l) (shr l j) = v at *
        generalize q * (shr l j).f0 / sumA l = fa at *
        generalize (shr l j).f0 = x0 at *
        generalize (shr l j).f1 = x1 at *
        generalize (shr l j).f2 = x2 at *
        generalize initL q (sumA l) l j = left at *
        generalize initG q (sumA l) l j = G0 at *
        generalize G0.getD j 0 = gj at *
        have hwl : IntKind.i64.wrap (left - v) = left - v := IntWalk.i64_in _ (by omega)
        have HN := Lib.hid (And.intro hsG hsL)
        have HV := Lib.hid hvj
        have HF := Lib.hid hf; have HFL := Lib.hid hfl
        have hgl := st.P.lt; have hggl := st.R.lt
        have bO := (Below.refl wr.heap.size wr).alloc (Nat.le_refl _) (.cells #[.int .i64 x0, .int .i64 x1, .int .i64 x2] 42)
        have hO := Blk.new wr 42 #[.int .i64 x0, .int .i64 x1, .int .i64 x2]
        have st8 := st.on bO
        have hB8 := bt hB bO
        have ST := Lib.hid st8; have HO := Lib.hid hO; have HB := Lib.hid hB8
        clear hvj hsG hsL hf hfl st hB bO hO st8 hB8 hfx hLb hxo
        go_upto_region 10 with (fail)
        generalize wr.alloc (.cells #[.int .i64 x0, .int .i64 x1, .int .i64 x2] 42) = w8 at *
        have hos : wr.heap.size ≠ g ∧ wr.heap.size ≠ gg := by omega
        generalize wr.heap.size = o at *
        clear c0 c1 c2 g0 y1 y2 y4 hgl hggl
        have keepS : ∀ w', Below w8.heap.size w8 w' → w'.cell? ⟨o, 0, none⟩ = some (.int .i64 x0) ∧ w'.cell? ⟨g, 1, none⟩ = some (.int .i64 (sumA l)) ∧ Below w8.heap.size w8 w' := fun w' h => ⟨(Blk.below HO.out h HO.out.lt).cell 0, (ST.out.on h).P.cell 1, h⟩
        have KS := Lib.hid keepS
        obtain ⟨z0, z1, _⟩ := keepS w8 (Below.refl _ _)
        clear keepS
        go_region_held3 (fun w' => w'.cell? ⟨o, 0, none⟩ = some (.int .i64 x0) ∧ w'.cell? ⟨g, 1, none⟩ = some (.int .i64 (sumA l)) ∧ Below w8.heap.size w8 w') (first | exact KS.out _ (by repeat (first | exact Below.refl _ _ | assumption | apply below_drew1 | apply pw_below_drewN | refine bt ?_ hb5))) (first | (go_at_call 32; (with_reducible refine (HF.out _).mono ?_); rintro e w9 ⟨rfl, hb5⟩))
        have hb9 : Below w8.heap.size w8 w9 := by repeat (first | exact Below.refl _ _ | assumption | apply below_drew1 | apply pw_below_drewN | refine bt ?_ hb5)
        have st9 := ST.out.on hb9
        have hB9 := bt HB.out hb9
        have hO9 := Blk.below HO.out hb9 HO.out.lt
        clear KS ST HO HB z0 z1 hb5 hb9 HF
        have x4 := st9.P.cell 4; have s1 := hO9.cell 1; have s2 := hO9.cell 2
        simp at x4 s1 s2
        have hj0 : (0 : Int) ≤ (j : Int) := by omega
        have hj1 : (j : Int) < (l.length : Int) := by omega
        have hjj : j < l.length := hlt
        go_upto_region 11 with (fail)
        have keep2 : ∀ w', Below w9.heap.size w9 w' → w'.cell? ⟨g, 4, none⟩ = some (.slice (some ⟨gg, 0, none⟩) l.length l.length) ∧ w'.cell? ⟨o, 1, none⟩ = some (.int .i64 x1) ∧ w'.cell? ⟨o, 2, none⟩ = some (.int .i64 x2) := fun w' h => ⟨(st9.on h).P.cell 4, (Blk.below hO9 h hO9.lt).cell 1, (Blk.below hO9 h hO9.lt).cell 2⟩
        have K2 := Lib.hid keep2
        clear keep2
        go_region_held3 (fun w' => w'.cell? ⟨g, 4, none⟩ = some (.slice (some ⟨gg, 0, none⟩) l.length l.length) ∧ w'.cell? ⟨o, 1, none⟩ = some (.int .i64 x1) ∧ w'.cell? ⟨o, 2, none⟩ = some (.int .i64 x2)) (first | exact kk | exact K2.out _ (by repeat (first | exact Below.refl _ _ | assumption | apply below_drew1 | apply pw_below_drewN | refine bt ?_ hb6))) (first | (go_at_call 33; (with_reducible refine (HFL.out _).mono ?_); rintro e wx ⟨rfl, hb6⟩; have hbx : Below w9.heap.size w9 wx := (by repeat (first | exact Below.refl _ _ | assumption | apply below_drew1 | apply pw_below_drewN | refine bt ?_ hb6)); have stx := st9.on hbx; have xgg := (stx.row j hlt).2; have xfg := stx.R.frozen j; have kk : (fun w' : World => w'.cell? ⟨g, 4, none⟩ = some (.slice (some ⟨gg, 0, none⟩) l.length l.length) ∧ w'.cell? ⟨o, 1, none⟩ = some (.int .i64 x1) ∧ w'.cell? ⟨o, 2, none⟩ = some (.int .i64 x2)) (wx.setCell ⟨gg, j, none⟩ (.int .i64 v)) := ⟨(stx.P.far (p := ⟨gg, j, none⟩) hne (.int .i64 v)).cell 4, ((Blk.below hO9 hbx hO9.lt).far (p := ⟨gg, j, none⟩) hos.2 (.int .i64 v)).cell 1, ((Blk.below hO9 hbx hO9.lt).far (p := ⟨gg, j, none⟩) hos.2 (.int .i64 v)).cell 2⟩))
        obtain ⟨stS, hBS⟩ := stx.setG hl (bt hB9 hbx) hlow.1 hne j v
        rw [HN.out.1] at stS
        clear stx xgg xfg hbx hb6 kk K2 HFL st9 hB9 hO9 x4 s1 s2
        generalize wx.setCell ⟨gg, j, none⟩ (.int .i64 v) = wS at *
        have t2 := stS.P.cell 2; have t4 := stS.P.cell 4
        simp at t2 t4
        have tg := (stS.row j hlt).2
        have tf := stS.P.frozen 2
        have tv : (initG q (sumA l) l (j + 1)).getD j 0 = v := HV.out
        rw [tv] at tg
        obtain ⟨stE, hBE⟩ := stS.setLeft hl hBS hlow.2 hne (left - v)
        have HE := Lib.hid (And.intro stE hBE)
        have HL := Lib.hid HN.out.2
        clear stE hBE stS hBS tv HV HN
        go_upto_region 12 with (fail)
        go_region_with (fail)
        all_goals
          go_wp2_with fail
          go_roundw
          case rel => exact ⟨j + 1, by omega, by go_num, by rw [HL.out]; exact HE.out.1.on (below_drew1 (Below.refl _ _)), bt HE.out.2 (below_drew1 (Below.refl _ _))⟩
          case measure => simp only [intOf]; omega
      · obtain rfl : j = l.length := by omega
        rw [(initG_end q (sumA l) l).1, (initG_end q (sumA l) l).2] at st
        have hfb := firstG_b hq hall rfl (show 1 ≤ sumA l by omega)
        have hin : initL q (sumA l) l l.length ≤ q := (initL_b hq hall rfl (show 1 ≤ sumA l by omega) hm.2 l.length (Nat.le_refl _)).2
        rw [(initG_end q (sumA l) l).2] at hin
        generalize hLT : q - (firstG q (sumA l) l).sum = lt0 at *
        generalize hG0 : firstG q (sumA l) l = G0 at *
        have HLT := Lib.hid hLT; have HG0 := Lib.hid hG0
        clear hLT hG0
        go_wp2_with fail
        have F0 : PotOk q (sumA l) l G0 := ⟨hall, hm.2, hq, ⟨by omega, by omega⟩, hfb⟩
        have hk0 : lt0 < ((q.toNat + 1 : Nat) : Int) := by omega
        go_loopw [13] (fun i wr => ∃ (k : Nat) (G : List Int) (left : Int), Hid (lotsN q (sumA l) l k G left = lotsN q (sumA l) l (q.toNat + 1) G0 lt0) ∧ left < (k : Int) ∧ left ≤ 1099511627776 ∧ Hid (Pot wr g gg q (sumA l) left A c l G ∧ PotOk q (sumA l) l G ∧ Below w.heap.size w wr)) (fun _ wr => (leftOf wr g).toNat)
        case atStart => exact ⟨q.toNat + 1, G0, lt0, Lib.hid rfl, hk0, by omega, Lib.hid ⟨st, F0, hB⟩⟩
        case round =>
          clear st F0 hB hfb hin hk0
          obtain ⟨k, G, left, HE, hlk, hl40, HS⟩ := hrel
          obtain ⟨st, F, hB⟩ := HS.out
          have hnx := next_walk g gg q (sumA l) left A c l G F wr st
          have hml := leftOf_pot st
          rcases nextN_b q (sumA l) left l G l.length with hno | ⟨i, hi, hyes⟩
          · have he := lots_end (k := k) (show nextN q (sumA l) left l G l.length < 0 by omega)
            rw [hno] at hnx
            rw [HE.out] at he
            clear HE HS
            go_wp2_with fail
            refine hnx.mono ?_
            rintro e w2 ⟨rfl, hb2⟩
            have st2 := st.on hb2
            have x2 := st2.P.cell 2; have x4 := st2.P.cell 4
            simp at x2 x4
            go_wp2_with fail
            repeat (go_quiet (fail); try go_wp2)
            exact bodyPost_ret (v := .tuple #[.slice (some ⟨gg, 0, none⟩) l.length l.length, .int .i64 left, .int .i64 0]) (by simp [results, Try.results17, go_sem]) rfl ⟨gg, by rw [HG0.out, HLT.out, he], hlow.1, by rw [HG0.out, HLT.out, he]; exact Blk.below st2.R (by repeat (first | exact Below.refl _ _ | assumption | apply below_drew1 | apply pw_below_drewN)) st2.R.lt, bt hB (bt hb2 (by repeat (first | exact Below.refl _ _ | assumption | apply below_drew1 | apply pw_below_drewN)))⟩
          · obtain ⟨k, rfl⟩ : ∃ m, k = m + 1 := ⟨k - 1, by
              have hmy := nextN_may hyes
              unfold mayS at hmy
              simp only [Bool.and_eq_true, decide_eq_true_eq] at hmy
              have hxo : okShr (shr l i) = true := rd_all hall i hi
              unfold okShr at hxo
              simp only [Bool.and_eq_true, decide_eq_true_eq] at hxo
              omega⟩
            have hmy := nextN_may hyes
            unfold mayS at hmy
            simp only [Bool.and_eq_true, decide_eq_true_eq] at hmy
            have hxo : okShr (shr l i) = true := rd_all hall i hi
            unfold okShr at hxo
            simp only [Bool.and_eq_true, decide_eq_true_eq] at hxo
            have he := lots_step (k := k) hyes
            rw [HE.out] at he
            rw [hyes] at hnx
            have hF2 : PotOk q (sumA l) l (G.set i (G.getD i 0 + (shr l i).f2)) := ⟨F.ok, F.hm, F.hq, F.ha, set_b F.hG (by have := F.hG i; omega)⟩
            have hgi := F.hG i
            have hx1 : (shr l i).f1 ≤ 1099511627776 ∧ 1 ≤ (shr l i).f2 ∧ (shr l i).f2 ≤ left ∧ G.getD i 0 ≤ (shr l i).f1 - (shr l i).f2 := ⟨by omega, hxo.2.1, hmy.1, hmy.2⟩
            clear HE HS hxo hmy hyes F
            go_wp2_with fail
            refine hnx.mono ?_
            rintro e w2 ⟨rfl, hb2⟩
            have st2 := st.on hb2
            have hB2 := bt hB hb2
            clear st hB hnx hb2
            obtain ⟨⟨ad, rfl, c0, c1, c2⟩, g0⟩ := st2.row i hi
            have x4 := st2.P.cell 4; have fg := st2.R.frozen i
            simp at x4
            obtain ⟨st3, hB3⟩ := st2.setG hl hB2 hlow.1 hne i (G.getD i 0 + (shr l i).f2)
            obtain ⟨st4, hB4⟩ := st3.setLeft hl hB3 hlow.2 hne (left - (shr l i).f2)
            have HR := Lib.hid (And.intro he (And.intro st4 (And.intro hF2 hB4)))
            obtain ⟨⟨ad3, ea, d0, d1, d2⟩, _⟩ := st3.row i hi
            obtain rfl := Option.some.inj ea
            have z2 : (w2.drew.setCell ⟨gg, i, none⟩ (.int .i64 (G.getD i 0 + (shr l i).f2))).cell? ⟨g, 2, none⟩ = some (.int .i64 left) := st3.P.cell 2
            have zf : (w2.drew.setCell ⟨gg, i, none⟩ (.int .i64 (G.getD i 0 + (shr l i).f2))).frozen? ⟨g, 2, none⟩ = false := st3.P.frozen 2
            have d2' : (w2.drew.setCell ⟨gg, i, none⟩ (.int .i64 (G.getD i 0 + (shr l i).f2))).cell? ⟨(ad.add (i * 3)).block, (ad.add (i * 3)).off + 2, none⟩ = some (.int .i64 (shr l i).f2) := d2
            have hbk : (ad.add (i * 3)).block < w.heap.size := by
              obtain ⟨ad', e', c', _⟩ := U.at_T42 hl (i : Int) (by omega) (by omega)
              obtain rfl := Option.some.inj e'
              rw [Int.toNat_natCast] at c'
              exact World.block_lt_of_cell? _ _ c'
            have hbk1 : (ad.add (i * 3)).block ≠ gg := by omega
            have hbk2 : (ad.add (i * 3)).block ≠ g := by omega
            have t2 : w2.cell? ⟨g, 2, none⟩ = some (.int .i64 left) := st2.P.cell 2
            have tf := st2.P.frozen 2
            have q0 : (0 : Int) ≤ (i : Int) := by omega
            have q1 : (i : Int) < (l.length : Int) := by omega
            have hw1 : IntKind.i64.wrap (G.getD i 0 + (shr l i).f2) = G.getD i 0 + (shr l i).f2 := IntWalk.i64_in _ (by omega)
            have hw2 : IntKind.i64.wrap (left - (shr l i).f2) = left - (shr l i).f2 := IntWalk.i64_in _ (by omega)
            clear he st2 st3 st4 hF2 hB2 hB3 hB4 ea c0 c1 d0 d1
            have hk2 : left - (shr l i).f2 < (k : Int) ∧ left - (shr l i).f2 ≤ 1099511627776 ∧ (left - (shr l i).f2).toNat < left.toNat := by omega
            generalize (shr l i).f2 = x2 at *
            generalize G.getD i 0 = gi at *
            go_wp2_with fail
            go_region_with (fail)
            all_goals
              go_wp2_with fail
              go_region_with (fail)
              all_goals
                go_wp2_with fail
                refine ⟨⟨k, G.set i (gi + x2), left - x2, Lib.hid HR.out.1.symm, hk2.1, hk2.2.1, Lib.hid ⟨HR.out.2.1.on (by repeat (first | exact Below.refl _ _ | apply below_drew1 | apply pw_below_drewN)), HR.out.2.2.1, bt HR.out.2.2.2 (by repeat (first | exact Below.refl _ _ | apply below_drew1 | apply pw_below_drewN))⟩⟩, ?_⟩
                rw [hml, leftOf_pot (HR.out.2.1.on (by repeat (first | exact Below.refl _ _ | apply below_drew1 | apply pw_below_drewN)))]
                exact hk2.2.2
set_option maxHeartbeats 4000000 in
set_option maxRecDepth 100000 in
theorem lots_bad (q : Int) (A : Option Addr) (c : Nat) (l : List Shr) (hno : checkS l = false ∨ ¬ (0 ≤ q ∧ q ≤ 1099511627776)) (w : World) (hl : Kd.C kS w A l.length l) :
    Calls Try.prog 17 #[.int .i64 q, .slice A l.length c] w fun e w' => e = .returned (.tuple #[.slice none 0 0, .int .i64 0, .int .i64 2]) ∧ Below w.heap.size w w' := by
  have hck := check_walk A c l w hl
  have hw := fun w => lwithin_walk q 0 1099511627776 w
  cases hb : checkS l with
  | false =>
    rw [hb, if_neg (by decide)] at hck
    have HC := Lib.hid hck
    clear hck hw hno hb
    go_enter Try.func17, Try.ntmps17
    go_wp2_with (go_at_call 12; (with_reducible refine HC.out.mono ?_); rintro e w1 ⟨rfl, hb1⟩)
    exact bodyPost_ret (v := .tuple #[.slice none 0 0, .int .i64 0, .int .i64 2]) (by simp [results, Try.results17, go_sem]) rfl ⟨rfl, hb1⟩
  | true =>
    have hq : ¬ (0 ≤ q ∧ q ≤ 1099511627776) := by
      rcases hno with h | h
      · rw [hb] at h; cases h
      · exact h
    rw [hb, if_pos rfl] at hck
    rw [decide_eq_false hq] at hw
    have HC := Lib.hid hck; have HW := Lib.hid hw
    clear hck hw hno hb hq
    go_enter Try.func17, Try.ntmps17
    go_wp2_with (first | (go_at_call 12; (with_reducible refine HC.out.mono ?_); rintro e w1 ⟨rfl, hb1⟩) | (go_at_call 23; (with_reducible refine (HW.out _).mono ?_); rintro e wa ⟨rfl, hwa⟩; replace hwa := hwa.symm; subst hwa))
    exact bodyPost_ret (v := .tuple #[.slice none 0 0, .int .i64 0, .int .i64 2]) (by simp [results, Try.results17, go_sem]) rfl ⟨rfl, hb1⟩
end Go.Proofs.Ytknmojjccfhchaa.Hand

/- allot.Lots as a function: what each gets, what is left. -/
set_option linter.unusedVariables false
set_option linter.unusedSimpArgs false
namespace Go.Proofs.Ytknmojjccfhchaa.Hand
open Go Go.RowKit Go.Proofs.YtknmojjccfhchaaW.PrintWords Go.Proofs.YtknmojjccfhchaaW.PrintMore Go.Proofs.Ytknmojjccfhchaa.RL Go.Proofs.Ytknmojjccfhchaa.PL
theorem reps_ints (w : World) (b : Nat) (ok : Nat → Prop) : ∀ l : List Int, Reps ((Kd.int .i64).M w b ok) 1 l (l.map (Value.int .i64))
  | [] => Reps.none _ _
  | x :: l => Reps.one rfl (reps_ints w b ok l)
theorem own_ints {w : World} {b : Nat} {v : Value} {l : List Int} (h : w.ownsRow b 3 1 v l.length (l.map (Value.int .i64))) : Kd.R (Kd.int .i64) 3 w b (fun _ => True) v l :=
  ⟨fun _ _ => trivial, _, h, reps_ints _ _ _ l⟩
theorem blk_own {w : World} {b g n : Nat} {l : List Int} (h : Blk w g 3 (ints l)) (hn : l.length = n) (hb : b ≤ g) (hm : n ≤ 1000) : Kd.R (Kd.int .i64) 3 w b (fun _ => True) (.slice (some ⟨g, 0, none⟩) n n) l := by
  subst hn
  exact own_ints ⟨by simp, .inr ⟨g, l.length, ints l, rfl, hb, h, Nat.le_refl _, Nat.le_trans hm (by decide), by simp [ints], by simp [ints]; exact List.take_of_length_le (by simp)⟩⟩
theorem lots_len (q all : Int) (l : List Shr) : ∀ (k : Nat) (G : List Int) (left : Int), (lotsN q all l k G left).1.length = G.length
  | 0, G, left => rfl
  | k + 1, G, left => by
    simp only [lotsN]
    split
    · rfl
    · rw [lots_len q all l k]; exact List.length_set
/-- What each gets, and what is left. -/
def lotsS (q : Int) (l : List Shr) : List Int × Int := lotsN q (sumA l) l (q.toNat + 1) (firstG q (sumA l) l) (q - (firstG q (sumA l) l).sum)
def allot_Lots.f (a0 : Int) (l1 : List Shr) : Option (List Int × Int × Int) := some (if checkS l1 = true ∧ (0 ≤ a0 ∧ a0 ≤ 1099511627776) then ((lotsS a0 l1).1, (lotsS a0 l1).2, 0) else ([], 0, 2))
theorem allot_Lots.calls (a0 : Int) (A1 : Option Addr) (c1 : Nat) (l1 : List Shr) (r1 : List Int) (r2 : Int) (r3 : Int) (w : World) (hr1 : Kd.C kS w A1 l1.length l1) (hc1 : l1.length ≤ c1) (h : allot_Lots.f a0 l1 = some (r1, r2, r3)) :
    Calls Try.prog 17 #[.int .i64 a0, .slice A1 l1.length c1] w fun e w' => ∃ v0_ : Value, e = .returned (.tuple #[v0_, .int .i64 r2, .int .i64 r3]) ∧ Kd.R (Kd.int .i64) 3 w' w.heap.size (fun _ => True) v0_ r1 ∧ Below w.heap.size w w' := by
  have h := Option.some.inj h
  by_cases g : checkS l1 = true ∧ (0 ≤ a0 ∧ a0 ≤ 1099511627776)
  · rw [if_pos g] at h
    simp only [Prod.mk.injEq] at h
    obtain ⟨rfl, rfl, rfl⟩ := h
    have hm : l1.length ≤ 64 := by
      have := g.1
      unfold checkS at this
      rw [Bool.and_eq_true, decide_eq_true_eq] at this
      exact this.1.2
    refine (lots_ok a0 A1 c1 l1 g.2 g.1 w hr1).mono ?_
    rintro e w' ⟨gg, rfl, hgg, hB, hb⟩
    exact ⟨_, rfl, blk_own hB (by unfold lotsS; rw [lots_len, firstG_len]) hgg (by omega), hb⟩
  · rw [if_neg g] at h
    simp only [Prod.mk.injEq] at h
    obtain ⟨rfl, rfl, rfl⟩ := h
    refine (lots_bad a0 A1 c1 l1 (by
      cases hb : checkS l1 with
      | false => exact .inl rfl
      | true => exact .inr fun h => g ⟨hb, h⟩) w hr1).mono ?_
    rintro e w' ⟨rfl, hb⟩
    exact ⟨_, rfl, Kd.R_nil _ _ _ _ _, hb⟩
/- What is true of lots: plainly. -/
/-- Each is on its lot, within its most; nobody could have one lot more; together with what is left it is all. -/
def FitS (q left : Int) (l : List Shr) (G : List Int) : Prop :=
  G.length = l.length ∧ 0 ≤ left ∧ G.sum + left = q ∧ ∀ i, i < l.length → 0 ≤ G.getD i 0 ∧ G.getD i 0 % (shr l i).f2 = 0 ∧ G.getD i 0 ≤ (shr l i).f1
theorem sum_set (G : List Int) (i : Nat) (x : Int) (h : i < G.length) : (G.set i (G.getD i 0 + x)).sum = G.sum + x := by
  induction G generalizing i with
  | nil => simp at h
  | cons a G ih =>
    cases i with
    | zero => simp [List.set]; omega
    | succ i =>
      have := ih i (by simpa using h)
      simp only [List.set_cons_succ, List.sum_cons, List.getD_cons_succ]
      rw [this]; omega
theorem fit_step {q left all : Int} {l : List Shr} {G : List Int} {i : Nat} (hok : l.all okShr = true) (h : FitS q left l G) (hi : i < l.length) (hmy : mayS l G left i = true) : FitS q (left - (shr l i).f2) l (G.set i (G.getD i 0 + (shr l i).f2)) := by
  obtain ⟨h1, h2, h3, h4⟩ := h
  unfold mayS at hmy
  simp only [Bool.and_eq_true, decide_eq_true_eq] at hmy
  have hxo : okShr (shr l i) = true := rd_all hok i hi
  unfold okShr at hxo
  simp only [Bool.and_eq_true, decide_eq_true_eq] at hxo
  refine ⟨by rw [List.length_set]; exact h1, by omega, by rw [sum_set G i _ (by omega)]; omega, ?_⟩
  intro k hk
  have h5 := h4 k hk
  by_cases e : k = i
  · subst e
    rw [List.getD_eq_getElem?_getD, List.getElem?_set_self (by omega), Option.getD_some]
    refine ⟨by omega, ?_, by omega⟩
    rw [Int.add_emod_right]; exact h5.2.1
  · rw [List.getD_eq_getElem?_getD, List.getElem?_set_ne (Ne.symm e), ← List.getD_eq_getElem?_getD]
    exact h5
theorem fit_lots {q all : Int} {l : List Shr} (hok : l.all okShr = true) : ∀ (k : Nat) (G : List Int) (left : Int), left < (k : Int) → FitS q left l G → FitS q (lotsN q all l k G left).2 l (lotsN q all l k G left).1 ∧ ∀ i, i < l.length → mayS l (lotsN q all l k G left).1 (lotsN q all l k G left).2 i = false
  | 0, G, left, hk, h => by have := h.2.1; omega
  | k + 1, G, left, hk, h => by
    rcases nextN_b q all left l G l.length with hno | ⟨i, hi, hyes⟩
    · have hlt : nextN q all left l G l.length < 0 := by omega
      rw [lots_end hlt]
      exact ⟨h, nextN_no hlt⟩
    · have hmy := nextN_may hyes
      have hs := fit_step (all := all) hok h hi hmy
      rw [lots_step hyes]
      have hxo : okShr (shr l i) = true := rd_all hok i hi
      unfold okShr at hxo
      simp only [Bool.and_eq_true, decide_eq_true_eq] at hxo
      exact fit_lots hok k _ _ (by omega) hs
/-- The first parts are together no more than all. -/
theorem first_sum {q : Int} (hq : 0 ≤ q) (all : Int) (h1 : 1 ≤ all) : ∀ l : List Shr, (∀ x ∈ l, okShr x = true ∧ 0 ≤ q * x.f0 / all) → (firstG q all l).sum * all ≤ q * sumA l ∧ 0 ≤ (firstG q all l).sum
  | [], _ => by simp [firstG, sumA]
  | x :: l, h => by
    have ih := first_sum hq all h1 l (fun y hy => h y (by simp [hy]))
    obtain ⟨hx, h0⟩ := h x (by simp)
    unfold okShr at hx
    simp only [Bool.and_eq_true, decide_eq_true_eq] at hx
    have e1 : (firstG q all (x :: l)).sum = firstI q all x + (firstG q all l).sum := by simp [firstG]
    have e2 : sumA (x :: l) = x.f0 + sumA l := by simp [sumA]
    have hf : 0 ≤ firstI q all x ∧ firstI q all x ≤ q * x.f0 / all := by
      unfold firstI
      have hmn : 0 ≤ min (q * x.f0 / all) x.f1 ∧ min (q * x.f0 / all) x.f1 ≤ q * x.f0 / all := by omega
      generalize min (q * x.f0 / all) x.f1 = m at *
      have hd := div_b (n := m) (s := x.f2) (by omega) hmn.1
      exact ⟨hd.2.2.2, by omega⟩
    have h3 : firstI q all x * all ≤ q * x.f0 := Int.le_trans (Int.mul_le_mul_of_nonneg_right hf.2 (by omega)) (Int.ediv_mul_le _ (by omega))
    rw [e1, e2, Int.add_mul, Int.mul_add]
    exact ⟨by omega, by omega⟩
theorem fit_first {q : Int} {l : List Shr} (hq : 0 ≤ q ∧ q ≤ 1099511627776) (hok : l.all okShr = true) (h1 : 1 ≤ sumA l) : FitS q (q - (firstG q (sumA l) l).sum) l (firstG q (sumA l) l) := by
  have hA : ∀ x ∈ l, okA x := fun x hx => okShr_A (List.all_eq_true.1 hok x hx)
  have hs := first_sum hq.1 (sumA l) h1 l (fun x hx => ⟨List.all_eq_true.1 hok x hx, Int.ediv_nonneg (Int.mul_nonneg hq.1 (hA x hx).1) (by omega)⟩)
  have hle : (firstG q (sumA l) l).sum ≤ q := Int.le_of_mul_le_mul_right hs.1 (by omega)
  refine ⟨firstG_len _ _ _, by omega, by omega, ?_⟩
  intro i hi
  have e := firstG_at q (sumA l) l i hi
  rw [List.getD_eq_getElem?_getD, List.getElem?_eq_getElem (by rw [firstG_len]; exact hi), Option.getD_some, e]
  have hb := first_b (all := sumA l) (x := shr l i) hq (rd_all hok i hi) (f0_le hA i hi) h1
  exact ⟨hb.2.2.1, by unfold firstI; exact Int.mul_emod_left _ _, hb.2.2.2.1⟩
/-- What Lots gives. -/
theorem fit_all {q : Int} {l : List Shr} (hq : 0 ≤ q ∧ q ≤ 1099511627776) (hok : checkS l = true) : FitS q (lotsS q l).2 l (lotsS q l).1 ∧ ∀ i, i < l.length → mayS l (lotsS q l).1 (lotsS q l).2 i = false := by
  unfold checkS at hok
  simp only [Bool.and_eq_true, decide_eq_true_eq, Bool.not_eq_true', decide_eq_false_iff_not] at hok
  obtain ⟨hm, hall, hs0⟩ := hok
  have hsb := sumA_b l (fun x hx => okShr_A (List.all_eq_true.1 hall x hx))
  have hf := fit_first hq hall (by omega)
  have hs := first_sum hq.1 (sumA l) (by omega) l (fun x hx => ⟨List.all_eq_true.1 hall x hx, Int.ediv_nonneg (Int.mul_nonneg hq.1 (okShr_A (List.all_eq_true.1 hall x hx)).1) (by omega)⟩)
  unfold lotsS
  exact fit_lots (all := sumA l) hall _ _ _ (by omega) hf
end Go.Proofs.Ytknmojjccfhchaa.Hand

/- allot's split: the sum of whole numbers, the comparing of rests; walked. -/
set_option linter.unusedVariables false
set_option linter.unusedSimpArgs false
namespace Go.Proofs.Ytknmojjccfhchaa.Hand
open Go Go.RowKit Go.Proofs.YtknmojjccfhchaaW.PrintWords Go.Proofs.YtknmojjccfhchaaW.PrintMore Go.Proofs.Ytknmojjccfhchaa.RL Go.Proofs.Ytknmojjccfhchaa.PL
theorem same_int (x : Int) (w : World) : Calls Try.prog 38 #[.int .i64 x] w fun e w' => e = .returned (.int .i64 x) ∧ w' = w := by
  go_enter Try.func38, Try.ntmps38
  go_wp2_with fail
  go_ret
  exact ⟨rfl, rfl⟩
theorem isum_take (l : List Int) (j : Nat) (h : j < l.length) : (l.take (j + 1)).sum = (l.take j).sum + l.getD j 0 := by
  rw [List.take_succ_eq_append_getElem h, List.sum_append, List.getD_eq_getElem?_getD, List.getElem?_eq_getElem h]
  simp
theorem isum_b (l : List Int) (hb : ∀ x ∈ l, 0 ≤ x ∧ x ≤ 1099511627776) : 0 ≤ l.sum ∧ l.sum ≤ l.length * 1099511627776 := by
  induction l with
  | nil => simp
  | cons x l ih =>
    have h1 := hb x (by simp)
    have h2 := ih (fun y hy => hb y (by simp [hy]))
    simp only [List.sum_cons, List.length_cons]
    omega
set_option maxHeartbeats 4000000 in
set_option maxRecDepth 100000 in
theorem itotal_walk (A : Option Addr) (c : Nat) (l : List Int) (hm : l.length ≤ 64) (hb : ∀ x ∈ l, 0 ≤ x ∧ x ≤ 1099511627776) (w : World) (hC : Kd.C (Kd.int .i64) w A l.length l) :
    Calls Try.prog 36 #[.slice A l.length c, .func (.func 38) #[] #[]] w fun e w' => e = .returned (.int .i64 l.sum) ∧ w' = w := by
  have hl : ∀ j, j < l.length → ∃ ad, A = some ad ∧ w.cell? (ad.add j) = some (.int .i64 (l.getD j 0)) := fun j hj => by
    have := Kd.at_int hC (j : Int) (by omega) (by omega)
    rw [Int.toNat_natCast] at this
    have e : rd l (j : Int) = l.getD j 0 := by unfold rd; rw [Int.toNat_natCast]
    rwa [e] at this
  have hsum : ∀ j : Nat, j < l.length → (l.take (j + 1)).sum = (l.take j).sum + l.getD j 0 ∧ 0 ≤ (l.take j).sum ∧ (l.take j).sum ≤ 70368744177664 ∧ 0 ≤ l.getD j 0 ∧ l.getD j 0 ≤ 1099511627776 := fun j hj => by
    have h1 := isum_b (l.take j) (fun x hx => hb x (List.mem_of_mem_take hx))
    have h2 : 0 ≤ l.getD j 0 ∧ l.getD j 0 ≤ 1099511627776 := by
      rw [List.getD_eq_getElem?_getD, List.getElem?_eq_getElem hj]
      exact hb _ (List.getElem_mem hj)
    have h3 : (l.take j).length ≤ 64 := by rw [List.length_take]; omega
    exact ⟨isum_take l j hj, h1.1, by omega, h2.1, h2.2⟩
  have hend : l.sum = (l.take l.length).sum := by rw [List.take_length]
  have HR := Lib.hid hl; have HS := Lib.hid hsum; have HE := Lib.hid hend
  have hz : (l.take 0).sum = 0 := rfl
  clear hsum hl hend hC
  go_enter Try.func36, Try.ntmps36
  go_wp2_with fail
  go_loopw [5, 10] (fun s i wr => ∃ j : Nat, j ≤ l.length ∧ s = .int .i64 ((l.take j).sum) ∧ i = .int .i64 j ∧ wr = w) (fun _ i _ => l.length - (intOf i).toNat)
  case atStart => exact ⟨0, Nat.zero_le _, by rw [hz], rfl, rfl⟩
  case round =>
    obtain ⟨j, hj, rfl, rfl, rfl⟩ := hrel
    by_cases hlt : j < l.length
    · obtain ⟨ad, rfl, c0⟩ := HR.out j hlt
      obtain ⟨s1, s2, s3, s4, s5⟩ := HS.out j hlt
      have hA := fun w => same_int (l.getD j 0) w
      generalize l.getD j 0 = x at *
      generalize (l.take j).sum = s at *
      have HA := Lib.hid hA
      have hN := Lib.hid s1
      clear HR HS HE hz hA s1
      go_wp2_with (go_at_call 38; (with_reducible refine (HA.out _).mono ?_); rintro e wa ⟨rfl, rfl⟩)
      go_roundw
      case rel => exact ⟨j + 1, by omega, by rw [hN.out], by go_num, trivial⟩
      case measure => simp only [intOf]; omega
    · obtain rfl : j = l.length := by omega
      have he := HE.out
      clear HR HS HE
      go_wp2_with fail
      go_ret
      exact ⟨congrArg (fun x => Ending.returned (.int .i64 x)) he.symm, rfl⟩
/-- Of two rests the greater goes ahead. -/
def cfR (x y : Int) : Int := if y < x then -1 else if x < y then 1 else 0
set_option maxHeartbeats 2000000 in
theorem scmp_walk (bR gr n : Nat) (r : List Int) (i k : Nat) (hi : i < n) (hk : k < n) (w : World) (h1 : w.cell? ⟨bR, 0, none⟩ = some (.slice (some ⟨gr, 0, none⟩) n n)) (h2 : ∀ j, j < n → w.cell? ⟨gr, j, none⟩ = some (.int .i64 (r.getD j 0))) :
    Calls Try.prog 40 #[.int .i64 i, .int .i64 k, .pointer (some ⟨bR, 0, none⟩)] w fun e w' => e = .returned (.int .i64 (cfR (r.getD i 0) (r.getD k 0))) ∧ ∃ q, w' = w.drewN q := by
  have c1 := h2 i hi
  have c2 := h2 k hk
  have dn : ∀ e : Ending, ∀ m : Nat, e = e ∧ ∃ q, w.drewN m = w.drewN q := fun e m => ⟨rfl, m, rfl⟩
  have p1 : (0 : Int) ≤ (i : Int) := by omega
  have p2 : (0 : Int) ≤ (k : Int) := by omega
  have q1 : (i : Int) < (n : Int) := by omega
  have q2 : (k : Int) < (n : Int) := by omega
  clear h2 dn
  unfold cfR
  generalize r.getD i 0 = x at *
  generalize r.getD k 0 = y at *
  by_cases d1 : y < x
  · rw [if_pos d1]
    go_enter Try.func40, Try.ntmps40
    go_wp2_with fail
    repeat (go_quiet (fail); try go_wp2)
    go_ret
    exact ⟨rfl, by first | exact ⟨_, rfl⟩ | exact ⟨_, World.drewN_drewN ..⟩⟩
  · rw [if_neg d1]
    by_cases d2 : x < y
    · rw [if_pos d2]
      go_enter Try.func40, Try.ntmps40
      go_wp2_with fail
      repeat (go_quiet (fail); try go_wp2)
      go_ret
      exact ⟨rfl, by first | exact ⟨_, rfl⟩ | exact ⟨_, World.drewN_drewN ..⟩⟩
    · rw [if_neg d2]
      go_enter Try.func40, Try.ntmps40
      go_wp2_with fail
      repeat (go_quiet (fail); try go_wp2)
      go_ret
      exact ⟨rfl, by first | exact ⟨_, rfl⟩ | exact ⟨_, World.drewN_drewN ..⟩⟩
end Go.Proofs.Ytknmojjccfhchaa.Hand

