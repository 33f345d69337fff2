/- allot: the sum of what is asked for, Check, walked. -/
import Derived.Test.YtknmojjccfhchaaPl
import Derived.Test.YtknmojjccfhchaaHandE
import Derived.Test.YtknmojjccfhchaaBlk
import Derived.Test.YtknmojjccfhchaaUx1
import Derived.Laws.MakeOwn
import Derived.Laws.OwnMore
import Derived.LoopTactic
import Derived.BigRegion
import Derived.Outline
set_option linter.unusedVariables false
set_option linter.unusedSimpArgs false
namespace Go.Proofs.Ytknmojjccfhchaa.Hand
open Go Go.RowKit Go.Proofs.YtknmojjccfhchaaW.PrintWords Go.Proofs.YtknmojjccfhchaaW.PrintMore Go.Proofs.Ytknmojjccfhchaa.RL Go.Proofs.Ytknmojjccfhchaa.PL
abbrev Shr := U.S42
abbrev kS : Kd Shr := U.k42
def sumA (l : List Shr) : Int := (l.map (·.f0)).sum
def okA (x : Shr) : Prop := 0 ≤ x.f0 ∧ x.f0 ≤ 1099511627776
theorem sumA_take (l : List Shr) (j : Nat) (h : j < l.length) : sumA (l.take (j + 1)) = sumA (l.take j) + (U.rd_T42 l (j : Int)).f0 := by
  unfold sumA U.rd_T42
  rw [List.take_add_one, List.map_append, List.sum_append, Int.toNat_natCast, List.getD_eq_getElem?_getD, List.getElem?_eq_getElem h]
  simp
theorem sumA_b (l : List Shr) (hb : ∀ x ∈ l, okA x) : 0 ≤ sumA l ∧ sumA l ≤ l.length * 1099511627776 := by
  induction l with
  | nil => simp [sumA]
  | cons x l ih =>
    have h1 := hb x (by simp)
    have h2 := ih (fun y hy => hb y (by simp [hy]))
    unfold okA at h1
    unfold sumA at *
    simp only [List.map_cons, List.sum_cons, List.length_cons]
    omega
theorem ask_calls (x : Shr) (w : World) : Calls Try.prog 28 #[.agg #[.int .i64 x.f0, .int .i64 x.f1, .int .i64 x.f2]] w fun e w' => e = .returned (.int .i64 x.f0) ∧ Below w.heap.size w w' := by
  go_enter Try.func28, Try.ntmps28
  go_wp2_with fail
  go_ret
  exact ⟨rfl, by first | exact Below.refl _ _ | exact (Below.refl _ _).alloc (Nat.le_refl _) _⟩
set_option maxHeartbeats 4000000 in
set_option maxRecDepth 100000 in
theorem total_walk (A : Option Addr) (c : Nat) (l : List Shr) (hm : l.length ≤ 64) (hb : ∀ x ∈ l, okA x) (w : World) (hl : Kd.C kS w A l.length l) :
    Calls Try.prog 27 #[.slice A l.length c, .func (.func 28) #[] #[]] w fun e w' => e = .returned (.int .i64 (sumA l)) ∧ Below w.heap.size w w' := by
  have hrd : ∀ w' (j : Nat), Below w.heap.size w w' → j < l.length → ∃ ad, A = some ad ∧ w'.cell? (ad.add (j * 3)) = some (.int .i64 (U.rd_T42 l j).f0) ∧ w'.cell? ⟨(ad.add (j * 3)).block, (ad.add (j * 3)).off + 1, none⟩ = some (.int .i64 (U.rd_T42 l j).f1) ∧ w'.cell? ⟨(ad.add (j * 3)).block, (ad.add (j * 3)).off + 2, none⟩ = some (.int .i64 (U.rd_T42 l j).f2) := fun w' j hbw hj => by
    have := U.at_T42 (Kd.C_below hl hbw) (j : Int) (by omega) (by omega)
    rwa [Int.toNat_natCast] at this
  have hsum : ∀ j : Nat, j < l.length → sumA (l.take (j + 1)) = sumA (l.take j) + (U.rd_T42 l (j : Int)).f0 ∧ 0 ≤ sumA (l.take j) ∧ sumA (l.take j) ≤ 70368744177664 ∧ 0 ≤ (U.rd_T42 l (j : Int)).f0 ∧ (U.rd_T42 l (j : Int)).f0 ≤ 1099511627776 := fun j hj => by
    have h1 := sumA_b (l.take j) (fun x hx => hb x (List.mem_of_mem_take hx))
    have h2 : okA (U.rd_T42 l (j : Int)) := by
      unfold U.rd_T42
      rw [Int.toNat_natCast, List.getD_eq_getElem?_getD, List.getElem?_eq_getElem hj]
      exact hb _ (List.getElem_mem hj)
    have h3 : (l.take j).length ≤ 64 := by rw [List.length_take]; omega
    unfold okA at h2
    exact ⟨sumA_take l j hj, h1.1, by omega, h2.1, h2.2⟩
  have hend : sumA l = sumA (l.take l.length) := by rw [List.take_length]
  have HR := Lib.hid hrd; have HS := Lib.hid hsum; have HE := Lib.hid hend
  have hz : sumA (l.take 0) = 0 := rfl
  clear hrd hsum hl hend
  go_enter Try.func27, Try.ntmps27
  go_wp2_with fail
  go_loopw [5, 10] (fun s i wr => ∃ j : Nat, j ≤ l.length ∧ s = .int .i64 (sumA (l.take j)) ∧ i = .int .i64 j ∧ Below w.heap.size w wr) (fun _ i _ => l.length - (intOf i).toNat)
  case atStart => exact ⟨0, Nat.zero_le _, by rw [hz], rfl, Below.refl _ _⟩
  case round =>
    obtain ⟨j, hj, rfl, rfl, hB⟩ := hrel
    by_cases hlt : j < l.length
    · obtain ⟨ad, rfl, c0, c1, c2⟩ := HR.out wr j hB hlt
      obtain ⟨s1, s2, s3, s4, s5⟩ := HS.out j hlt
      have hA := fun w => ask_calls (U.rd_T42 l (j : Int)) w
      generalize U.rd_T42 l (j : Int) = X at *
      obtain ⟨x0, x1, x2⟩ := X
      dsimp only at *
      generalize sumA (l.take j) = s at *
      have HA := Lib.hid hA
      have hN := Lib.hid s1
      clear HR HS HE hz hA s1
      have hB2 := hB.alloc hB.size (.cells #[.int .i64 x0, .int .i64 x1, .int .i64 x2] 42)
      go_wp2_with (go_at_call 28; (with_reducible refine (HA.out _).mono ?_); rintro e wa ⟨rfl, hb1⟩)
      go_roundw
      case rel => exact ⟨j + 1, by omega, by rw [hN.out], by go_num, bt hB2 hb1⟩
      case measure => simp only [intOf]; omega
    · obtain rfl : j = l.length := by omega
      have he := HE.out
      clear HR HS HE
      go_wp2_with fail
      go_ret
      exact ⟨congrArg (fun x => Ending.returned (.int .i64 x)) he.symm, hB⟩
theorem lwithin_walk (n lo hi : Int) (w : World) : Calls Try.prog 23 #[.int .i64 n, .int .i64 lo, .int .i64 hi] w fun e w' => e = .returned (.bool (decide (lo ≤ n ∧ n ≤ hi))) ∧ w' = w := by
  by_cases h : lo ≤ n
  · go_enter Try.func23, Try.ntmps23
    go_wp2_with fail
    go_ret
    exact ⟨by simp [h], rfl⟩
  · go_enter Try.func23, Try.ntmps23
    go_wp2_with fail
    go_ret
    exact ⟨by simp; omega, rfl⟩
/-- May a share be? -/
def okShr (x : Shr) : Bool := decide (0 ≤ x.f0 ∧ x.f0 ≤ 1099511627776) && decide (0 ≤ x.f1 ∧ x.f1 ≤ x.f0) && decide (1 ≤ x.f2 ∧ x.f2 ≤ 1099511627776)
/-- May shares be? -/
def checkS (l : List Shr) : Bool := decide (1 ≤ l.length ∧ l.length ≤ 64) && (l.all okShr && !decide (sumA l = 0))
theorem okShr_A {x : Shr} (h : okShr x = true) : okA x := by
  unfold okShr at h
  simp only [Bool.and_eq_true, decide_eq_true_eq] at h
  exact h.1.1
theorem rd_all {l : List Shr} (h : l.all okShr = true) (j : Nat) (hj : j < l.length) : okShr (U.rd_T42 l (j : Int)) = true := by
  unfold U.rd_T42
  rw [Int.toNat_natCast, List.getD_eq_getElem?_getD, List.getElem?_eq_getElem hj]
  exact List.all_eq_true.1 h _ (List.getElem_mem hj)
theorem rd_no {l : List Shr} (j : Nat) (hj : j < l.length) (h : okShr (U.rd_T42 l (j : Int)) = false) : l.all okShr = false := by
  rw [Bool.eq_false_iff]
  intro ha
  rw [rd_all ha j hj] at h; cases h
theorem rd_yes {l : List Shr} (h : ∀ j : Nat, j < l.length → okShr (U.rd_T42 l (j : Int)) = true) : l.all okShr = true := by
  rw [List.all_eq_true]
  intro x hx
  obtain ⟨j, hj, rfl⟩ := List.getElem_of_mem hx
  have := h j hj
  unfold U.rd_T42 at this
  rwa [Int.toNat_natCast, List.getD_eq_getElem?_getD, List.getElem?_eq_getElem hj] at this
set_option maxHeartbeats 4000000 in
set_option maxRecDepth 100000 in
theorem check_walk (A : Option Addr) (c : Nat) (l : List Shr) (w : World) (hl : Kd.C kS w A l.length l) :
    Calls Try.prog 12 #[.slice A l.length c] w fun e w' => e = .returned (.int .i64 (if checkS l = true then 0 else 2)) ∧ Below w.heap.size w w' := by
  obtain ⟨v, hv⟩ : ∃ v : Int, v = (if checkS l = true then 0 else 2) := ⟨_, rfl⟩
  rw [← hv]
  have hlen : ¬ (1 ≤ l.length ∧ l.length ≤ 64) → v = 2 := fun h => by rw [hv]; unfold checkS; rw [decide_eq_false h]; rfl
  have hmn := Kd.C_max hl
  by_cases h64 : 1 ≤ l.length ∧ l.length ≤ 64
  · have hno : l.all okShr = false → v = 2 := fun h => by rw [hv]; unfold checkS; rw [h, Bool.false_and, Bool.and_false]; rfl
    have hye : l.all okShr = true → v = (if sumA l = 0 then 2 else 0) := fun h => by
      rw [hv]; unfold checkS; rw [h, decide_eq_true h64]
      by_cases hs : sumA l = 0
      · rw [if_pos hs, decide_eq_true hs]; rfl
      · rw [if_neg hs, decide_eq_false hs]; rfl
    have hrd : ∀ w' (j : Nat), Below w.heap.size w w' → j < l.length → ∃ ad, A = some ad ∧ w'.cell? (ad.add (j * 3)) = some (.int .i64 (U.rd_T42 l j).f0) ∧ w'.cell? ⟨(ad.add (j * 3)).block, (ad.add (j * 3)).off + 1, none⟩ = some (.int .i64 (U.rd_T42 l j).f1) ∧ w'.cell? ⟨(ad.add (j * 3)).block, (ad.add (j * 3)).off + 2, none⟩ = some (.int .i64 (U.rd_T42 l j).f2) := fun w' j hbw hj => by
      have := U.at_T42 (Kd.C_below hl hbw) (j : Int) (by omega) (by omega)
      rwa [Int.toNat_natCast] at this
    have htot : l.all okShr = true → ∀ w', Below w.heap.size w w' → Calls Try.prog 27 #[.slice A l.length c, .func (.func 28) #[] #[]] w' fun e w'' => e = .returned (.int .i64 (sumA l)) ∧ Below w'.heap.size w' w'' := fun h w' hb => total_walk A c l h64.2 (fun x hx => okShr_A (List.all_eq_true.1 h x hx)) w' (Kd.C_below hl hb)
    have hnj : ∀ j : Nat, j < l.length → okShr (U.rd_T42 l (j : Int)) = false → v = 2 := fun j hj h => hno (rd_no j hj h)
    have hyj : (∀ j : Nat, j < l.length → okShr (U.rd_T42 l (j : Int)) = true) → l.all okShr = true := rd_yes
    have w0 := fun w => lwithin_walk (l.length : Int) 1 64 w
    rw [decide_eq_true (show (1 : Int) ≤ (l.length : Int) ∧ (l.length : Int) ≤ 64 by omega)] at w0
    have HR := Lib.hid hrd; have HT := Lib.hid htot; have HN := Lib.hid hnj; have HY := Lib.hid hyj; have HE := Lib.hid hye; have HW := Lib.hid w0
    clear hrd htot hnj hyj hye hno w0 hlen hv hl
    go_enter Try.func12, Try.ntmps12
    go_wp2_with (go_at_call 23; (with_reducible refine (HW.out _).mono ?_); rintro e wa ⟨rfl, hwa⟩; replace hwa := hwa.symm; subst hwa)
    go_loopw [11] (fun i wr => ∃ j : Nat, j ≤ l.length ∧ i = .int .i64 j ∧ Below w.heap.size w wr ∧ Hid (∀ m : Nat, m < j → okShr (U.rd_T42 l (m : Int)) = true)) (fun i _ => l.length - (intOf i).toNat)
    case atStart => exact ⟨0, Nat.zero_le _, rfl, Below.refl _ _, Lib.hid fun m hm => absurd hm (Nat.not_lt_zero _)⟩
    case round =>
      obtain ⟨j, hj, rfl, hB, HI⟩ := hrel
      by_cases hlt : j < l.length
      · obtain ⟨ad, rfl, c0, c1, c2⟩ := HR.out wr j hB hlt
        have hF := HN.out j hlt
        have hT : okShr (U.rd_T42 l (j : Int)) = true → ∀ m : Nat, m < j + 1 → okShr (U.rd_T42 l (m : Int)) = true := by
          intro h m hm
          by_cases he : m = j
          · rw [he]; exact h
          · exact HI.out m (by omega)
        unfold okShr at hF
        have hT2 : (decide (0 ≤ (U.rd_T42 l (j : Int)).f0 ∧ (U.rd_T42 l (j : Int)).f0 ≤ 1099511627776) && decide (0 ≤ (U.rd_T42 l (j : Int)).f1 ∧ (U.rd_T42 l (j : Int)).f1 ≤ (U.rd_T42 l (j : Int)).f0) && decide (1 ≤ (U.rd_T42 l (j : Int)).f2 ∧ (U.rd_T42 l (j : Int)).f2 ≤ 1099511627776)) = true → ∀ m : Nat, m < j + 1 → okShr (U.rd_T42 l (m : Int)) = true := hT
        have i1 := fun w => lwithin_walk (U.rd_T42 l (j : Int)).f0 0 1099511627776 w
        have i2 := fun w => lwithin_walk (U.rd_T42 l (j : Int)).f1 0 (U.rd_T42 l (j : Int)).f0 w
        have i3 := fun w => lwithin_walk (U.rd_T42 l (j : Int)).f2 1 1099511627776 w
        have HT2 := Lib.hid hT2
        clear hT hT2 HI HN HY HE HT HW HR
        generalize decide (0 ≤ (U.rd_T42 l (j : Int)).f0 ∧ (U.rd_T42 l (j : Int)).f0 ≤ 1099511627776) = d1 at *
        generalize decide (0 ≤ (U.rd_T42 l (j : Int)).f1 ∧ (U.rd_T42 l (j : Int)).f1 ≤ (U.rd_T42 l (j : Int)).f0) = d2 at *
        generalize decide (1 ≤ (U.rd_T42 l (j : Int)).f2 ∧ (U.rd_T42 l (j : Int)).f2 ≤ 1099511627776) = d3 at *
        generalize (U.rd_T42 l (j : Int)).f0 = x0 at *
        generalize (U.rd_T42 l (j : Int)).f1 = x1 at *
        generalize (U.rd_T42 l (j : Int)).f2 = x2 at *
        have I1 := Lib.hid i1; have I2 := Lib.hid i2; have I3 := Lib.hid i3
        have HF := Lib.hid hF
        clear i1 i2 i3 hF
        have hB2 := hB.alloc hB.size (.cells #[.int .i64 x0, .int .i64 x1, .int .i64 x2] 42)
        have hq : d1 = false ∨ (d1 = true ∧ d2 = false) ∨ (d1 = true ∧ d2 = true ∧ d3 = false) ∨ (d1 = true ∧ d2 = true ∧ d3 = true) := by cases d1 <;> cases d2 <;> cases d3 <;> simp
        rcases hq with rfl | ⟨rfl, rfl⟩ | ⟨rfl, rfl, rfl⟩ | ⟨rfl, rfl, rfl⟩
        · have hv := HF.out rfl
          go_wp2_with (go_at_call 23; first | ((with_reducible refine (I1.out _).mono ?_); rintro e wa ⟨rfl, rfl⟩) | ((with_reducible refine (I2.out _).mono ?_); rintro e wb ⟨rfl, rfl⟩) | ((with_reducible refine (I3.out _).mono ?_); rintro e wc ⟨rfl, rfl⟩))
          go_ret
          exact ⟨by subst hv; rfl, hB2⟩
        · have hv := HF.out rfl
          go_wp2_with (go_at_call 23; first | ((with_reducible refine (I1.out _).mono ?_); rintro e wa ⟨rfl, rfl⟩) | ((with_reducible refine (I2.out _).mono ?_); rintro e wb ⟨rfl, rfl⟩) | ((with_reducible refine (I3.out _).mono ?_); rintro e wc ⟨rfl, rfl⟩))
          go_ret
          exact ⟨by subst hv; rfl, hB2⟩
        · have hv := HF.out rfl
          go_wp2_with (go_at_call 23; first | ((with_reducible refine (I1.out _).mono ?_); rintro e wa ⟨rfl, rfl⟩) | ((with_reducible refine (I2.out _).mono ?_); rintro e wb ⟨rfl, rfl⟩) | ((with_reducible refine (I3.out _).mono ?_); rintro e wc ⟨rfl, rfl⟩))
          go_ret
          exact ⟨by subst hv; rfl, hB2⟩
        · have hn := Lib.hid (HT2.out rfl)
          clear HT2 HF
          go_wp2_with (go_at_call 23; first | ((with_reducible refine (I1.out _).mono ?_); rintro e wa ⟨rfl, rfl⟩) | ((with_reducible refine (I2.out _).mono ?_); rintro e wb ⟨rfl, rfl⟩) | ((with_reducible refine (I3.out _).mono ?_); rintro e wc ⟨rfl, rfl⟩))
          go_roundw
          case rel => exact ⟨j + 1, by omega, by go_num, hB2, hn⟩
          case measure => simp only [intOf]; omega
      · have hall := HY.out (fun m hm => HI.out m (by omega))
        have hv := HE.out hall
        have ht := HT.out hall
        generalize sumA l = s at *
        have HT2 := Lib.hid ht
        clear HR HT HN HY HE HW HI hall ht
        by_cases hs : s = 0
        · rw [if_pos hs] at hv
          subst hs
          go_wp2_with (go_at_call 27; (with_reducible refine (HT2.out _ hB).mono ?_); rintro e wt ⟨rfl, hb⟩)
          go_ret
          exact ⟨by subst hv; rfl, bt hB hb⟩
        · rw [if_neg hs] at hv
          have hsb : (s == 0) = false := beq_eq_false_iff_ne.2 hs
          go_wp2_with (go_at_call 27; (with_reducible refine (HT2.out _ hB).mono ?_); rintro e wt ⟨rfl, hb⟩)
          go_ret
          exact ⟨by subst hv; rfl, bt hB hb⟩
  · have hv := hlen h64
    have w0 := fun w => lwithin_walk (l.length : Int) 1 64 w
    rw [decide_eq_false (show ¬ ((1 : Int) ≤ (l.length : Int) ∧ (l.length : Int) ≤ 64) by omega)] at w0
    have HW := Lib.hid w0
    clear w0 hlen hl
    go_enter Try.func12, Try.ntmps12
    go_wp2_with (go_at_call 23; (with_reducible refine (HW.out _).mono ?_); rintro e wa ⟨rfl, rfl⟩)
    go_ret
    exact ⟨by subst hv; rfl, Below.refl _ _⟩
end Go.Proofs.Ytknmojjccfhchaa.Hand
