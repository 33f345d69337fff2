/- allot.Worth, walked; as a function. -/
import Derived.Test.YtknmojjccfhchaaAlP
set_option linter.unusedVariables false
set_option linter.unusedSimpArgs false
namespace Go.Proofs.Ytknmojjccfhchaa.Hand
open Go Go.RowKit Go.Proofs.YtknmojjccfhchaaW.PrintWords Go.Proofs.YtknmojjccfhchaaW.PrintMore Go.Proofs.Ytknmojjccfhchaa.RL Go.Proofs.Ytknmojjccfhchaa.PL
theorem same_intW (x : Int) (w : World) : Calls Try.prog 37 #[.int .i64 x] w fun e w' => e = .returned (.int .i64 x) ∧ w' = w := by
  go_enter Try.func37, Try.ntmps37
  go_wp2_with fail
  go_ret
  exact ⟨rfl, rfl⟩
set_option maxHeartbeats 4000000 in
set_option maxRecDepth 100000 in
theorem wtotal_walk (A : Option Addr) (c : Nat) (l : List Int) (hm : l.length ≤ 64) (hb : ∀ x ∈ l, 0 ≤ x ∧ x ≤ 1099511627776) (w : World) (hC : Kd.C (Kd.int .i64) w A l.length l) :
    Calls Try.prog 36 #[.slice A l.length c, .func (.func 37) #[] #[]] w fun e w' => e = .returned (.int .i64 l.sum) ∧ w' = w := by
  have hl : ∀ j, j < l.length → ∃ ad, A = some ad ∧ w.cell? (ad.add j) = some (.int .i64 (l.getD j 0)) := fun j hj => by
    have := Kd.at_int hC (j : Int) (by omega) (by omega)
    rw [Int.toNat_natCast] at this
    have e : rd l (j : Int) = l.getD j 0 := by unfold rd; rw [Int.toNat_natCast]
    rwa [e] at this
  have hsum : ∀ j : Nat, j < l.length → (l.take (j + 1)).sum = (l.take j).sum + l.getD j 0 ∧ 0 ≤ (l.take j).sum ∧ (l.take j).sum ≤ 70368744177664 ∧ 0 ≤ l.getD j 0 ∧ l.getD j 0 ≤ 1099511627776 := fun j hj => by
    have h1 := isum_b (l.take j) (fun x hx => hb x (List.mem_of_mem_take hx))
    have h2 : 0 ≤ l.getD j 0 ∧ l.getD j 0 ≤ 1099511627776 := by
      rw [List.getD_eq_getElem?_getD, List.getElem?_eq_getElem hj]
      exact hb _ (List.getElem_mem hj)
    have h3 : (l.take j).length ≤ 64 := by rw [List.length_take]; omega
    exact ⟨isum_take l j hj, h1.1, by omega, h2.1, h2.2⟩
  have hend : l.sum = (l.take l.length).sum := by rw [List.take_length]
  have HR := Lib.hid hl; have HS := Lib.hid hsum; have HE := Lib.hid hend
  have hz : (l.take 0).sum = 0 := rfl
  clear hsum hl hend hC
  go_enter Try.func36, Try.ntmps36
  go_wp2_with fail
  go_loopw [5, 10] (fun s i wr => ∃ j : Nat, j ≤ l.length ∧ s = .int .i64 ((l.take j).sum) ∧ i = .int .i64 j ∧ wr = w) (fun _ i _ => l.length - (intOf i).toNat)
  case atStart => exact ⟨0, Nat.zero_le _, by rw [hz], rfl, rfl⟩
  case round =>
    obtain ⟨j, hj, rfl, rfl, rfl⟩ := hrel
    by_cases hlt : j < l.length
    · obtain ⟨ad, rfl, c0⟩ := HR.out j hlt
      obtain ⟨s1, s2, s3, s4, s5⟩ := HS.out j hlt
      have hA := fun w => same_intW (l.getD j 0) w
      generalize l.getD j 0 = x at *
      generalize (l.take j).sum = s at *
      have HA := Lib.hid hA
      have hN := Lib.hid s1
      clear HR HS HE hz hA s1
      go_wp2_with (go_at_call 37; (with_reducible refine (HA.out _).mono ?_); rintro e wa ⟨rfl, rfl⟩)
      go_roundw
      case rel => exact ⟨j + 1, by omega, by rw [hN.out], by go_num, trivial⟩
      case measure => simp only [intOf]; omega
    · obtain rfl : j = l.length := by omega
      have he := HE.out
      clear HR HS HE
      go_wp2_with fail
      go_ret
      exact ⟨congrArg (fun x => Ending.returned (.int .i64 x)) he.symm, rfl⟩
/-- May this be shared out by worth? -/
def okN (n : Int) : Bool := decide (0 ≤ n ∧ n ≤ 1099511627776)
def okW (q : Int) (l : List Int) : Bool := decide (0 ≤ q ∧ l.length ≤ 64) && (l.all okN && !decide (l.sum = 0))
set_option maxHeartbeats 4000000 in
set_option maxRecDepth 100000 in
theorem worth_walk (q : Int) (hq : q ≤ 9223372036854775807) (A : Option Addr) (c : Nat) (l : List Int) (w : World) (hl : Kd.C (Kd.int .i64) w A l.length l) :
    Calls Try.prog 22 #[.int .i64 q, .slice A l.length c] w fun e w' => Below w.heap.size w w' ∧ (okW q l = true → ∃ gg, e = .returned (.tuple #[.slice (some ⟨gg, 0, none⟩) l.length l.length, .int .i64 0]) ∧ w.heap.size ≤ gg ∧ Blk w' gg 3 (ints (splitS q l))) ∧ (okW q l = false → e = .returned (.tuple #[.slice none 0 0, .int .i64 2])) := by
  obtain ⟨ok, hok⟩ : ∃ ok, ok = okW q l := ⟨_, rfl⟩
  rw [← hok]
  have hmn := Kd.C_max hl
  by_cases h0 : 0 ≤ q
  · by_cases hm : l.length ≤ 64
    · have hrd : ∀ (j : Nat), j < l.length → ∃ ad, A = some ad ∧ w.cell? (ad.add j) = some (.int .i64 (l.getD j 0)) := fun j hj => by
        have := Kd.at_int hl (j : Int) (by omega) (by omega)
        rw [Int.toNat_natCast] at this
        have e : rd l (j : Int) = l.getD j 0 := by unfold rd; rw [Int.toNat_natCast]
        rwa [e] at this
      have hno : ∀ j : Nat, j < l.length → ¬ (0 ≤ l.getD j 0 ∧ l.getD j 0 ≤ 1099511627776) → ok = false := fun j hj h => by
        rw [hok]; unfold okW
        have : l.all okN = false := by
          rw [Bool.eq_false_iff]
          intro ha
          have := List.all_eq_true.1 ha (l.getD j 0) (by rw [List.getD_eq_getElem?_getD, List.getElem?_eq_getElem hj]; exact List.getElem_mem hj)
          unfold okN at this
          exact h (of_decide_eq_true this)
        rw [this, Bool.false_and, Bool.and_false]
      have hyes : (∀ j : Nat, j < l.length → (0 ≤ l.getD j 0 ∧ l.getD j 0 ≤ 1099511627776)) → (∀ x ∈ l, 0 ≤ x ∧ x ≤ 1099511627776) ∧ ok = !decide (l.sum = 0) := fun h => by
        have ha : ∀ x ∈ l, 0 ≤ x ∧ x ≤ 1099511627776 := fun x hx => by
          obtain ⟨j, hj, rfl⟩ := List.getElem_of_mem hx
          have := h j hj
          rwa [List.getD_eq_getElem?_getD, List.getElem?_eq_getElem hj] at this
        refine ⟨ha, ?_⟩
        rw [hok]; unfold okW
        have : l.all okN = true := List.all_eq_true.2 fun x hx => decide_eq_true (ha x hx)
        rw [this, decide_eq_true ⟨h0, hm⟩, Bool.true_and, Bool.true_and]
      have htot := fun h w' hb => wtotal_walk A c l hm h w' (Kd.C_below hl (w1 := w') hb)
      have hspl := fun h1 h2 h3 => split_walk q A c l h1 hm h2 h3 ⟨h0, hq⟩ w hl
      have hw := fun n w => lwithin_walk n 0 1099511627776 w
      have HR := Lib.hid hrd; have HN := Lib.hid hno; have HY := Lib.hid hyes; have HT := Lib.hid htot; have HS := Lib.hid hspl; have HW := Lib.hid hw
      clear hrd hno hyes htot hspl hw hok hl
      have d1 : decide (q < 0) = false := decide_eq_false (by omega)
      have d2 : decide ((64 : Int) < (l.length : Int)) = false := decide_eq_false (by omega)
      go_enter Try.func22, Try.ntmps22
      go_wp2_with fail
      go_loopw [17] (fun i wr => ∃ k : Nat, k ≤ l.length ∧ i = .int .i64 k ∧ wr = w ∧ Hid (∀ m : Nat, m < k → 0 ≤ l.getD m 0 ∧ l.getD m 0 ≤ 1099511627776)) (fun i _ => l.length - (intOf i).toNat)
      case atStart => exact ⟨0, Nat.zero_le _, rfl, rfl, Lib.hid fun m hm => absurd hm (Nat.not_lt_zero _)⟩
      case round =>
        obtain ⟨k, hk, rfl, hwr, HI⟩ := hrel
        subst hwr
        by_cases hlt : k < l.length
        · obtain ⟨ad, rfl, c0⟩ := HR.out k hlt
          have hno := HN.out k hlt
          have hw := HW.out (l.getD k 0)
          by_cases hin : 0 ≤ l.getD k 0 ∧ l.getD k 0 ≤ 1099511627776
          · rw [decide_eq_true hin] at hw
            have HI2 : Hid (∀ m : Nat, m < k + 1 → 0 ≤ l.getD m 0 ∧ l.getD m 0 ≤ 1099511627776) := Lib.hid fun m hm => by
              by_cases e : m = k
              · subst e; exact hin
              · exact HI.out m (by omega)
            have Hw := Lib.hid hw
            clear hw hno hin HR HN HY HT HS HW HI
            generalize l.getD k 0 = x at *
            go_wp2_with (go_at_call 23; (with_reducible refine (Hw.out _).mono ?_); rintro e wa ⟨rfl, hwa⟩; replace hwa := hwa.symm; subst hwa)
            go_roundw
            case rel => exact ⟨k + 1, by omega, by go_num, trivial, HI2⟩
            case measure => simp only [intOf]; omega
          · rw [decide_eq_false hin] at hw
            have HOF := Lib.hid (hno hin)
            have Hw := Lib.hid hw
            clear hw hno hin HR HN HY HT HS HW HI
            generalize l.getD k 0 = x at *
            go_wp2_with (go_at_call 23; (with_reducible refine (Hw.out _).mono ?_); rintro e wa ⟨rfl, hwa⟩; replace hwa := hwa.symm; subst hwa)
            exact bodyPost_ret (v := .tuple #[.slice none 0 0, .int .i64 2]) (by simp [results, Try.results22, go_sem]) rfl ⟨Below.refl _ _, fun h => (by rw [HOF.out] at h; cases h), fun _ => rfl⟩
        · obtain rfl : l.length = k := by omega
          obtain ⟨hall, hokv⟩ := HY.out HI.out
          have ht := HT.out hall wr (Below.refl _ _)
          have hsb := isum_b l hall
          by_cases hz : l.sum = 0
          · have hof : ok = false := by rw [hokv, decide_eq_true hz]; rfl
            have HOF := Lib.hid hof
            have HTt := Lib.hid ht
            rw [hz] at HTt
            clear ht hof hokv hall HR HN HY HT HS HW HI hsb
            go_wp2_with (go_at_call 36; (with_reducible refine (HTt.out).mono ?_); rintro e wa ⟨rfl, hwa⟩; replace hwa := hwa.symm; subst hwa)
            exact bodyPost_ret (v := .tuple #[.slice none 0 0, .int .i64 2]) (by simp [results, Try.results22, go_sem]) rfl ⟨Below.refl _ _, fun h => (by rw [HOF.out] at h; cases h), fun _ => rfl⟩
          · have hof : ok = true := by rw [hokv, decide_eq_false hz]; rfl
            have hpos : 0 < l.length := by
              rcases Nat.eq_zero_or_pos l.length with h | h
              · exact absurd (by rw [List.length_eq_zero_iff.1 h]; rfl) hz
              · exact h
            have hs := HS.out hpos hall (by omega)
            have HTt := Lib.hid ht; have Hs := Lib.hid hs
            have hzz : (l.sum == 0) = false := by rw [beq_eq_false_iff_ne]; exact hz
            clear ht hokv hall HR HN HY HT HS HW HI hsb hs
            go_wp2_with (first | (go_at_call 36; (with_reducible refine (HTt.out).mono ?_); rintro e wa ⟨rfl, hwa⟩; replace hwa := hwa.symm; subst hwa) | (go_at_call 24; (with_reducible refine Hs.out.mono ?_); rintro e w9 ⟨gg, rfl, hgg, hblk, hb9⟩))
            exact bodyPost_ret (v := .tuple #[.slice (some ⟨gg, 0, none⟩) l.length l.length, .int .i64 0]) (by simp [results, Try.results22, go_sem]) rfl ⟨hb9, fun _ => ⟨gg, rfl, hgg, hblk⟩, fun h => by rw [hof] at h; cases h⟩
    · have hof : ok = false := by rw [hok]; unfold okW; rw [decide_eq_false (by omega)]; rfl
      have HOF := Lib.hid hof
      have d1 : decide (q < 0) = false := decide_eq_false (by omega)
      have d2 : (64 : Int) < (l.length : Int) := by omega
      clear hok hof hl
      go_enter Try.func22, Try.ntmps22
      go_wp2_with fail
      exact bodyPost_ret (v := .tuple #[.slice none 0 0, .int .i64 2]) (by simp [results, Try.results22, go_sem]) rfl ⟨Below.refl _ _, fun h => (by rw [HOF.out] at h; cases h), fun _ => rfl⟩
  · have hof : ok = false := by rw [hok]; unfold okW; rw [decide_eq_false (by omega)]; rfl
    have HOF := Lib.hid hof
    have d1 : q < 0 := by omega
    clear hok hof hl h0
    go_enter Try.func22, Try.ntmps22
    go_wp2_with fail
    exact bodyPost_ret (v := .tuple #[.slice none 0 0, .int .i64 2]) (by simp [results, Try.results22, go_sem]) rfl ⟨Below.refl _ _, fun h => (by rw [HOF.out] at h; cases h), fun _ => rfl⟩
def allot_Worth.f (a0 : Int) (l1 : List Int) : Option (List Int × Int) := if a0 ≤ 9223372036854775807 then some (if okW a0 l1 = true then (splitS a0 l1, 0) else ([], 2)) else none
theorem allot_Worth.calls (a0 : Int) (A1 : Option Addr) (c1 : Nat) (l1 : List Int) (r1 : List Int) (r2 : Int) (w : World) (hr1 : Kd.C (Kd.int .i64) w A1 l1.length l1) (hc1 : l1.length ≤ c1) (h : allot_Worth.f a0 l1 = some (r1, r2)) :
    Calls Try.prog 22 #[.int .i64 a0, .slice A1 l1.length c1] w fun e w' => ∃ v0_ : Value, e = .returned (.tuple #[v0_, .int .i64 r2]) ∧ Kd.R (Kd.int .i64) 3 w' w.heap.size (fun _ => True) v0_ r1 ∧ Below w.heap.size w w' := by
  unfold allot_Worth.f at h
  split at h
  case isFalse => cases h
  case isTrue hq =>
    have h := Option.some.inj h
    refine (worth_walk a0 hq A1 c1 l1 w hr1).mono ?_
    rintro e w' ⟨hb, h1, h2⟩
    by_cases g : okW a0 l1 = true
    · rw [if_pos g] at h
      simp only [Prod.mk.injEq] at h
      obtain ⟨rfl, rfl⟩ := h
      obtain ⟨gg, rfl, hgg, hB⟩ := h1 g
      have hm : l1.length ≤ 64 := by
        unfold okW at g
        rw [Bool.and_eq_true, decide_eq_true_eq] at g
        exact g.1.2
      exact ⟨_, rfl, blk_own hB (by rw [split_len]) hgg (by omega), hb⟩
    · rw [if_neg g] at h
      simp only [Prod.mk.injEq] at h
      obtain ⟨rfl, rfl⟩ := h
      have := h2 (by simpa using g)
      subst this
      exact ⟨_, rfl, Kd.R_nil _ _ _ _ _, hb⟩
end Go.Proofs.Ytknmojjccfhchaa.Hand
