/- allot: who is next, walked. -/
import Derived.Test.YtknmojjccfhchaaAl2
set_option linter.unusedVariables false
set_option linter.unusedSimpArgs false
namespace Go.Proofs.Ytknmojjccfhchaa.Hand
open Go Go.RowKit Go.Proofs.YtknmojjccfhchaaW.PrintWords Go.Proofs.YtknmojjccfhchaaW.PrintMore Go.Proofs.Ytknmojjccfhchaa.RL Go.Proofs.Ytknmojjccfhchaa.PL
/-- What stands fast of the numbers of a pot. -/
structure PotOk (q all : Int) (l : List Shr) (G : List Int) : Prop where
  ok : l.all okShr = true
  hm : l.length ≤ 64
  hq : 0 ≤ q ∧ q ≤ 1099511627776
  ha : 0 ≤ all ∧ all ≤ 70368744177664
  hG : ∀ i, 0 ≤ G.getD i 0 ∧ G.getD i 0 ≤ 1099511627776
/-- Who is next, of the first j. -/
def nextN (q all left : Int) (l : List Shr) (G : List Int) : Nat → Int
  | 0 => -1
  | j + 1 => if mayS l G left j && (decide (nextN q all left l G j < 0) || behS q all l G j (nextN q all left l G j).toNat) then (j : Int) else nextN q all left l G j
theorem nextN_b (q all left : Int) (l : List Shr) (G : List Int) (j : Nat) : nextN q all left l G j = -1 ∨ ∃ k : Nat, k < j ∧ nextN q all left l G j = k := by
  induction j with
  | zero => exact .inl rfl
  | succ j ih =>
    unfold nextN
    split
    · exact .inr ⟨j, by omega, rfl⟩
    · rcases ih with h | ⟨k, hk, h⟩
      · exact .inl h
      · exact .inr ⟨k, by omega, h⟩
theorem nextN_no {q all left : Int} {l : List Shr} {G : List Int} {j : Nat} (h : nextN q all left l G j < 0) : ∀ i, i < j → mayS l G left i = false := by
  induction j with
  | zero => intro i hi; omega
  | succ j ih =>
    intro i hi
    unfold nextN at h
    split at h
    · omega
    · rename_i hc
      by_cases he : i = j
      · subst he
        rw [decide_eq_true h, Bool.true_or, Bool.and_true] at hc
        simpa using hc
      · exact ih h i (by omega)
theorem nextN_may {q all left : Int} {l : List Shr} {G : List Int} {j k : Nat} (h : nextN q all left l G j = k) : mayS l G left k = true := by
  induction j with
  | zero => unfold nextN at h; omega
  | succ j ih =>
    unfold nextN at h
    split at h
    · rename_i hc
      obtain rfl : j = k := by omega
      rw [Bool.and_eq_true] at hc
      exact hc.1
    · exact ih h
set_option maxHeartbeats 4000000 in
set_option maxRecDepth 100000 in
theorem next_walk (g gg : Nat) (q all left : Int) (A : Option Addr) (c : Nat) (l : List Shr) (G : List Int) (F : PotOk q all l G) (w : World) (h : Pot w g gg q all left A c l G) :
    Calls Try.prog 34 #[.pointer (some ⟨g, 0, none⟩)] w fun e w' => e = .returned (.int .i64 (nextN q all left l G l.length)) ∧ Below w.heap.size w w' := by
  have y3 := h.P.cell 3
  simp at y3
  have hmay := fun (j : Nat) (hj : j < l.length) w' (hb : Below w.heap.size w w') => may_walk g gg q all left A c l G j hj (rd_all F.ok j hj) F.hm w' (h.on hb)
  have hbeh := fun (j k : Nat) (hj : j < l.length) (hk : k < l.length) w' (hb : Below w.heap.size w w') => behind_walk g gg q all left A c l G j k hj hk (rd_all F.ok j hj) (rd_all F.ok k hk) F.hm F.hq F.ha (F.hG j) (F.hG k) w' (h.on hb)
  have HM := Lib.hid hmay; have HB := Lib.hid hbeh
  have hm := F.hm
  clear hmay hbeh h F
  go_enter Try.func34, Try.ntmps34
  go_wp2_with fail
  go_loopw [3, 10] (fun a i wr => ∃ j : Nat, j ≤ l.length ∧ a = .int .i64 (nextN q all left l G j) ∧ i = .int .i64 j ∧ Below w.heap.size w wr) (fun _ i _ => l.length - (intOf i).toNat)
  case atStart => exact ⟨0, Nat.zero_le _, rfl, rfl, Below.refl _ _⟩
  case round =>
    obtain ⟨j, hj, rfl, rfl, hB⟩ := hrel
    by_cases hlt : j < l.length
    · have m1 := HM.out j hlt wr hB
      have hnx : nextN q all left l G (j + 1) = if mayS l G left j && (decide (nextN q all left l G j < 0) || behS q all l G j (nextN q all left l G j).toNat) then (j : Int) else nextN q all left l G j := by
        simp only [nextN]
      have hnb := nextN_b q all left l G j
      cases hmv : mayS l G left j with
      | false =>
        rw [hmv] at m1 hnx
        have hn := Lib.hid hnx
        have M1 := Lib.hid m1
        clear hnx m1 HB HM hnb
        generalize nextN q all left l G j = at_ at *
        go_wp2_with (go_at_call 49; (with_reducible refine M1.out.mono ?_); rintro e wa ⟨rfl, hb1⟩)
        go_roundw
        case rel => exact ⟨j + 1, by omega, by rw [hn.out]; simp, by go_num, bt hB hb1⟩
        case measure => simp only [intOf]; omega
      | true =>
        rw [hmv] at m1 hnx
        rcases hnb with hat | ⟨k, hk, hat⟩
        · rw [hat] at hnx ⊢
          have hn := Lib.hid hnx
          have M1 := Lib.hid m1
          clear hnx m1 HB HM
          go_wp2_with (go_at_call 49; (with_reducible refine M1.out.mono ?_); rintro e wa ⟨rfl, hb1⟩)
          go_roundw
          case rel => exact ⟨j + 1, by omega, by rw [hn.out]; simp, by go_num, bt hB hb1⟩
          case measure => simp only [intOf]; omega
        · rw [hat] at hnx ⊢
          have hb2 := fun w' hb => HB.out j k hlt (by omega) w' hb
          rw [Int.toNat_natCast] at hnx
          generalize behS q all l G j k = b at *
          have hn := Lib.hid hnx
          have M1 := Lib.hid m1
          have B2 := Lib.hid hb2
          have hk0 : ¬ ((k : Int) < 0) := by omega
          clear hnx m1 hb2 HB HM hat
          cases b with
          | false =>
            go_wp2_with (first | (go_at_call 49; (with_reducible refine M1.out.mono ?_); rintro e wa ⟨rfl, hb1⟩) | (go_at_call 50; (with_reducible refine (B2.out _ (bt hB hb1)).mono ?_); rintro e wb ⟨rfl, hb3⟩))
            go_roundw
            case rel => exact ⟨j + 1, by omega, by rw [hn.out, decide_eq_false (show ¬ ((k : Int) < 0) by omega)]; simp, by go_num, bt hB (bt hb1 hb3)⟩
            case measure => simp only [intOf]; omega
          | true =>
            go_wp2_with (first | (go_at_call 49; (with_reducible refine M1.out.mono ?_); rintro e wa ⟨rfl, hb1⟩) | (go_at_call 50; (with_reducible refine (B2.out _ (bt hB hb1)).mono ?_); rintro e wb ⟨rfl, hb3⟩))
            go_roundw
            case rel => exact ⟨j + 1, by omega, by rw [hn.out, decide_eq_false (show ¬ ((k : Int) < 0) by omega)]; simp, by go_num, bt hB (bt hb1 hb3)⟩
            case measure => simp only [intOf]; omega
    · obtain rfl : j = l.length := by omega
      clear HM HB
      go_wp2_with fail
      go_ret
      exact ⟨rfl, hB⟩
end Go.Proofs.Ytknmojjccfhchaa.Hand
