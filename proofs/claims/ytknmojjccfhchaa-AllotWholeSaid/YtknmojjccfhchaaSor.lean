/- slices.SortStableFunc's merging at elements of one cell, walked: two ranges exchanged, rotated. -/
import Derived.Test.YtknmojjccfhchaaSym
import Derived.Test.YtknmojjccfhchaaPl
import Derived.Shelf.SlSortCmp.Insertion1
import Derived.Shelf.SlSortCmp.Kit1
import Derived.Sort.WalkB2
import Derived.Sort.WalkB12
import Derived.Deep.LoopGhost
set_option linter.unusedVariables false
set_option linter.unusedSimpArgs false
namespace Go.Proofs.Ytknmojjccfhchaa.St
open Go Go.RowKit Go.Lib Go.Sort Go.Shelf Go.Proofs.YtknmojjccfhchaaW.PrintWords Go.Proofs.YtknmojjccfhchaaW.PrintMore Go.Proofs.Ytknmojjccfhchaa.RL Go.Proofs.Ytknmojjccfhchaa.PL
variable {α : Type} [Inhabited α]
set_option maxHeartbeats 4000000 in
set_option maxRecDepth 1000000 in
theorem swapRange_s (enc : α → Value) (g : Nat) (cb : Array Value) (blk off cap a b n : Nat) (d0 d : Array α) (w0 w : World)
    (R : Row1 enc w0 blk off d0) (hs : d0.size = d.size) (S : SW enc w0 blk off d w) (ha : a + n ≤ d.size) (hb : b + n ≤ d.size) (hsz : d.size ≤ 1000000) :
    Calls Try.prog 75 #[.slice (some ⟨blk, off, none⟩) d.size cap, .int .i64 a, .int .i64 b, .int .i64 n, .func (.func g) #[] cb] w fun e w' => e = .returned (.tuple #[]) ∧ SW enc w0 blk off (swpN n a b d) w' := by
  have mixed : Try.prog.follows Departure.mixedOrders = true := by kernel_rfl
  have hcl0 := R.hO.cells
  simp only [Value.cells] at hcl0
  have hst := R.hO.store Try.prog
  have S0 : Aside (SW enc w0 blk off d w) := S
  clear S
  go_enter Try.func75, Try.ntmps75
  go_wp2
  go_loopg [10] n (fun kx s8 wr => ∃ (i : Nat) (dk : Array α), s8 = .int .i64 i ∧ i ≤ n ∧ n - i ≤ kx ∧ dk.size = d.size ∧ Aside (SW enc w0 blk off dk wr) ∧ Hid (swpN (n - i) (a + i) (b + i) dk = swpN n a b d))
  case atStart => exact ⟨0, d, rfl, Nat.zero_le _, by omega, rfl, S0, Lib.hid (by simp)⟩
  case round =>
    clear S0
    obtain ⟨i, dk, rfl, h1, hkx, hds, S1, heq⟩ := hrel
    by_cases hlt : i < n
    · have hltz : (i : Int) < (n : Int) := by omega
      go_wp2_with fail
      obtain ⟨iN, hiN⟩ : ∃ q, q = a + i := ⟨_, rfl⟩
      obtain ⟨jN, hjN⟩ : ∃ q, q = b + i := ⟨_, rfl⟩
      have ea : ((a : Int) + (i : Int)).toNat = iN := by omega
      have pa : (0 : Int) ≤ (a : Int) + (i : Int) := by omega
      have ba : (a : Int) + (i : Int) < (d.size : Int) := by omega
      have ra : IntKind.i64.wrap ((a : Int) + (i : Int)) = (a : Int) + (i : Int) := by rw [IntKind.wrap_i64]; omega
      have ec : ((b : Int) + (i : Int)).toNat = jN := by omega
      have pc : (0 : Int) ≤ (b : Int) + (i : Int) := by omega
      have bc : (b : Int) + (i : Int) < (d.size : Int) := by omega
      have rc : IntKind.i64.wrap ((b : Int) + (i : Int)) = (b : Int) + (i : Int) := by rw [IntKind.wrap_i64]; omega
      obtain ⟨x, hx⟩ : ∃ x, x = dk[a + i]! := ⟨_, rfl⟩
      obtain ⟨y, hy⟩ : ∃ x, x = dk[b + i]! := ⟨_, rfl⟩
      have S2 : Aside (SW enc w0 blk off (swp dk (a + i) (b + i)) ((wr.setCell ⟨blk, off + iN, none⟩ (enc y)).setCell ⟨blk, off + jN, none⟩ (enc x)).drew) := by rw [hiN, hjN, hx, hy]; exact S1.out.swapped R (a + i) (b + i) (by omega) (by omega)
      have ca := S1.out.c1 R (by omega) (a + i) (by omega)
      have cb' := S1.out.c1 R (by omega) (b + i) (by omega)
      have fa := S1.out.f1 R (by omega) (a + i) (by omega)
      have fb := S1.out.f1 R (by omega) (b + i) (by omega)
      obtain ⟨u, cc⟩ := S1.out.c2 R (by omega) (a + i) (b + i) (by omega) (by omega) (enc y)
      rw [← hjN, ← hiN] at cc
      rw [← hx, ← hiN] at ca
      rw [← hy, ← hjN] at cb'
      rw [← hiN] at fa
      rw [← hjN] at fb
      clear S1 hx hy hiN hjN
      go_wp2_with fail
      go_big_region_o
      clear ca cb' cc fa fb
      generalize ((wr.setCell ⟨blk, off + iN, none⟩ (enc y)).setCell ⟨blk, off + jN, none⟩ (enc x)).drew = w2 at S2 ⊢
      clear ea ec
      go_wp2
      go_roundg (n - (i + 1))
      case measure => omega
      case rel =>
        exact ⟨i + 1, swp dk (a + i) (b + i), by simp, by omega, Nat.le_refl _, by rw [size_swp]; exact hds, S2, Lib.hid (by rw [← heq.out, show n - i = (n - (i + 1)) + 1 by omega, swpN]; rfl)⟩
    · obtain rfl : i = n := by omega
      go_wp2
      go_end0
      refine ⟨rfl, ?_⟩
      have := heq.out
      rw [Nat.sub_self, swpN] at this
      rw [← this]
      exact S1.out
theorem swapRange_l (enc : α → Value) (g : Nat) (cb : Array Value) (blk off cap : Nat) (az bz nz sz : Int) (d0 : Array α) (P X Q Y Z : List α) (hX : X.length = Y.length) (w0 w : World)
    (R : Row1 enc w0 blk off d0) (hsz : d0.size ≤ 1000000) (hs : d0.size = (P ++ X ++ Q ++ Y ++ Z).length) (S : SW enc w0 blk off (P ++ X ++ Q ++ Y ++ Z).toArray w) (ha : az = (P.length : Int)) (hb : bz = ((P.length + X.length + Q.length : Nat) : Int)) (hn : nz = (X.length : Int)) :
    Calls Try.prog 75 #[.slice (some ⟨blk, off, none⟩) d0.size cap, .int .i64 az, .int .i64 bz, .int .i64 nz, .func (.func g) #[] cb] w fun e w' => e = .returned (.tuple #[]) ∧ SW enc w0 blk off (P ++ Y ++ Q ++ X ++ Z).toArray w' := by
  subst ha hb hn
  have hl : (P ++ X ++ Q ++ Y ++ Z).toArray.size = d0.size := by rw [hs]; simp
  simp only [List.length_append] at hs
  have := swapRange_s enc g cb blk off cap P.length (P.length + X.length + Q.length) X.length d0 (P ++ X ++ Q ++ Y ++ Z).toArray w0 w R hl.symm S (by rw [hl]; omega) (by rw [hl]; omega) (by rw [hl]; exact hsz)
  rw [hl, swpN_is X P Q Y Z hX] at this
  exact this
set_option maxHeartbeats 4000000 in
set_option maxRecDepth 1000000 in
theorem rotate_s (enc : α → Value) (g : Nat) (cb : Array Value) (blk off cap : Nat) (az mz bz : Int) (d0 : Array α) (P X Y Z : List α) (hX : 0 < X.length) (hY : 0 < Y.length) (w0 w : World)
    (R : Row1 enc w0 blk off d0) (hsz : d0.size ≤ 1000000) (hs : d0.size = (P ++ X ++ Y ++ Z).length) (S : SW enc w0 blk off (P ++ X ++ Y ++ Z).toArray w) (ha : az = (P.length : Int)) (hm : mz = ((P.length + X.length : Nat) : Int)) (hb : bz = ((P.length + X.length + Y.length : Nat) : Int)) :
    Calls Try.prog 73 #[.slice (some ⟨blk, off, none⟩) d0.size cap, .int .i64 az, .int .i64 mz, .int .i64 bz, .func (.func g) #[] cb] w fun e w' => e = .returned (.tuple #[]) ∧ SW enc w0 blk off (P ++ Y ++ X ++ Z).toArray w' := by
  obtain ⟨m, hmm⟩ : ∃ m, m = P.length + X.length := ⟨_, rfl⟩
  have hsw := swapRange_l enc g cb blk off cap
  have HC : Aside _ := hsw
  have S0 : Aside (SW enc w0 blk off (P ++ X ++ Y ++ Z).toArray w) := S
  have hi : IntKind.i64.wrap (mz - az) = (X.length : Int) := by rw [IntKind.wrap_i64]; simp only [List.length_append] at hs; omega
  have hj : IntKind.i64.wrap (bz - mz) = (Y.length : Int) := by rw [IntKind.wrap_i64]; simp only [List.length_append] at hs; omega
  have HS : Aside (d0.size = (P ++ X ++ Y ++ Z).length) := hs
  have hmz : mz = (m : Int) := by omega
  subst hmz
  have HM : Aside (m = P.length + X.length) := hmm
  have HL : Aside (0 < X.length ∧ 0 < Y.length) := ⟨hX, hY⟩
  have h0 : Aside (P.length + X.length + Y.length ≤ 1000000) := by show _ ≤ _; simp only [List.length_append] at hs; omega
  clear hs S hsw ha hb hm hmm hX hY
  go_enter Try.func73, Try.ntmps73
  go_wp2
  go_loopg [10, 11] (X.length + Y.length) (fun kx vi vj wr => ∃ (P' X' Y' Z' : List α), vi = .int .i64 X'.length ∧ vj = .int .i64 Y'.length ∧ X'.length + Y'.length ≤ kx ∧ Aside (0 < X'.length ∧ 0 < Y'.length) ∧ Aside (m = P'.length + X'.length) ∧ Aside (P'.length + X'.length + Y'.length ≤ 1000000) ∧ Aside (SW enc w0 blk off (P' ++ X' ++ Y' ++ Z').toArray wr) ∧ Aside (d0.size = (P' ++ X' ++ Y' ++ Z').length) ∧ Aside (P' ++ Y' ++ X' ++ Z' = P ++ Y ++ X ++ Z))
  case atStart => exact ⟨P, X, Y, Z, rfl, rfl, Nat.le_refl _, HL, HM, h0, S0, HS, rfl⟩
  case round =>
    clear S0 HS HM HL h0
    obtain ⟨P', X', Y', Z', rfl, rfl, hk, HL, HM, h0, S1, HS, HT⟩ := hrel
    have hp := HL.out
    have hm := HM.out
    have hm1 : (X'.length : Int) ≤ (m : Int) ∧ (m : Int) + (Y'.length : Int) ≤ 1000000 := by have := h0.out; omega
    by_cases h1 : X'.length = Y'.length
    · have hc : Calls Try.prog 75 #[.slice (some ⟨blk, off, none⟩) d0.size cap, .int .i64 ((m : Int) - (Y'.length : Int)), .int .i64 (m : Int), .int .i64 (Y'.length : Int), .func (.func g) #[] cb] wr fun e w' => e = .returned (.tuple #[]) ∧ Aside (SW enc w0 blk off (P ++ Y ++ X ++ Z).toArray w') := by
        have := HC.out ((m : Int) - (Y'.length : Int)) (m : Int) (Y'.length : Int) 0 d0 P' X' [] Y' Z' h1 w0 wr R hsz (by rw [HS.out]; simp) (by simpa using S1.out) (by omega) (by simp; omega) (by rw [h1])
        refine this.mono ?_
        rintro e w' ⟨he, hw⟩
        refine ⟨he, ?_⟩
        have ht := HT.out
        show SW enc w0 blk off (P ++ Y ++ X ++ Z).toArray w'
        rw [← ht]
        simpa using hw
      clear S1 HS HT HL HM h0 HC hm
      generalize X'.length = lx at *
      subst h1
      generalize Y'.length = lx at *
      have Hc := Lib.hid hc
      clear hc
      go_wp2_with (go_at_call 75; (with_reducible refine Hc.out.mono ?_); rintro e wa ⟨rfl, hwa⟩)
      go_end0
      exact ⟨rfl, hwa.out⟩
    · by_cases h2 : Y'.length < X'.length
      · have hc : Calls Try.prog 75 #[.slice (some ⟨blk, off, none⟩) d0.size cap, .int .i64 ((m : Int) - (X'.length : Int)), .int .i64 (m : Int), .int .i64 (Y'.length : Int), .func (.func g) #[] cb] wr fun e w' => e = .returned (.tuple #[]) ∧ Aside (SW enc w0 blk off (P' ++ Y' ++ X'.drop Y'.length ++ X'.take Y'.length ++ Z').toArray w') := by
          have := HC.out ((m : Int) - (X'.length : Int)) (m : Int) (Y'.length : Int) 0 d0 P' (X'.take Y'.length) (X'.drop Y'.length) Y' Z' (by rw [List.length_take]; omega) w0 wr R hsz (by rw [HS.out]; simp; try omega) (by
            have := S1.out
            rw [show P' ++ List.take Y'.length X' ++ List.drop Y'.length X' = P' ++ X' by rw [List.append_assoc, List.take_append_drop]]
            exact this) (by omega) (by simp; omega) (by simp; omega)
          exact this
        have hnew : ∀ w', Aside (SW enc w0 blk off (P' ++ Y' ++ X'.drop Y'.length ++ X'.take Y'.length ++ Z').toArray w') → ∃ (P1 X1 Y1 Z1 : List α), Value.int .i64 ((X'.length : Int) - (Y'.length : Int)) = .int .i64 X1.length ∧ Value.int .i64 (Y'.length : Int) = .int .i64 Y1.length ∧ X1.length + Y1.length ≤ X'.length ∧ Aside (0 < X1.length ∧ 0 < Y1.length) ∧ Aside (m = P1.length + X1.length) ∧ Aside (P1.length + X1.length + Y1.length ≤ 1000000) ∧ Aside (SW enc w0 blk off (P1 ++ X1 ++ Y1 ++ Z1).toArray w') ∧ Aside (d0.size = (P1 ++ X1 ++ Y1 ++ Z1).length) ∧ Aside (P1 ++ Y1 ++ X1 ++ Z1 = P ++ Y ++ X ++ Z) := fun w' hw => by
          refine ⟨P' ++ Y', X'.drop Y'.length, X'.take Y'.length, Z', by congr 1; simp; omega, by congr 1; simp; omega, by simp; omega, ⟨by simp; omega, by simp; omega⟩, by show m = _; simp; omega, by show _ ≤ _; simp; omega, hw, by show d0.size = _; rw [HS.out]; simp; omega, ?_⟩
          show _ = _
          rw [← HT.out, List.append_assoc (P' ++ Y'), List.take_append_drop]
        have HN := Lib.hid hnew
        have Hc := Lib.hid hc
        clear S1 HS HT HL HM h0 HC hc hnew hm
        generalize X'.length = lx at *
        generalize Y'.length = ly at *
        have z2 : (ly : Int) < (lx : Int) := by omega
        go_wp2_with (go_at_call 75; (with_reducible refine Hc.out.mono ?_); rintro e wa ⟨rfl, hwa⟩)
        go_roundg lx
        case measure => omega
        case rel => exact HN.out _ hwa
      · have hc : Calls Try.prog 75 #[.slice (some ⟨blk, off, none⟩) d0.size cap, .int .i64 ((m : Int) - (X'.length : Int)), .int .i64 ((m : Int) + (Y'.length : Int) - (X'.length : Int)), .int .i64 (X'.length : Int), .func (.func g) #[] cb] wr fun e w' => e = .returned (.tuple #[]) ∧ Aside (SW enc w0 blk off (P' ++ Y'.drop (Y'.length - X'.length) ++ Y'.take (Y'.length - X'.length) ++ X' ++ Z').toArray w') := by
          have := HC.out ((m : Int) - (X'.length : Int)) ((m : Int) + (Y'.length : Int) - (X'.length : Int)) (X'.length : Int) 0 d0 P' X' (Y'.take (Y'.length - X'.length)) (Y'.drop (Y'.length - X'.length)) Z' (by rw [List.length_drop]; omega) w0 wr R hsz (by rw [HS.out]; simp; try omega) (by
            have := S1.out
            rw [show P' ++ X' ++ List.take (Y'.length - X'.length) Y' ++ List.drop (Y'.length - X'.length) Y' = P' ++ X' ++ Y' by rw [List.append_assoc, List.take_append_drop]]
            exact this) (by omega) (by simp <;> omega) rfl
          exact this
        have hnew : ∀ w', Aside (SW enc w0 blk off (P' ++ Y'.drop (Y'.length - X'.length) ++ Y'.take (Y'.length - X'.length) ++ X' ++ Z').toArray w') → ∃ (P1 X1 Y1 Z1 : List α), Value.int .i64 (X'.length : Int) = .int .i64 X1.length ∧ Value.int .i64 ((Y'.length : Int) - (X'.length : Int)) = .int .i64 Y1.length ∧ X1.length + Y1.length ≤ Y'.length ∧ Aside (0 < X1.length ∧ 0 < Y1.length) ∧ Aside (m = P1.length + X1.length) ∧ Aside (P1.length + X1.length + Y1.length ≤ 1000000) ∧ Aside (SW enc w0 blk off (P1 ++ X1 ++ Y1 ++ Z1).toArray w') ∧ Aside (d0.size = (P1 ++ X1 ++ Y1 ++ Z1).length) ∧ Aside (P1 ++ Y1 ++ X1 ++ Z1 = P ++ Y ++ X ++ Z) := fun w' hw => by
          refine ⟨P', Y'.drop (Y'.length - X'.length), Y'.take (Y'.length - X'.length), X' ++ Z', by congr 1; simp <;> omega, by congr 1; simp <;> omega, by simp <;> omega, ⟨by simp <;> omega, by simp <;> omega⟩, by show m = _; simp <;> omega, by show _ ≤ _; simp <;> omega, ?_, by show d0.size = _; rw [HS.out]; simp <;> omega, ?_⟩
          · show SW _ _ _ _ _ _
            rw [← List.append_assoc]; exact hw
          show _ = _
          rw [← HT.out, ← List.append_assoc, List.append_assoc P', List.take_append_drop]
        have HN := Lib.hid hnew
        have Hc := Lib.hid hc
        clear S1 HS HT HL HM h0 HC hc hnew hm
        generalize X'.length = lx at *
        generalize Y'.length = ly at *
        have z2 : (lx : Int) < (ly : Int) := by omega
        go_wp2_with (go_at_call 75; (with_reducible refine Hc.out.mono ?_); rintro e wa ⟨rfl, hwa⟩)
        go_roundg ly
        case measure => omega
        case rel => exact HN.out _ hwa
end Go.Proofs.Ytknmojjccfhchaa.St
