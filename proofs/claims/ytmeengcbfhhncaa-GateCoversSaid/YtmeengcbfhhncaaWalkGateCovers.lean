/- GateCovers: of an order that is let through no execution is worth more than the gate says; any text and any numbers of 64 bits; no condition. -/
import Derived.Test.YtmeengcbfhhncaaGaw
import Derived.Test.YtmeengcbfhhncaaGaf
import Derived.Test.YtmeengcbfhhncaaKx0
set_option linter.unusedVariables false
set_option linter.unusedSimpArgs false
namespace Go.Proofs.Ytmeengcbfhhncaa.Walk
open Go Go.RowKit Go.Proofs.YtmeengcbfhhncaaW.PrintWords Go.Proofs.YtmeengcbfhhncaaW.PrintMore Go.Proofs.Ytmeengcbfhhncaa.Hand Go.Proofs.Ytmeengcbfhhncaa.PL Go.Proofs.Ytmeengcbfhhncaa.RL Go.Proofs.Ytmeengcbfhhncaa.K
theorem worth_yes16 {q p : Int} (h : (worthS q p).2 = 0) : (0 ≤ q ∧ q ≤ 1099511627776) ∧ (0 ≤ p ∧ p ≤ 1099511627776) ∧ in64 (q * p) ∧ worthS q p = (q * p, 0) := by
  unfold worthS at h ⊢
  split
  · rename_i c
    rw [if_pos c] at h
    by_cases hi : in64 (q * p)
    · exact ⟨c.1, c.2, hi, tell_in hi⟩
    · rw [tell_out hi] at h; simp at h
  · rename_i c
    rw [if_neg c] at h; simp at h
theorem chk_no {lot tick mid wid most worth side q p : Int} (h : (chk lot tick mid wid most worth side q p).2.2 ≠ 0) : (chk lot tick mid wid most worth side q p).1 = 0 ∧ (chk lot tick mid wid most worth side q p).2.1 = 0 := by
  unfold chk at h ⊢
  split
  · exact ⟨rfl, rfl⟩
  · rename_i c1
    rw [if_neg c1] at h
    split
    · exact ⟨rfl, rfl⟩
    · rename_i c2
      rw [if_neg c2] at h
      split
      · exact ⟨rfl, rfl⟩
      · rename_i c3
        rw [if_neg c3] at h
        exact absurd rfl h
theorem chk_yes {lot tick mid wid most worth side q p : Int} (hk : SymOk lot tick mid wid most worth) (h : (chk lot tick mid wid most worth side q p).2.2 = 0) :
    1 ≤ (chk lot tick mid wid most worth side q p).2.1 ∧ (chk lot tick mid wid most worth side q p).2.1 ≤ worth ∧ q ≤ most ∧ ∀ pr, filS mid wid tick side p pr = true → ∃ is, worthS q pr = (is, 0) ∧ is ≤ (chk lot tick mid wid most worth side q p).2.1 ∧ pr ≤ (chk lot tick mid wid most worth side q p).1 := by
  have hlow := hk.low
  unfold chk at h ⊢
  unfold filS
  generalize bandS mid wid tick = b at *
  by_cases c1 : shp lot tick most side q p ≠ 0
  · rw [if_pos c1] at h; exact absurd h c1
  · rw [if_neg c1] at h ⊢
    have c0 : shp lot tick most side q p = 0 := by omega
    have hs : (1 ≤ side ∧ side ≤ 2) ∧ 1 ≤ q ∧ q ≤ most ∧ 1 ≤ p := by
      unfold shp at c0
      split at c0
      · omega
      · split at c0
        · omega
        · rename_i hq
          split at c0
          · omega
          · split at c0
            · omega
            · rename_i hp
              have hq' : ¬ q < 1 := fun h => hq (.inl h)
              have hp' : ¬ p < 1 := fun h => hp (.inl h)
              omega
    by_cases c2 : p < b.1 ∨ b.2.1 < p
    · rw [if_pos c2] at h; exact absurd h (show ¬ ((22 : Int) = 0) by omega)
    · rw [if_neg c2] at h ⊢
      by_cases c3 : (worthS q (wst side p b.2.1)).2 ≠ 0 ∨ worth < (worthS q (wst side p b.2.1)).1
      · rw [if_pos c3] at h; exact absurd h (show ¬ ((161 : Int) = 0) by omega)
      · rw [if_neg c3]
        have hw : (worthS q (wst side p b.2.1)).2 = 0 := by by_cases hh : (worthS q (wst side p b.2.1)).2 = 0; exact hh; exact absurd (.inl hh) c3
        obtain ⟨k1, k2, k3, k4⟩ := worth_yes16 hw
        have ht : 1 ≤ wst side p b.2.1 := by unfold wst; split <;> omega
        have hwl : (worthS q (wst side p b.2.1)).1 ≤ worth := by omega
        rw [k4] at hwl ⊢
        have m1 := Int.mul_le_mul hs.2.1 ht (by omega) (by omega)
        refine ⟨by dsimp only; omega, hwl, hs.2.2.1, ?_⟩
        intro pr hp
        simp only [Bool.and_eq_true, Bool.or_eq_true, decide_eq_true_eq] at hp
        obtain ⟨⟨p1, p2⟩, p3⟩ := hp
        have hle : pr ≤ wst side p b.2.1 := by
          unfold wst
          split
          · exact p2
          · rcases p3 with ⟨_, h⟩ | ⟨h, _⟩
            · exact h
            · omega
        have hm : q * pr ≤ q * wst side p b.2.1 := Int.mul_le_mul_of_nonneg_left hle k1.1
        have hm0 : 0 ≤ q * pr := Int.mul_nonneg k1.1 (by omega)
        refine ⟨q * pr, ?_, hm, hle⟩
        unfold worthS
        rw [if_pos ⟨k1, by omega⟩]
        exact tell_in (by unfold in64 at k3 ⊢; omega)
theorem worth16_calls (q p : Int) (w : World) : Calls Try.prog 12 #[.int .i64 q, .int .i64 p] w fun e w' => e = .returned (.tuple #[.int .i64 (worthS q p).1, .int .i64 (worthS q p).2]) ∧ Below w.heap.size w w' :=
  (grain_Worth.calls q p _ _ w (worth_is q p)).mono fun e w' h => h
set_option maxHeartbeats 4000000 in
set_option maxRecDepth 100000 in
theorem GateCovers (a0_0 : ByteArray) (a0_1 : Int) (a0_2 : Int) (a0_3 : Int) (a0_4 : Int) (a0_5 : Int) (a0_6 : Int) (a1_0 : Int) (a1_1 : Int) (a1_2 : Int) (a2 : Int) (W : World) (w0_0 : a0_0.size ≤ maxLen) (w0_1 : (Lit.int .i64 a0_1).wf = true) (w0_2 : (Lit.int .i64 a0_2).wf = true) (w0_3 : (Lit.int .i64 a0_3).wf = true) (w0_4 : (Lit.int .i64 a0_4).wf = true) (w0_5 : (Lit.int .i64 a0_5).wf = true) (w0_6 : (Lit.int .i64 a0_6).wf = true) (w1_0 : (Lit.int .i64 a1_0).wf = true) (w1_1 : (Lit.int .i64 a1_1).wf = true) (w1_2 : (Lit.int .i64 a1_2).wf = true) (w2 : (Lit.int .i64 a2).wf = true) :
    Calls Try.prog 5 #[.agg #[.string a0_0, .int .i64 a0_1, .int .i64 a0_2, .int .i64 a0_3, .int .i64 a0_4, .int .i64 a0_5, .int .i64 a0_6], .agg #[.int .i64 a1_0, .int .i64 a1_1, .int .i64 a1_2], .int .i64 a2] W fun e W' => e = .returned (.bool true) ∧ Below W.heap.size W W' := by
  have aw := fun w => awake16 w
  have ri := fun w => right16 a0_0 a0_1 a0_2 a0_3 a0_4 a0_5 a0_6 w
  have AW := Lib.hid aw
  have RI := Lib.hid ri
  clear aw ri
  have hS := (Blk.new W 23 #[.string a0_0, .int .i64 a0_1, .int .i64 a0_2, .int .i64 a0_3, .int .i64 a0_4, .int .i64 a0_5, .int .i64 a0_6]).alloc (.cells #[.int .i64 a1_0, .int .i64 a1_1, .int .i64 a1_2] 25)
  have hO := Blk.new (W.alloc (.cells #[.string a0_0, .int .i64 a0_1, .int .i64 a0_2, .int .i64 a0_3, .int .i64 a0_4, .int .i64 a0_5, .int .i64 a0_6] 23)) 25 #[.int .i64 a1_0, .int .i64 a1_1, .int .i64 a1_2]
  have e0 : (W.alloc (.cells #[.string a0_0, .int .i64 a0_1, .int .i64 a0_2, .int .i64 a0_3, .int .i64 a0_4, .int .i64 a0_5, .int .i64 a0_6] 23)).heap.size = W.heap.size + 1 := by simp
  rw [e0] at hO
  have hB := ((Below.refl W.heap.size W).alloc (Nat.le_refl _) (.cells #[.string a0_0, .int .i64 a0_1, .int .i64 a0_2, .int .i64 a0_3, .int .i64 a0_4, .int .i64 a0_5, .int .i64 a0_6] 23)).alloc (by omega) (.cells #[.int .i64 a1_0, .int .i64 a1_1, .int .i64 a1_2] 25)
  clear e0
  go_enter Try.func5, Try.ntmps5
  go_wp2_with fail
  generalize (W.alloc (.cells #[.string a0_0, .int .i64 a0_1, .int .i64 a0_2, .int .i64 a0_3, .int .i64 a0_4, .int .i64 a0_5, .int .i64 a0_6] 23)).alloc (.cells #[.int .i64 a1_0, .int .i64 a1_1, .int .i64 a1_2] 25) = w0 at *
  refine (AW.out w0).mono ?_
  rintro e w1 ⟨rfl, b⟩
  have hS := hS.on b
  have hO := hO.on b
  have hB := bt hB b
  clear b
  have y0 := hS.cell 0; have y1 := hS.cell 1; have y2 := hS.cell 2; have y3 := hS.cell 3; have y4 := hS.cell 4; have y5 := hS.cell 5; have y6 := hS.cell 6; have x0 := hO.cell 0; have x1 := hO.cell 1; have x2 := hO.cell 2
  simp at y0 y1 y2 y3 y4 y5 y6 x0 x1 x2
  go_wp2_with fail
  clear y0 y1 y2 y3 y4 y5 y6 x0 x1 x2
  refine (RI.out w1).mono ?_
  rintro e w2 ⟨b, rfl, hb, bb⟩
  have hS := hS.on bb
  have hO := hO.on bb
  have hB := bt hB bb
  clear bb
  cases b with
  | false =>
    go_wp2_with fail
    go_ret
    exact ⟨rfl, hB⟩
  | true =>
    have hk := SymOk.of (hb rfl (a0_0, a0_1, a0_2, a0_3, a0_4, a0_5, a0_6) (List.mem_singleton.2 rfl))
    dsimp only at hk
    clear hb AW RI
    have c1 := fun w => check_calls a0_0 a0_1 a0_2 a0_3 a0_4 a0_5 a0_6 a1_0 a1_1 a1_2 hk w
    have c2 := fun w => fill16_calls a0_0 a0_1 a0_2 a0_3 a0_4 a0_5 a0_6 a1_0 a1_2 a2 hk w
    have c3 := fun w => worth16_calls a1_1 a2 w
    have hno := @chk_no a0_1 a0_2 a0_3 a0_4 a0_5 a0_6 a1_0 a1_1 a1_2
    have hyes := @chk_yes a0_1 a0_2 a0_3 a0_4 a0_5 a0_6 a1_0 a1_1 a1_2 hk
    generalize chk a0_1 a0_2 a0_3 a0_4 a0_5 a0_6 a1_0 a1_1 a1_2 = c at *
    obtain ⟨r1, r2, r3⟩ := c
    dsimp only at c1 hno hyes
    have C1 := Lib.hid c1
    have C2 := Lib.hid c2
    have C3 := Lib.hid c3
    have HY := Lib.hid hyes
    clear c1 c2 c3 hyes hk
    by_cases h0 : r3 = 0
    · subst h0
      obtain ⟨v1, v2, v3, v4⟩ := HY.out rfl
      clear HY hno
      have V4 := Lib.hid v4
      clear v4
      have y0 := hS.cell 0; have y1 := hS.cell 1; have y2 := hS.cell 2; have y3 := hS.cell 3; have y4 := hS.cell 4; have y5 := hS.cell 5; have y6 := hS.cell 6; have x0 := hO.cell 0; have x1 := hO.cell 1; have x2 := hO.cell 2
      simp at y0 y1 y2 y3 y4 y5 y6 x0 x1 x2
      go_wp2_with fail
      clear y0 y1 y2 y3 y4 y5 y6 x0 x1 x2
      refine (C1.out w2).mono ?_
      rintro e w3 ⟨rfl, b⟩
      have hS := hS.on b
      have hO := hO.on b
      have hB := bt hB b
      clear b
      have y0 := hS.cell 0; have y1 := hS.cell 1; have y2 := hS.cell 2; have y3 := hS.cell 3; have y4 := hS.cell 4; have y5 := hS.cell 5; have y6 := hS.cell 6; have x0 := hO.cell 0; have x1 := hO.cell 1; have x2 := hO.cell 2
      simp at y0 y1 y2 y3 y4 y5 y6 x0 x1 x2
      go_wp2_with fail
      clear y0 y1 y2 y3 y4 y5 y6 x0 x1 x2
      refine (C2.out w3).mono ?_
      rintro e w4 ⟨rfl, b⟩
      have hS := hS.on b
      have hO := hO.on b
      have hB := bt hB b
      clear b
      by_cases hf : filS a0_3 a0_4 a0_2 a1_0 a1_2 a2 = true
      · obtain ⟨is, i1, i2, i3⟩ := V4.out a2 hf
        rw [hf]
        have c3 := C3.out w4
        rw [i1] at c3
        clear V4 hf i1 C3
        have y0 := hS.cell 0; have y1 := hS.cell 1; have y2 := hS.cell 2; have y3 := hS.cell 3; have y4 := hS.cell 4; have y5 := hS.cell 5; have y6 := hS.cell 6; have x0 := hO.cell 0; have x1 := hO.cell 1; have x2 := hO.cell 2
        simp at y0 y1 y2 y3 y4 y5 y6 x0 x1 x2
        go_wp2_with fail
        clear y0 y1 y2 y3 y4 y5 y6 x0 x1 x2
        refine c3.mono ?_
        rintro e w5 ⟨rfl, b⟩
        have hS := hS.on b
        have hO := hO.on b
        have hB := bt hB b
        clear b
        clear c3
        go_wp2_with fail
        go_ret
        exact ⟨rfl, hB⟩
      · have hf' : filS a0_3 a0_4 a0_2 a1_0 a1_2 a2 = false := by simpa using hf
        rw [hf']
        clear hf hf' V4
        go_wp2_with fail
        go_ret
        exact ⟨rfl, hB⟩
    · obtain ⟨rfl, rfl⟩ := hno h0
      clear HY hno
      have y0 := hS.cell 0; have y1 := hS.cell 1; have y2 := hS.cell 2; have y3 := hS.cell 3; have y4 := hS.cell 4; have y5 := hS.cell 5; have y6 := hS.cell 6; have x0 := hO.cell 0; have x1 := hO.cell 1; have x2 := hO.cell 2
      simp at y0 y1 y2 y3 y4 y5 y6 x0 x1 x2
      go_wp2_with fail
      clear y0 y1 y2 y3 y4 y5 y6 x0 x1 x2
      refine (C1.out w2).mono ?_
      rintro e w3 ⟨rfl, b⟩
      have hS := hS.on b
      have hO := hO.on b
      have hB := bt hB b
      clear b
      go_wp2_with fail
      go_ret
      exact ⟨rfl, hB⟩
end Go.Proofs.Ytmeengcbfhhncaa.Walk
