/- What an order of an algorithm must be: ask.Right of a new order, walked. -/
import Derived.Test.YtapfidpfjbacgaaSl3
import Derived.Test.YtapfidpfjbacgaaPace
set_option linter.unusedVariables false
set_option linter.unusedSimpArgs false
namespace Go.Proofs.Ytapfidpfjbacgaa.Hand
open Go Go.RowKit Go.Proofs.YtapfidpfjbacgaaW.PrintWords Go.Proofs.YtapfidpfjbacgaaW.PrintMore Go.Proofs.Ytapfidpfjbacgaa.RL Go.Proofs.Ytapfidpfjbacgaa.PL
/-- Does an order have what its algorithm needs, and nothing else? -/
def algoS (al rt sh : Int) (l : List Int) : Bool :=
  if al = 1 then decide (l.length = 0) && decide (rt = 0) && decide (sh = 0)
  else if al = 2 then rightW l && decide (rt = 0) && decide (sh = 0)
  else if al = 3 then decide (l.length = 0) && decide (1 ≤ rt ∧ rt ≤ 10000) && decide (sh = 0)
  else if al = 4 then decide (l.length = 0) && decide (rt = 0) && decide (1 ≤ sh ∧ sh ≤ 1099511627776)
  else false
theorem awithin_walk (n lo hi : Int) (w : World) : Calls Try.prog 66 #[.int .i64 n, .int .i64 lo, .int .i64 hi] w fun e w' => e = .returned (.bool (decide (lo ≤ n ∧ n ≤ hi))) ∧ w' = w := by
  by_cases h : lo ≤ n
  · go_enter Try.func66, Try.ntmps66
    go_wp2_with fail
    go_ret
    exact ⟨by simp [h], rfl⟩
  · go_enter Try.func66, Try.ntmps66
    go_wp2_with fail
    go_ret
    exact ⟨by simp; omega, rfl⟩
set_option maxHeartbeats 8000000 in
set_option maxRecDepth 100000 in
theorem algo_walk (k sd q p al st en rt sh : Int) (id tg ac sy : ByteArray) (A : Option Addr) (c : Nat) (l : List Int) (hc : l.length ≤ c) (w : World) (hl : Kd.C (Kd.int .i64) w A l.length l) :
    Calls Try.prog 68 #[.agg #[.int .i64 k, .string id, .string tg, .string ac, .string sy, .int .i64 sd, .int .i64 q, .int .i64 p, .int .i64 al, .int .i64 st, .int .i64 en, .int .i64 rt, .int .i64 sh, .slice A l.length c]] w fun e w' => e = .returned (.bool (algoS al rt sh l)) ∧ Below w.heap.size w w' := by
  have hm := Kd.C_max hl
  have hck : ∀ w', Below w.heap.size w w' → Calls Try.prog 44 #[.slice A l.length c] w' fun e w'' => e = .returned (.int .i64 (if rightW l = true then 0 else 30)) ∧ Below w'.heap.size w' w'' := fun w' hw => (curve_Check.calls A c l _ w' (Kd.C_below hl hw) hc rfl).mono fun e w'' h => ⟨h.1, h.2.below⟩
  have HC := Lib.hid hck
  have hw3 := fun w => awithin_walk rt 1 10000 w
  have hw4 := fun w => awithin_walk sh 1 1099511627776 w
  have HW3 := Lib.hid hw3; have HW4 := Lib.hid hw4
  have bel : ∀ o n, Below w.heap.size w ((w.alloc o).drewN n) := fun o n => pw_below_drewN ((Below.refl _ _).alloc (Nat.le_refl _) _) n
  have HB := Lib.hid bel
  clear hck hw3 hw4 bel hl
  generalize hn : l.length = n at *
  obtain ⟨v, hv⟩ : ∃ v, v = algoS al rt sh l := ⟨_, rfl⟩
  rw [← hv]
  unfold algoS at hv
  rw [hn] at hv
  have HV := Lib.hid hv
  clear hv hn
  by_cases a1 : al = 1
  · subst a1
    have hv := HV.out; rw [if_pos rfl] at hv
    go_enter Try.func68, Try.ntmps68
    go_wp2_with fail
    go_quiet (fail)
    subst hv
    go_wp2_with go_in
    all_goals (go_ret; refine ⟨?_, HB.out _ _⟩)
    all_goals (first | rfl | (simp; done) | (simp; rfl) | (simp; rw [Bool.eq_iff_iff]; simp; done) | (simp; rw [Bool.eq_iff_iff]; simp; omega) | (simp [*]; done) | (simp [*]; omega) | (simp; omega))
  · by_cases a2 : al = 2
    · subst a2
      have hv := HV.out; rw [if_neg (by decide), if_pos rfl] at hv
      cases hr : rightW l with
      | true =>
        rw [hr] at HC hv
        rw [if_pos rfl] at HC
        go_enter Try.func68, Try.ntmps68
        go_wp2_with fail
        go_quiet (fail)
        subst hv
        go_wp2_with (go_at_call 44; (with_reducible refine (HC.out _ (HB.out _ _)).mono ?_); rintro e wc ⟨rfl, hb⟩)
        all_goals (go_ret; refine ⟨?_, bt (HB.out _ _) hb⟩)
        all_goals (first | rfl | (simp; done) | (simp; rfl) | (simp; rw [Bool.eq_iff_iff]; simp; done) | (simp; rw [Bool.eq_iff_iff]; simp; omega) | (simp [*]; done) | (simp [*]; omega) | (simp; omega))
      | false =>
        rw [hr] at HC hv
        rw [if_neg (by decide)] at HC
        go_enter Try.func68, Try.ntmps68
        go_wp2_with fail
        go_quiet (fail)
        subst hv
        go_wp2_with (go_at_call 44; (with_reducible refine (HC.out _ (HB.out _ _)).mono ?_); rintro e wc ⟨rfl, hb⟩)
        all_goals (go_ret; refine ⟨?_, bt (HB.out _ _) hb⟩)
        all_goals (first | rfl | (simp; done) | (simp; rfl) | (simp; rw [Bool.eq_iff_iff]; simp; done) | (simp; rw [Bool.eq_iff_iff]; simp; omega) | (simp [*]; done) | (simp [*]; omega) | (simp; omega))
    · by_cases a3 : al = 3
      · subst a3
        have hv := HV.out; rw [if_neg (by decide), if_neg (by decide), if_pos rfl] at hv
        go_enter Try.func68, Try.ntmps68
        go_wp2_with fail
        go_quiet (fail)
        subst hv
        go_wp2_with (go_at_call 66; (with_reducible refine (HW3.out _).mono ?_); rintro e wc ⟨rfl, rfl⟩)
        all_goals (go_ret; refine ⟨?_, HB.out _ _⟩)
        all_goals (first | rfl | (simp; done) | (simp; rfl) | (simp; rw [Bool.eq_iff_iff]; simp; done) | (simp; rw [Bool.eq_iff_iff]; simp; omega) | (simp [*]; done) | (simp [*]; omega) | (simp; omega))
      · by_cases a4 : al = 4
        · subst a4
          have hv := HV.out; rw [if_neg (by decide), if_neg (by decide), if_neg (by decide), if_pos rfl] at hv
          go_enter Try.func68, Try.ntmps68
          go_wp2_with fail
          go_quiet (fail)
          subst hv
          go_wp2_with (go_at_call 66; (with_reducible refine (HW4.out _).mono ?_); rintro e wc ⟨rfl, rfl⟩)
          all_goals (go_ret; refine ⟨?_, HB.out _ _⟩)
          all_goals (first | rfl | (simp; done) | (simp; rfl) | (simp; rw [Bool.eq_iff_iff]; simp; done) | (simp; rw [Bool.eq_iff_iff]; simp; omega) | (simp [*]; done) | (simp [*]; omega) | (simp; omega))
        · have hv := HV.out; rw [if_neg a1, if_neg a2, if_neg a3, if_neg a4] at hv
          go_enter Try.func68, Try.ntmps68
          go_wp2_with fail
          go_quiet (fail)
          subst hv
          go_wp2_with fail
          go_ret
          exact ⟨rfl, HB.out _ _⟩
/-- The quantity, the price and the end are in their bounds. -/
def worthB (q p en : Int) : Bool := decide (1 ≤ q ∧ q ≤ 1099511627776) && decide (1 ≤ p ∧ p ≤ 1099511627776) && decide (0 ≤ en ∧ en ≤ 1099511627776)
set_option maxHeartbeats 4000000 in
set_option maxRecDepth 100000 in
theorem aworth_walk (k sd q p al st en rt sh : Int) (id tg ac sy : ByteArray) (A : Option Addr) (c : Nat) (l : List Int) (w : World) : Calls Try.prog 42 #[.agg #[.int .i64 k, .string id, .string tg, .string ac, .string sy, .int .i64 sd, .int .i64 q, .int .i64 p, .int .i64 al, .int .i64 st, .int .i64 en, .int .i64 rt, .int .i64 sh, .slice A l.length c]] w fun e w' => e = .returned (.bool (worthB q p en)) ∧ Below w.heap.size w w' := by
  have h1 := fun w => awithin_walk q 1 1099511627776 w
  have h2 := fun w => awithin_walk p 1 1099511627776 w
  have h3 := fun w => awithin_walk en 0 1099511627776 w
  have hB := Lib.hid ((Below.refl w.heap.size w).alloc (Nat.le_refl _) (.cells #[.int .i64 k, .string id, .string tg, .string ac, .string sy, .int .i64 sd, .int .i64 q, .int .i64 p, .int .i64 al, .int .i64 st, .int .i64 en, .int .i64 rt, .int .i64 sh, .slice A l.length c] 24))
  unfold worthB
  generalize decide (1 ≤ q ∧ q ≤ 1099511627776) = d1 at *
  generalize decide (1 ≤ p ∧ p ≤ 1099511627776) = d2 at *
  generalize decide (0 ≤ en ∧ en ≤ 1099511627776) = d3 at *
  have H1 := Lib.hid h1; have H2 := Lib.hid h2; have H3 := Lib.hid h3
  clear h1 h2 h3
  cases d1 <;> cases d2 <;> cases d3
  all_goals
    go_enter Try.func42, Try.ntmps42
    go_wp2_with (go_at_call 66; first | ((with_reducible refine (H1.out _).mono ?_); rintro e wa ⟨rfl, rfl⟩) | ((with_reducible refine (H2.out _).mono ?_); rintro e wb ⟨rfl, rfl⟩) | ((with_reducible refine (H3.out _).mono ?_); rintro e wc ⟨rfl, rfl⟩))
    go_ret
    exact ⟨rfl, hB.out⟩
theorem aspan_walk (s e : Int) (h1 : 0 ≤ s) (h2 : s ≤ 1099511627776) (h3 : 0 ≤ e) (h4 : e ≤ 1099511627776) (w : World) : Calls Try.prog 67 #[.int .i64 s, .int .i64 e] w fun en w' => en = .returned (.bool (decide (1 ≤ e - s ∧ e - s ≤ 1073741824))) ∧ w' = w := by
  have h := fun w => awithin_walk (e - s) 1 1073741824 w
  have H := Lib.hid h
  clear h
  go_enter Try.func67, Try.ntmps67
  go_wp2_with (go_at_call 66; (with_reducible refine (H.out _).mono ?_); rintro e wa ⟨rfl, rfl⟩)
  go_ret
  exact ⟨by simp, rfl⟩
/-- May a new order be? -/
def freshS (tg ac sy : ByteArray) (sd q p al st en rt sh : Int) (l : List Int) : Bool := nameV ac && nameV sy && tg.toList.isEmpty && decide (1 ≤ sd ∧ sd ≤ 2) && worthB q p en && decide (0 ≤ st ∧ st ≤ 1099511627776) && decide (1 ≤ en - st ∧ en - st ≤ 1073741824) && algoS al rt sh l
set_option maxHeartbeats 8000000 in
set_option maxRecDepth 100000 in
theorem fresh_walk (k sd q p al st en rt sh : Int) (id tg ac sy : ByteArray) (A : Option Addr) (c : Nat) (l : List Int) (hc : l.length ≤ c) (w : World) (hl : Kd.C (Kd.int .i64) w A l.length l) : Calls Try.prog 40 #[.agg #[.int .i64 k, .string id, .string tg, .string ac, .string sy, .int .i64 sd, .int .i64 q, .int .i64 p, .int .i64 al, .int .i64 st, .int .i64 en, .int .i64 rt, .int .i64 sh, .slice A l.length c]] w fun e w' => e = .returned (.bool (freshS tg ac sy sd q p al st en rt sh l)) ∧ Below w.heap.size w w' := by
  have hX := Blk.new w 24 #[.int .i64 k, .string id, .string tg, .string ac, .string sy, .int .i64 sd, .int .i64 q, .int .i64 p, .int .i64 al, .int .i64 st, .int .i64 en, .int .i64 rt, .int .i64 sh, .slice A l.length c]
  have hB := (Below.refl w.heap.size w).alloc (Nat.le_refl _) (.cells #[.int .i64 k, .string id, .string tg, .string ac, .string sy, .int .i64 sd, .int .i64 q, .int .i64 p, .int .i64 al, .int .i64 st, .int .i64 en, .int .i64 rt, .int .i64 sh, .slice A l.length c] 24)
  have v2 := fun w => rvalid_walk ac w
  have v3 := fun w => rvalid_walk sy w
  have h4 := fun w => awithin_walk sd 1 2 w
  have h5 := fun w => aworth_walk k sd q p al st en rt sh id tg ac sy A c l w
  have h6 := fun w => awithin_walk st 0 1099511627776 w
  have h7 := fun a1 a2 a3 a4 w => aspan_walk st en a1 a2 a3 a4 w
  have h8 := fun w' (hb : Below w.heap.size w w') => algo_walk k sd q p al st en rt sh id tg ac sy A c l hc w' (Kd.C_below hl hb)
  have hwb : worthB q p en = true → 0 ≤ en ∧ en ≤ 1099511627776 := by unfold worthB; simp
  have hst : decide (0 ≤ st ∧ st ≤ 1099511627776) = true → 0 ≤ st ∧ st ≤ 1099511627776 := by simp
  unfold freshS
  generalize nameV ac = d2 at *
  generalize nameV sy = d3 at *
  generalize decide (1 ≤ sd ∧ sd ≤ 2) = d4 at *
  generalize worthB q p en = d5 at *
  generalize decide (0 ≤ st ∧ st ≤ 1099511627776) = d6 at *
  generalize decide (1 ≤ en - st ∧ en - st ≤ 1073741824) = d7 at *
  generalize algoS al rt sh l = d8 at *
  have V2 := Lib.hid v2; have V3 := Lib.hid v3; have H4 := Lib.hid h4; have H5 := Lib.hid h5; have H6 := Lib.hid h6; have H7 := Lib.hid h7; have H8 := Lib.hid h8; have HWB := Lib.hid hwb; have HST := Lib.hid hst
  clear v2 v3 h4 h5 h6 h7 h8 hwb hst hl
  go_enter Try.func40, Try.ntmps40
  go_wp2_with fail
  generalize w.alloc (.cells #[.int .i64 k, .string id, .string tg, .string ac, .string sy, .int .i64 sd, .int .i64 q, .int .i64 p, .int .i64 al, .int .i64 st, .int .i64 en, .int .i64 rt, .int .i64 sh, .slice A l.length c] 24) = w0 at *
  refine (V2.out w0).mono ?_
  rintro e w2 ⟨rfl, o2, rfl⟩
  have b : Below w0.heap.size w0 (w0.alloc o2) := (Below.refl _ _).alloc (Nat.le_refl _) _
  have hX := hX.on b
  have hB := bt hB b
  clear b
  generalize w0.alloc o2 = w2 at *
  cases d2 with
  | false =>
    go_wp2_with fail
    go_ret
    exact ⟨by simp, hB⟩
  | true =>
    have y0 := hX.cell 0; have y1 := hX.cell 1; have y2 := hX.cell 2; have y3 := hX.cell 3; have y4 := hX.cell 4; have y5 := hX.cell 5; have y6 := hX.cell 6; have y7 := hX.cell 7; have y8 := hX.cell 8; have y9 := hX.cell 9; have y10 := hX.cell 10; have y11 := hX.cell 11; have y12 := hX.cell 12; have y13 := hX.cell 13
    simp at y0 y1 y2 y3 y4 y5 y6 y7 y8 y9 y10 y11 y12 y13
    go_wp2_with fail
    clear y0 y1 y2 y3 y4 y5 y6 y7 y8 y9 y10 y11 y12 y13
    refine (V3.out w2).mono ?_
    rintro e w3 ⟨rfl, o3, rfl⟩
    have b : Below w2.heap.size w2 (w2.alloc o3) := (Below.refl _ _).alloc (Nat.le_refl _) _
    have hX := hX.on b
    have hB := bt hB b
    clear b
    generalize w2.alloc o3 = w3 at *
    cases d3 with
    | false =>
      go_wp2_with fail
      go_ret
      exact ⟨by simp, hB⟩
    | true =>
      cases htg : tg.toList.isEmpty with
      | true =>
        have y0 := hX.cell 0; have y1 := hX.cell 1; have y2 := hX.cell 2; have y3 := hX.cell 3; have y4 := hX.cell 4; have y5 := hX.cell 5; have y6 := hX.cell 6; have y7 := hX.cell 7; have y8 := hX.cell 8; have y9 := hX.cell 9; have y10 := hX.cell 10; have y11 := hX.cell 11; have y12 := hX.cell 12; have y13 := hX.cell 13
        simp at y0 y1 y2 y3 y4 y5 y6 y7 y8 y9 y10 y11 y12 y13
        go_wp2_with fail
        clear y0 y1 y2 y3 y4 y5 y6 y7 y8 y9 y10 y11 y12 y13
        refine (H4.out w3).mono ?_
        rintro e w4 ⟨rfl, rfl⟩
        cases d4 with
        | false =>
          go_wp2_with fail
          go_ret
          exact ⟨by simp, hB⟩
        | true =>
          have y0 := hX.cell 0; have y1 := hX.cell 1; have y2 := hX.cell 2; have y3 := hX.cell 3; have y4 := hX.cell 4; have y5 := hX.cell 5; have y6 := hX.cell 6; have y7 := hX.cell 7; have y8 := hX.cell 8; have y9 := hX.cell 9; have y10 := hX.cell 10; have y11 := hX.cell 11; have y12 := hX.cell 12; have y13 := hX.cell 13
          simp at y0 y1 y2 y3 y4 y5 y6 y7 y8 y9 y10 y11 y12 y13
          go_wp2_with fail
          clear y0 y1 y2 y3 y4 y5 y6 y7 y8 y9 y10 y11 y12 y13
          refine (H5.out w4).mono ?_
          rintro e w5 ⟨rfl, b⟩
          have hX := hX.on b
          have hB := bt hB b
          clear b
          cases d5 with
          | false =>
            go_wp2_with fail
            go_ret
            exact ⟨by simp, hB⟩
          | true =>
            have y0 := hX.cell 0; have y1 := hX.cell 1; have y2 := hX.cell 2; have y3 := hX.cell 3; have y4 := hX.cell 4; have y5 := hX.cell 5; have y6 := hX.cell 6; have y7 := hX.cell 7; have y8 := hX.cell 8; have y9 := hX.cell 9; have y10 := hX.cell 10; have y11 := hX.cell 11; have y12 := hX.cell 12; have y13 := hX.cell 13
            simp at y0 y1 y2 y3 y4 y5 y6 y7 y8 y9 y10 y11 y12 y13
            go_wp2_with fail
            clear y0 y1 y2 y3 y4 y5 y6 y7 y8 y9 y10 y11 y12 y13
            refine (H6.out w5).mono ?_
            rintro e w6 ⟨rfl, rfl⟩
            cases d6 with
            | false =>
              go_wp2_with fail
              go_ret
              exact ⟨by simp, hB⟩
            | true =>
              have e1 := HWB.out (by trivial)
              have e2 := HST.out (by trivial)
              have y0 := hX.cell 0; have y1 := hX.cell 1; have y2 := hX.cell 2; have y3 := hX.cell 3; have y4 := hX.cell 4; have y5 := hX.cell 5; have y6 := hX.cell 6; have y7 := hX.cell 7; have y8 := hX.cell 8; have y9 := hX.cell 9; have y10 := hX.cell 10; have y11 := hX.cell 11; have y12 := hX.cell 12; have y13 := hX.cell 13
              simp at y0 y1 y2 y3 y4 y5 y6 y7 y8 y9 y10 y11 y12 y13
              go_wp2_with fail
              clear y0 y1 y2 y3 y4 y5 y6 y7 y8 y9 y10 y11 y12 y13
              refine (H7.out e2.1 e2.2 e1.1 e1.2 w6).mono ?_
              rintro e w7 ⟨rfl, rfl⟩
              cases d7 with
              | false =>
                go_wp2_with fail
                go_ret
                exact ⟨by simp, hB⟩
              | true =>
                have y0 := hX.cell 0; have y1 := hX.cell 1; have y2 := hX.cell 2; have y3 := hX.cell 3; have y4 := hX.cell 4; have y5 := hX.cell 5; have y6 := hX.cell 6; have y7 := hX.cell 7; have y8 := hX.cell 8; have y9 := hX.cell 9; have y10 := hX.cell 10; have y11 := hX.cell 11; have y12 := hX.cell 12; have y13 := hX.cell 13
                simp at y0 y1 y2 y3 y4 y5 y6 y7 y8 y9 y10 y11 y12 y13
                go_wp2_with fail
                clear y0 y1 y2 y3 y4 y5 y6 y7 y8 y9 y10 y11 y12 y13
                refine (H8.out w7 hB).mono ?_
                rintro e w8 ⟨rfl, b⟩
                have hB := bt hB b
                go_wp2_with fail
                go_ret
                exact ⟨by simp [List.isEmpty_iff.1 htg], hB⟩
      | false =>
        have y2 := hX.cell 2
        simp at y2
        go_wp2_with fail
        go_ret
        exact ⟨by (simp; intro h; rw [h] at htg; cases htg), hB⟩
set_option maxHeartbeats 8000000 in
set_option maxRecDepth 100000 in
theorem right27_walk (sd q p al st en rt sh : Int) (id tg ac sy : ByteArray) (A : Option Addr) (c : Nat) (l : List Int) (hc : l.length ≤ c) (w : World) (hl : Kd.C (Kd.int .i64) w A l.length l) : Calls Try.prog 20 #[.agg #[.int .i64 1, .string id, .string tg, .string ac, .string sy, .int .i64 sd, .int .i64 q, .int .i64 p, .int .i64 al, .int .i64 st, .int .i64 en, .int .i64 rt, .int .i64 sh, .slice A l.length c]] w fun e w' => e = .returned (.bool (nameV id && freshS tg ac sy sd q p al st en rt sh l)) ∧ Below w.heap.size w w' := by
  have hX := Blk.new w 24 #[.int .i64 1, .string id, .string tg, .string ac, .string sy, .int .i64 sd, .int .i64 q, .int .i64 p, .int .i64 al, .int .i64 st, .int .i64 en, .int .i64 rt, .int .i64 sh, .slice A l.length c]
  have hB := (Below.refl w.heap.size w).alloc (Nat.le_refl _) (.cells #[.int .i64 1, .string id, .string tg, .string ac, .string sy, .int .i64 sd, .int .i64 q, .int .i64 p, .int .i64 al, .int .i64 st, .int .i64 en, .int .i64 rt, .int .i64 sh, .slice A l.length c] 24)
  have v2 := fun w => rvalid_walk id w
  have h8 := fun w' (hb : Below w.heap.size w w') => fresh_walk 1 sd q p al st en rt sh id tg ac sy A c l hc w' (Kd.C_below hl hb)
  generalize nameV id = d2 at *
  generalize freshS tg ac sy sd q p al st en rt sh l = d8 at *
  have V2 := Lib.hid v2; have H8 := Lib.hid h8
  clear v2 h8 hl
  go_enter Try.func20, Try.ntmps20
  go_wp2_with (first | (go_at_call 38; go_in))
  generalize w.alloc (.cells #[.int .i64 1, .string id, .string tg, .string ac, .string sy, .int .i64 sd, .int .i64 q, .int .i64 p, .int .i64 al, .int .i64 st, .int .i64 en, .int .i64 rt, .int .i64 sh, .slice A l.length c] 24) = w0 at *
  refine (V2.out w0).mono ?_
  rintro e w2 ⟨rfl, o2, rfl⟩
  have b : Below w0.heap.size w0 (w0.alloc o2) := (Below.refl _ _).alloc (Nat.le_refl _) _
  have hX := hX.on b
  have hB := bt hB b
  clear b
  generalize w0.alloc o2 = w2 at *
  have y0 := hX.cell 0; have y1 := hX.cell 1; have y2 := hX.cell 2; have y3 := hX.cell 3; have y4 := hX.cell 4; have y5 := hX.cell 5; have y6 := hX.cell 6; have y7 := hX.cell 7; have y8 := hX.cell 8; have y9 := hX.cell 9; have y10 := hX.cell 10; have y11 := hX.cell 11; have y12 := hX.cell 12; have y13 := hX.cell 13
  simp at y0 y1 y2 y3 y4 y5 y6 y7 y8 y9 y10 y11 y12 y13
  cases d2 with
  | false =>
    go_wp2_with fail
    go_ret
    exact ⟨by simp, hB⟩
  | true =>
    go_wp2_with fail
    refine (H8.out w2 hB).mono ?_
    rintro e w3 ⟨rfl, b⟩
    have hB := bt hB b
    go_wp2_with fail
    go_ret
    exact ⟨by simp, hB⟩
end Go.Proofs.Ytapfidpfjbacgaa.Hand
namespace Go.Proofs.Ytapfidpfjbacgaa.Hand
open Go Go.RowKit Go.Proofs.YtapfidpfjbacgaaW.PrintWords Go.Proofs.YtapfidpfjbacgaaW.PrintMore Go.Proofs.Ytapfidpfjbacgaa.RL Go.Proofs.Ytapfidpfjbacgaa.PL
theorem reps_ints (w : World) (b : Nat) (ok : Nat → Prop) : ∀ l : List Int, Reps ((Kd.int .i64).M w b ok) 1 l (l.map (Value.int .i64))
  | [] => Reps.none _ _
  | x :: l => Reps.one rfl (reps_ints w b ok l)
theorem own_ints {w : World} {b : Nat} {v : Value} {l : List Int} (h : w.ownsRow b 3 1 v l.length (l.map (Value.int .i64))) : Kd.R (Kd.int .i64) 3 w b (fun _ => True) v l :=
  ⟨fun _ _ => trivial, _, h, reps_ints _ _ _ l⟩
theorem at_I {w : World} {A : Option Addr} {xs : List Int} (h : Kd.C (Kd.int .i64) w A xs.length xs) (h0 : 0 < xs.length) : ∃ b off, A = some ⟨b, off, none⟩ ∧ ∀ j, j < xs.length → w.cell? ⟨b, off + j, none⟩ = some (.int .i64 (xs.getD j 0)) := by
  have key : ∀ i, i < xs.length → ∃ ad, A = some ad ∧ w.cell? (ad.add i) = some (.int .i64 (xs.getD i 0)) := by
    intro i hi
    obtain ⟨ad, c, e, _, hK, hc0⟩ := Kd.C_get h 0 (i : Int) (by omega) (by omega)
    simp only [Int.toNat_natCast] at hc0 hK
    have hK' : c = [.int .i64 (xs.getD i 0)] := hK
    rw [hK'] at hc0
    have := hc0 0 _ rfl
    rw [show (Kd.int .i64).sz = 1 from rfl, Nat.mul_one, Nat.add_zero] at this
    exact ⟨ad, e, this⟩
  obtain ⟨ad, e, c0⟩ := key 0 h0
  have hs : ad.spot = none := by
    unfold World.cell? at c0
    rw [show ad.add 0 = ad from rfl] at c0
    cases hsp : ad.spot with
    | none => rfl
    | some _ => rw [hsp] at c0; simp at c0; split at c0 <;> simp at c0
  obtain ⟨b, off, sp⟩ := ad
  have hs' : sp = none := hs
  subst hs'
  refine ⟨b, off, e, fun j hj => ?_⟩
  obtain ⟨ad', e', cj⟩ := key j hj
  rw [e] at e'
  obtain rfl := Option.some.inj e'
  have ha : (⟨b, off, none⟩ : Addr).add j = ⟨b, off + j, none⟩ := by
    unfold Addr.add
    split
    · rename_i h0; subst h0; rfl
    · rfl
  rw [ha] at cj
  exact cj
theorem clone_walk (A : Option Addr) (c : Nat) (l : List Int) (hm : l.length ≤ 1000) (w : World) (hl : Kd.C (Kd.int .i64) w A l.length l) :
    Calls Try.prog 22 #[.slice A l.length c] w fun e w' => ∃ B d, e = .returned (.slice B l.length d) ∧ Kd.R (Kd.int .i64) 3 w' w.heap.size (fun _ => True) (.slice B l.length d) l ∧ Below w.heap.size w w' := by
  cases A with
  | none =>
    have h0 : l = [] := by
      cases l with
      | nil => rfl
      | cons x l => obtain ⟨ad, e, _⟩ := hl.2.2 (by simp); cases e
    subst h0
    refine (Try.slices_Clone_int_nil 0 c w).mono ?_
    rintro e w' ⟨rfl, rfl⟩
    exact ⟨none, 0, rfl, Kd.R_nil _ _ _ _ _, Below.refl _ _⟩
  | some ad =>
    by_cases h0 : 0 < l.length
    · obtain ⟨b, off, e, hc⟩ := at_I hl h0
      obtain rfl := Option.some.inj e
      refine (Try.slices_Clone_int b off l.length c l w (Nat.le_refl _) (by omega) hc).mono ?_
      rintro e w' ⟨v, rfl, ho, _, hb⟩
      rw [List.take_length] at ho
      have hR := own_ints ho
      obtain ⟨B, d, rfl⟩ := Kd.R_slice hR
      exact ⟨B, d, rfl, hR, hb⟩
    · have h1 : l = [] := by
        cases l with
        | nil => rfl
        | cons x l => simp at h0
      subst h1
      refine (Try.slices_Clone_int_zero ad c w).mono ?_
      rintro e w' ⟨v, rfl, ho, _, hb⟩
      have hR : Kd.R (Kd.int .i64) 3 w' w.heap.size (fun _ => True) v [] := own_ints (l := []) ho
      obtain ⟨B, d, rfl⟩ := Kd.R_slice hR
      exact ⟨B, d, rfl, hR, hb⟩
/-- What an order's algorithm needs, as it lies in the slicer. -/
def howV (al rt sh v : Int) (B : Option Addr) (n d : Nat) : Value := if al = 2 then .iface 62 (.agg #[.slice B n d]) else if al = 3 then .iface 64 (.agg #[.int .i64 rt, .int .i64 v]) else if al = 4 then .iface 66 (.agg #[.int .i64 sh]) else .iface 68 (.agg #[])
theorem R_put {w : World} {b g : Nat} {v : Value} {l : List Int} (h : Kd.R (Kd.int .i64) 3 w b (fun _ => True) v l) {t : TypeId} {cs : Array Value} (hb : Blk w g t cs) (ht : 3 ≠ t) (k : Nat) (u : Value) : Kd.R (Kd.int .i64) 3 (w.setCell ⟨g, k, none⟩ u) b (fun _ => True) v l :=
  Kd.R_set h hb (by intro q hq; have hq' : q = 3 := by simpa [Kd.int, Kd.scalar] using hq
                    subst hq'; exact ht) k u
set_option maxHeartbeats 8000000 in
set_option maxRecDepth 100000 in
theorem new_good (sd q p al st en rt sh v : Int) (id tg ac sy : ByteArray) (A : Option Addr) (c : Nat) (l : List Int) (hc : l.length ≤ c) (hm : l.length ≤ 1000) (hok : (nameV id && freshS tg ac sy sd q p al st en rt sh l) = true) (hv1 : 0 ≤ v) (hv2 : v ≤ 4611686018427387904) (w : World) (hl : Kd.C (Kd.int .i64) w A l.length l) :
    Calls Try.prog 8 #[.agg #[.int .i64 1, .string id, .string tg, .string ac, .string sy, .int .i64 sd, .int .i64 q, .int .i64 p, .int .i64 al, .int .i64 st, .int .i64 en, .int .i64 rt, .int .i64 sh, .slice A l.length c], .int .i64 v] w fun e w' => ∃ g B d, w.heap.size ≤ g ∧ e = .returned (.tuple #[.pointer (some ⟨g, 0, none⟩), .int .i64 0]) ∧ Blk w' g 56 #[.int .i64 1, .string id, .string tg, .string ac, .string sy, .int .i64 sd, .int .i64 q, .int .i64 p, .int .i64 al, .int .i64 st, .int .i64 en, .int .i64 rt, .int .i64 sh, .slice B l.length d, howV al rt sh v B l.length d, .int .i64 v] ∧ Kd.R (Kd.int .i64) 3 w' w.heap.size (fun _ => True) (.slice B l.length d) l ∧ Below w.heap.size w w' := by
  have r := fun w' (hb : Below w.heap.size w w') => right27_walk sd q p al st en rt sh id tg ac sy A c l hc w' (Kd.C_below hl hb)
  rw [hok] at r
  have cw := fun w' (hb : Below w.heap.size w w') => clone_walk A c l hm w' (Kd.C_below hl hb)
  have R := Lib.hid r; have CW := Lib.hid cw
  have hX := Blk.new w 24 #[.int .i64 1, .string id, .string tg, .string ac, .string sy, .int .i64 sd, .int .i64 q, .int .i64 p, .int .i64 al, .int .i64 st, .int .i64 en, .int .i64 rt, .int .i64 sh, .slice A l.length c]
  have hB := (Below.refl w.heap.size w).alloc (Nat.le_refl _) (.cells #[.int .i64 1, .string id, .string tg, .string ac, .string sy, .int .i64 sd, .int .i64 q, .int .i64 p, .int .i64 al, .int .i64 st, .int .i64 en, .int .i64 rt, .int .i64 sh, .slice A l.length c] 24)
  clear r cw hok hl
  go_enter Try.func8, Try.ntmps8
  go_wp2_with fail
  generalize w.alloc (.cells #[.int .i64 1, .string id, .string tg, .string ac, .string sy, .int .i64 sd, .int .i64 q, .int .i64 p, .int .i64 al, .int .i64 st, .int .i64 en, .int .i64 rt, .int .i64 sh, .slice A l.length c] 24) = w0 at *
  refine (R.out w0 hB).mono ?_
  rintro e wr ⟨rfl, hb⟩
  have hX := hX.on hb
  have hB := bt hB hb
  clear hb R
  have c13 := hX.cell 13
  simp at c13
  go_wp2_with (go_at_call 21; go_in)
  refine (CW.out wr hB).mono ?_
  rintro e wc ⟨B, d, rfl, hR, hb⟩
  have hX := hX.on hb
  have hR := Kd.R_lower hR hB.size
  have hB := bt hB hb
  clear hb CW c13
  have c13 := hX.cell 13
  have f13 := hX.frozen 13
  simp at c13
  go_upto_region 4 with (fail)
  have hR := R_put hR hX (by decide) 13 (.slice B l.length d)
  have hX := hX.put 13 (.slice B l.length d)
  have hB := below_set hB (p := ⟨w.heap.size, 13, none⟩) (Nat.le_refl _) (.slice B l.length d)
  generalize wc.setCell ⟨w.heap.size, 13, none⟩ (.slice B l.length d) = W2 at *
  have hX : Blk W2 w.heap.size 24 #[.int .i64 1, .string id, .string tg, .string ac, .string sy, .int .i64 sd, .int .i64 q, .int .i64 p, .int .i64 al, .int .i64 st, .int .i64 en, .int .i64 rt, .int .i64 sh, .slice B l.length d] := hX
  have y0 := hX.cell 0; have y1 := hX.cell 1; have y2 := hX.cell 2; have y3 := hX.cell 3; have y4 := hX.cell 4; have y5 := hX.cell 5; have y6 := hX.cell 6; have y7 := hX.cell 7; have y8 := hX.cell 8; have y9 := hX.cell 9; have y10 := hX.cell 10; have y11 := hX.cell 11; have y12 := hX.cell 12; have y13 := hX.cell 13
  simp at y0 y1 y2 y3 y4 y5 y6 y7 y8 y9 y10 y11 y12 y13
  have hlt := hX.lt
  clear c13 f13
  by_cases a2 : al = 2
  · subst a2
    go_wp2_with fail
    exact bodyPost_ret (v := .tuple #[.pointer (some ⟨W2.heap.size, 0, none⟩), .int .i64 0]) (by simp [results, Try.results8, go_sem]) rfl ⟨W2.heap.size, B, d, hB.size, rfl, Blk.new _ _ _, Kd.R_below hR ((Below.refl _ _).alloc (Nat.le_refl _) _), hB.alloc hB.size _⟩
  · by_cases a3 : al = 3
    · subst a3
      go_wp2_with fail
      exact bodyPost_ret (v := .tuple #[.pointer (some ⟨W2.heap.size, 0, none⟩), .int .i64 0]) (by simp [results, Try.results8, go_sem]) rfl ⟨W2.heap.size, B, d, hB.size, rfl, Blk.new _ _ _, Kd.R_below hR ((Below.refl _ _).alloc (Nat.le_refl _) _), hB.alloc hB.size _⟩
    · by_cases a4 : al = 4
      · subst a4
        go_wp2_with fail
        exact bodyPost_ret (v := .tuple #[.pointer (some ⟨W2.heap.size, 0, none⟩), .int .i64 0]) (by simp [results, Try.results8, go_sem]) rfl ⟨W2.heap.size, B, d, hB.size, rfl, Blk.new _ _ _, Kd.R_below hR ((Below.refl _ _).alloc (Nat.le_refl _) _), hB.alloc hB.size _⟩
      · go_wp2_with fail
        exact bodyPost_ret (v := .tuple #[.pointer (some ⟨W2.heap.size, 0, none⟩), .int .i64 0]) (by simp [results, Try.results8, go_sem]) rfl ⟨W2.heap.size, B, d, hB.size, rfl, by unfold howV; rw [if_neg a2, if_neg a3, if_neg a4]; exact Blk.new _ _ _, Kd.R_below hR ((Below.refl _ _).alloc (Nat.le_refl _) _), hB.alloc hB.size _⟩
theorem swithin_walk (n lo hi : Int) (w : World) : Calls Try.prog 21 #[.int .i64 n, .int .i64 lo, .int .i64 hi] w fun e w' => e = .returned (.bool (decide (lo ≤ n ∧ n ≤ hi))) ∧ w' = w := by
  by_cases h : lo ≤ n
  · go_enter Try.func21, Try.ntmps21
    go_wp2_with fail
    go_ret
    exact ⟨by simp [h], rfl⟩
  · go_enter Try.func21, Try.ntmps21
    go_wp2_with fail
    go_ret
    exact ⟨by simp; omega, rfl⟩
set_option maxHeartbeats 8000000 in
set_option maxRecDepth 100000 in
theorem new_bad (k sd q p al st en rt sh v : Int) (id tg ac sy : ByteArray) (A : Option Addr) (c : Nat) (l : List Int) (hc : l.length ≤ c) (hno : k ≠ 1 ∨ (nameV id && freshS tg ac sy sd q p al st en rt sh l) = false ∨ ¬ (0 ≤ v ∧ v ≤ 4611686018427387904)) (w : World) (hl : Kd.C (Kd.int .i64) w A l.length l) :
    Calls Try.prog 8 #[.agg #[.int .i64 k, .string id, .string tg, .string ac, .string sy, .int .i64 sd, .int .i64 q, .int .i64 p, .int .i64 al, .int .i64 st, .int .i64 en, .int .i64 rt, .int .i64 sh, .slice A l.length c], .int .i64 v] w fun e w' => e = .returned (.tuple #[.pointer none, .int .i64 2]) ∧ Below w.heap.size w w' := by
  have hX := Blk.new w 24 #[.int .i64 k, .string id, .string tg, .string ac, .string sy, .int .i64 sd, .int .i64 q, .int .i64 p, .int .i64 al, .int .i64 st, .int .i64 en, .int .i64 rt, .int .i64 sh, .slice A l.length c]
  have hB := (Below.refl w.heap.size w).alloc (Nat.le_refl _) (.cells #[.int .i64 k, .string id, .string tg, .string ac, .string sy, .int .i64 sd, .int .i64 q, .int .i64 p, .int .i64 al, .int .i64 st, .int .i64 en, .int .i64 rt, .int .i64 sh, .slice A l.length c] 24)
  by_cases hk : k = 1
  · subst hk
    have r := fun w' (hb : Below w.heap.size w w') => right27_walk sd q p al st en rt sh id tg ac sy A c l hc w' (Kd.C_below hl hb)
    generalize (nameV id && freshS tg ac sy sd q p al st en rt sh l) = b at *
    have R := Lib.hid r
    clear r hl
    go_enter Try.func8, Try.ntmps8
    go_wp2_with fail
    generalize w.alloc (.cells #[.int .i64 1, .string id, .string tg, .string ac, .string sy, .int .i64 sd, .int .i64 q, .int .i64 p, .int .i64 al, .int .i64 st, .int .i64 en, .int .i64 rt, .int .i64 sh, .slice A l.length c] 24) = w0 at *
    refine (R.out w0 hB).mono ?_
    rintro e wr ⟨rfl, hb⟩
    have hB := bt hB hb
    clear hb R
    cases b with
    | false =>
      go_wp2_with fail
      exact bodyPost_ret (v := .tuple #[.pointer none, .int .i64 2]) (by simp [results, Try.results8, go_sem]) rfl ⟨rfl, hB⟩
    | true =>
      have hv : ¬ (0 ≤ v ∧ v ≤ 4611686018427387904) := by
        rcases hno with h | h | h
        · exact absurd rfl h
        · cases h
        · exact h
      have hs := fun w => swithin_walk v 0 4611686018427387904 w
      rw [decide_eq_false hv] at hs
      have HS := Lib.hid hs
      clear hno hv hs
      · go_wp2_with (go_at_call 21; (with_reducible refine (HS.out _).mono ?_); rintro e we ⟨rfl, rfl⟩)
        exact bodyPost_ret (v := .tuple #[.pointer none, .int .i64 2]) (by simp [results, Try.results8, go_sem]) rfl ⟨rfl, hB⟩
  · clear hno hl
    go_enter Try.func8, Try.ntmps8
    go_wp2_with fail
    exact bodyPost_ret (v := .tuple #[.pointer none, .int .i64 2]) (by simp [results, Try.results8, go_sem]) rfl ⟨rfl, hB⟩
end Go.Proofs.Ytapfidpfjbacgaa.Hand
