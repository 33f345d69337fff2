-- written by mp.py (my program over the kit's print)
import Derived.Test.YthnmpnilcdnimaaGx0
import Derived.Test.YthnmpnilcdnimaaGx4
import Derived.Test.YthnmpnilcdnimaaGx5
namespace Go.Proofs.Ythnmpnilcdnimaa.G
open Go.RowKit Go.Proofs.Ythnmpnilcdnimaa.Hand Go.Proofs.YthnmpnilcdnimaaW.PrintWords Go.Proofs.YthnmpnilcdnimaaW.PrintLast Go.Proofs.YthnmpnilcdnimaaW.PrintMore
attribute [local go_sem] max2_int min2_int max_two min_two max_three min_three max_four min_four   -- for this text's walks alone
set_option linter.unusedVariables false
set_option linter.unusedSimpArgs false

/-! ### spigotref02_Band: function 32 -/
def spigotref02_Band.j0 : Nat → Int → Int → Int → Bool → Option (Int × Int × Int)
  | 0, _, _, _, _ => none
  | k + 1, x0, x1, x2, x25 => if x25 = true then (some (0, 0, 2)) else ((spigotref02_Ceil.f k (wrap64 (Int.tdiv (wrap64 ((wrap64 (x0 * (wrap64 (10000 - x1)))) + 9999)) 10000)) x2).bind fun bt139 => (if (wrap64 (Int.tdiv (wrap64 (x0 * (wrap64 (10000 + x1)))) 10000)) > 1099511627776 then ((spigotref02_Floor.f 1099511627776 x2).bind fun bt141 => (if bt139.2 = 0 then (if bt139.1 > bt141.1 then (some (0, 0, 22)) else (some (bt139.1, bt141.1, 0))) else (some (0, 0, 22)))) else ((spigotref02_Floor.f (wrap64 (Int.tdiv (wrap64 (x0 * (wrap64 (10000 + x1)))) 10000)) x2).bind fun bt143 => (if bt139.2 = 0 then (if bt139.1 > bt143.1 then (some (0, 0, 22)) else (some (bt139.1, bt143.1, 0))) else (some (0, 0, 22))))))
def spigotref02_Band.f (k : Nat) (a0 : Int) (a1 : Int) (a2 : Int) : Option (Int × Int × Int) := (spigotref02_In.f a0 0 1099511627776).bind fun t137 => (if t137 = true then ((spigotref02_In.f a1 0 10000).bind fun t138 => (if t138 = true then (spigotref02_Band.j0 k a0 a1 a2 (decide (a2 < 1))) else (spigotref02_Band.j0 k a0 a1 a2 true))) else (spigotref02_Band.j0 k a0 a1 a2 true))
theorem spigotref02_Band.mono_l : ∀ k, (∀ y0 y1 y2 y3, LeO (spigotref02_Band.j0 k y0 y1 y2 y3) (spigotref02_Band.j0 (k + 1) y0 y1 y2 y3))
  | 0 => fun _ _ _ _ r h => by simp [spigotref02_Band.j0] at h
  | k + 1 => by
    have ih0 := spigotref02_Band.mono_l k
    · intro y0 y1 y2 y3
      unfold spigotref02_Band.j0
      repeat' first
      | (with_reducible exact ih0 _ _ _ _)
      | (with_reducible exact spigotref02_Ceil.mono _ _ _)
      | (with_reducible exact LeO.refl _)
      | (with_reducible exact LeO.none _)
      | (with_reducible refine LeO.ite ?_ ?_)
      | (with_reducible refine LeO.bind ?_ (fun _ => ?_))
      | exact ih0 _ _ _ _
      | exact spigotref02_Ceil.mono _ _ _
      | exact LeO.none _
      | refine LeO.ite ?_ ?_
      | refine LeO.bind ?_ (fun _ => ?_)
theorem spigotref02_Band.mono : ∀ a0 a1 a2 k, LeO (spigotref02_Band.f k a0 a1 a2) (spigotref02_Band.f (k + 1) a0 a1 a2) := by
  intro a0 a1 a2 k
  have ih0 := spigotref02_Band.mono_l k
  unfold spigotref02_Band.f
  repeat' first
      | (with_reducible exact ih0 _ _ _ _)
      | (with_reducible exact spigotref02_Ceil.mono _ _ _)
      | (with_reducible exact LeO.refl _)
      | (with_reducible exact LeO.none _)
      | (with_reducible refine LeO.ite ?_ ?_)
      | (with_reducible refine LeO.bind ?_ (fun _ => ?_))
      | exact ih0 _ _ _ _
      | exact spigotref02_Ceil.mono _ _ _
      | exact LeO.none _
      | refine LeO.ite ?_ ?_
      | refine LeO.bind ?_ (fun _ => ?_)
set_option maxHeartbeats 8000000 in
set_option maxRecDepth 100000 in
theorem spigotref02_Band.calls (k : Nat) (a0 : Int) (a1 : Int) (a2 : Int) (r1 : Int) (r2 : Int) (r3 : Int) (w : World) (h : spigotref02_Band.f k a0 a1 a2 = some (r1, r2, r3)) :
    Calls Try.prog 32 #[.int .i64 a0, .int .i64 a1, .int .i64 a2] w fun e w' => e = .returned (.tuple #[.int .i64 r1, .int .i64 r2, .int .i64 r3]) ∧ Below w.heap.size w w' := by
  have HB := Aside0.mk (Below.refl w.heap.size w)
  have H : ((spigotref02_In.f a0 0 1099511627776).bind fun t137 => (if t137 = true then ((spigotref02_In.f a1 0 10000).bind fun t138 => (if t138 = true then (spigotref02_Band.j0 k a0 a1 a2 (decide (a2 < 1))) else (spigotref02_Band.j0 k a0 a1 a2 true))) else (spigotref02_Band.j0 k a0 a1 a2 true))) = some (r1, r2, r3) := h
  clear h
  have HC4 := Aside0.mk H
  clear H
  go_enter Try.func32, Try.ntmps32
  go_upto_region 1 with (fail)
  go_cut [25] (fun v25 wc => ∃ (kq : Nat) (x25_3 : Bool), v25 = .bool x25_3 ∧ Aside0 (spigotref02_Band.j0 kq a0 a1 a2 x25_3 = some (r1, r2, r3)) ∧ Aside0 (kq ≤ k) ∧ Aside0 (Below w.heap.size w wc))
  case first =>
    have H := HC4.out
    clear HC4
    replace H := Option.bind_eq_some_iff.mp H
    obtain ⟨t137, A50, H⟩ := H
    replace H : (if t137 = true then ((spigotref02_In.f a1 0 10000).bind fun t138 => (if t138 = true then (spigotref02_Band.j0 k a0 a1 a2 (decide (a2 < 1))) else (spigotref02_Band.j0 k a0 a1 a2 true))) else (spigotref02_Band.j0 k a0 a1 a2 true)) = some (r1, r2, r3) := H
    have A5 := Aside0.mk A50
    clear A50
    by_cases c6 : t137 = true
    · subst c6
      have H1 : ((spigotref02_In.f a1 0 10000).bind fun t138 => (if t138 = true then (spigotref02_Band.j0 k a0 a1 a2 (decide (a2 < 1))) else (spigotref02_Band.j0 k a0 a1 a2 true))) = some (r1, r2, r3) := by rw [if_pos rfl] at H; exact H
      clear H
      have H := H1
      clear H1
      replace H := Option.bind_eq_some_iff.mp H
      obtain ⟨t138, A70, H⟩ := H
      replace H : (if t138 = true then (spigotref02_Band.j0 k a0 a1 a2 (decide (a2 < 1))) else (spigotref02_Band.j0 k a0 a1 a2 true)) = some (r1, r2, r3) := H
      have A7 := Aside0.mk A70
      clear A70
      by_cases c8 : t138 = true
      · subst c8
        have H1 : (spigotref02_Band.j0 k a0 a1 a2 (decide (a2 < 1))) = some (r1, r2, r3) := by rw [if_pos rfl] at H; exact H
        clear H
        have H := H1
        clear H1
        have H' := Aside0.mk H
        clear H
        go_wp2_with (first | ((with_reducible refine gate_callee (f := 59) rfl ?_); refine goesL_ (some 15) rfl rfl Try.func59 (by kernel_rfl) rfl #[.int .i64 a0, .int .i64 0, .int .i64 1099511627776] rfl (by (try simp only [List.map_toArray, List.map_cons, List.map_nil]); first | done | rfl | (simp only [List.length_drop, List.length_take]; rfl)) ?_; (with_reducible refine (spigotref02_In.calls a0 0 1099511627776 true _ A5.out).mono ?_); rintro e w' ⟨rfl, ⟨nd, rfl⟩⟩; refine ⟨_, rfl, ?_⟩) | (go_at_call 59; (with_reducible refine (spigotref02_In.calls a1 0 10000 true _ A7.out).mono ?_); rintro e w' ⟨rfl, ⟨nd, rfl⟩⟩))
        go_meet
        case rel => exact ⟨_, (decide (a2 < 1)), (by first | rfl | (simp; done) | (simp [*]; done)), H', ⟨by first | omega | exact Nat.le_refl _⟩, ⟨by repeat (first | (with_reducible first | exact HB.out | apply below_alloc | apply pw_below_drewN | apply below_drew1) | exact HB.out)⟩⟩
      · replace c8 := Bool.eq_false_iff.mpr c8
        subst c8
        have H1 : (spigotref02_Band.j0 k a0 a1 a2 true) = some (r1, r2, r3) := by rw [if_neg (show ¬ (false = true) by decide)] at H; exact H
        clear H
        have H := H1
        clear H1
        have H' := Aside0.mk H
        clear H
        go_wp2_with (first | ((with_reducible refine gate_callee (f := 59) rfl ?_); refine goesL_ (some 15) rfl rfl Try.func59 (by kernel_rfl) rfl #[.int .i64 a0, .int .i64 0, .int .i64 1099511627776] rfl (by (try simp only [List.map_toArray, List.map_cons, List.map_nil]); first | done | rfl | (simp only [List.length_drop, List.length_take]; rfl)) ?_; (with_reducible refine (spigotref02_In.calls a0 0 1099511627776 true _ A5.out).mono ?_); rintro e w' ⟨rfl, ⟨nd, rfl⟩⟩; refine ⟨_, rfl, ?_⟩) | (go_at_call 59; (with_reducible refine (spigotref02_In.calls a1 0 10000 false _ A7.out).mono ?_); rintro e w' ⟨rfl, ⟨nd, rfl⟩⟩))
        go_meet
        case rel => exact ⟨_, (true), (by first | rfl | (simp; done) | (simp [*]; done)), H', ⟨by first | omega | exact Nat.le_refl _⟩, ⟨by repeat (first | (with_reducible first | exact HB.out | apply below_alloc | apply pw_below_drewN | apply below_drew1) | exact HB.out)⟩⟩
    · replace c6 := Bool.eq_false_iff.mpr c6
      subst c6
      have H1 : (spigotref02_Band.j0 k a0 a1 a2 true) = some (r1, r2, r3) := by rw [if_neg (show ¬ (false = true) by decide)] at H; exact H
      clear H
      have H := H1
      clear H1
      have H' := Aside0.mk H
      clear H
      go_wp2_with (first | ((with_reducible refine gate_callee (f := 59) rfl ?_); refine goesL_ (some 15) rfl rfl Try.func59 (by kernel_rfl) rfl #[.int .i64 a0, .int .i64 0, .int .i64 1099511627776] rfl (by (try simp only [List.map_toArray, List.map_cons, List.map_nil]); first | done | rfl | (simp only [List.length_drop, List.length_take]; rfl)) ?_; (with_reducible refine (spigotref02_In.calls a0 0 1099511627776 false _ A5.out).mono ?_); rintro e w' ⟨rfl, ⟨nd, rfl⟩⟩; refine ⟨_, rfl, ?_⟩))
      go_meet
      case rel => exact ⟨_, (true), (by first | rfl | (simp; done) | (simp [*]; done)), H', ⟨by first | omega | exact Nat.le_refl _⟩, ⟨by repeat (first | (with_reducible first | exact HB.out | apply below_alloc | apply pw_below_drewN | apply below_drew1) | exact HB.out)⟩⟩
  case rest =>
    clear HC4
    try clear p2
    try clear c3
    try clear c5
    try clear c6
    try clear c8
    obtain ⟨kq, x25_3, rfl, HA, HJ3, HB⟩ := hcut
    cases kq with
    | zero => exact absurd HA.out (by simp [spigotref02_Band.j0])
    | succ kj3 =>
      have H := HA.out
      clear HA
      simp only [spigotref02_Band.j0] at H
      by_cases c9 : x25_3 = true
      · subst c9
        have H1 : (some (0, 0, 2)) = some (r1, r2, r3) := by rw [if_pos rfl] at H; exact H
        clear H
        have H := H1
        clear H1
        simp only [Option.some.injEq, Prod.mk.injEq] at H
        obtain ⟨rfl, rfl, rfl⟩ := H
        go_wp2
        go_ret3
        exact ⟨by first | rfl | (simp [errW_none, errW_some] <;> rfl) | (simp [*, errW_none, errW_some] <;> rfl), by repeat (first | (with_reducible first | exact HB.out | apply below_alloc | apply pw_below_drewN | apply below_drew1) | exact HB.out)⟩
      · replace c9 := Bool.eq_false_iff.mpr c9
        subst c9
        have H1 : ((spigotref02_Ceil.f kj3 (wrap64 (Int.tdiv (wrap64 ((wrap64 (a0 * (wrap64 (10000 - a1)))) + 9999)) 10000)) a2).bind fun bt139 => (if (wrap64 (Int.tdiv (wrap64 (a0 * (wrap64 (10000 + a1)))) 10000)) > 1099511627776 then ((spigotref02_Floor.f 1099511627776 a2).bind fun bt141 => (if bt139.2 = 0 then (if bt139.1 > bt141.1 then (some (0, 0, 22)) else (some (bt139.1, bt141.1, 0))) else (some (0, 0, 22)))) else ((spigotref02_Floor.f (wrap64 (Int.tdiv (wrap64 (a0 * (wrap64 (10000 + a1)))) 10000)) a2).bind fun bt143 => (if bt139.2 = 0 then (if bt139.1 > bt143.1 then (some (0, 0, 22)) else (some (bt139.1, bt143.1, 0))) else (some (0, 0, 22)))))) = some (r1, r2, r3) := by rw [if_neg (show ¬ (false = true) by decide)] at H; exact H
        clear H
        have H := H1
        clear H1
        replace H := Option.bind_eq_some_iff.mp H
        obtain ⟨⟨t139, t140⟩, A100, H⟩ := H
        replace H : (if (wrap64 (Int.tdiv (wrap64 (a0 * (wrap64 (10000 + a1)))) 10000)) > 1099511627776 then ((spigotref02_Floor.f 1099511627776 a2).bind fun bt141 => (if t140 = 0 then (if t139 > bt141.1 then (some (0, 0, 22)) else (some (t139, bt141.1, 0))) else (some (0, 0, 22)))) else ((spigotref02_Floor.f (wrap64 (Int.tdiv (wrap64 (a0 * (wrap64 (10000 + a1)))) 10000)) a2).bind fun bt143 => (if t140 = 0 then (if t139 > bt143.1 then (some (0, 0, 22)) else (some (t139, bt143.1, 0))) else (some (0, 0, 22))))) = some (r1, r2, r3) := H
        have A10 := Aside0.mk A100
        clear A100
        by_cases c11 : (wrap64 (Int.tdiv (wrap64 (a0 * (wrap64 (10000 + a1)))) 10000)) > 1099511627776
        · rw [if_pos c11] at H
          have c11b0 : decide (1099511627776 < (wrap64 (Int.tdiv (wrap64 (a0 * (wrap64 (10000 + a1)))) 10000))) = true := decide_eq_true c11
          clear c11
          replace H := Option.bind_eq_some_iff.mp H
          obtain ⟨⟨t141, t142⟩, A120, H⟩ := H
          replace H : (if t140 = 0 then (if t139 > t141 then (some (0, 0, 22)) else (some (t139, t141, 0))) else (some (0, 0, 22))) = some (r1, r2, r3) := H
          have A12 := Aside0.mk A120
          clear A120
          by_cases c13 : t140 = 0
          · rw [if_pos c13] at H
            have c13b0 : (t140 == 0) = true := beq_iff_eq.mpr c13
            have c13b1 : (t140 != 0) = false := bne_eq_false_iff_eq.mpr c13
            clear c13
            by_cases c14 : t139 > t141
            · rw [if_pos c14] at H
              have c14b0 : decide (t141 < t139) = true := decide_eq_true c14
              clear c14
              simp only [Option.some.injEq, Prod.mk.injEq] at H
              obtain ⟨rfl, rfl, rfl⟩ := H
              go_wp2_with (first | ((with_reducible refine gate_callee (f := 36) rfl ?_); refine goesL_ (some 34) rfl rfl Try.func36 (by kernel_rfl) rfl #[.int .i64 (wrap64 (Int.tdiv (wrap64 ((wrap64 (a0 * (wrap64 (10000 - a1)))) + 9999)) 10000)), .int .i64 a2] rfl (by (try simp only [List.map_toArray, List.map_cons, List.map_nil]); first | done | rfl | (simp only [List.length_drop, List.length_take]; rfl)) ?_; (with_reducible refine (spigotref02_Ceil.calls kj3 (wrap64 (Int.tdiv (wrap64 ((wrap64 (a0 * (wrap64 (10000 - a1)))) + 9999)) 10000)) a2 t139 t140 _ A10.out).mono ?_); rintro e w15 ⟨rfl, hb⟩; refine ⟨_, rfl, ?_⟩; have n0_ := Aside0.mk (below_step (by repeat (first | (with_reducible first | exact HB.out | apply below_alloc | apply pw_below_drewN | apply below_drew1) | exact HB.out)) hb); clear HB; have HB := n0_; clear n0_; (try clear hb); (try clear hb2); (try clear hk); (try clear hi)) | ((with_reducible refine gate_callee (f := 35) rfl ?_); refine goesL_ (some 47) rfl rfl Try.func35 (by kernel_rfl) rfl #[.int .i64 1099511627776, .int .i64 a2] rfl (by (try simp only [List.map_toArray, List.map_cons, List.map_nil]); first | done | rfl | (simp only [List.length_drop, List.length_take]; rfl)) ?_; (with_reducible refine (spigotref02_Floor.calls 1099511627776 a2 t141 t142 _ A12.out).mono ?_); rintro e w' ⟨rfl, ⟨nd, rfl⟩⟩; refine ⟨_, rfl, ?_⟩))
              go_ret3
              exact ⟨by first | rfl | (simp [errW_none, errW_some] <;> rfl) | (simp [*, errW_none, errW_some] <;> rfl), by repeat (first | (with_reducible first | exact HB.out | apply below_alloc | apply pw_below_drewN | apply below_drew1) | exact HB.out)⟩
            · rw [if_neg c14] at H
              have c14b0 : decide (t141 < t139) = false := decide_eq_false c14
              clear c14
              simp only [Option.some.injEq, Prod.mk.injEq] at H
              obtain ⟨rfl, rfl, rfl⟩ := H
              go_wp2_with (first | ((with_reducible refine gate_callee (f := 36) rfl ?_); refine goesL_ (some 34) rfl rfl Try.func36 (by kernel_rfl) rfl #[.int .i64 (wrap64 (Int.tdiv (wrap64 ((wrap64 (a0 * (wrap64 (10000 - a1)))) + 9999)) 10000)), .int .i64 a2] rfl (by (try simp only [List.map_toArray, List.map_cons, List.map_nil]); first | done | rfl | (simp only [List.length_drop, List.length_take]; rfl)) ?_; (with_reducible refine (spigotref02_Ceil.calls kj3 (wrap64 (Int.tdiv (wrap64 ((wrap64 (a0 * (wrap64 (10000 - a1)))) + 9999)) 10000)) a2 t139 t140 _ A10.out).mono ?_); rintro e w16 ⟨rfl, hb⟩; refine ⟨_, rfl, ?_⟩; have n0_ := Aside0.mk (below_step (by repeat (first | (with_reducible first | exact HB.out | apply below_alloc | apply pw_below_drewN | apply below_drew1) | exact HB.out)) hb); clear HB; have HB := n0_; clear n0_; (try clear hb); (try clear hb2); (try clear hk); (try clear hi)) | ((with_reducible refine gate_callee (f := 35) rfl ?_); refine goesL_ (some 47) rfl rfl Try.func35 (by kernel_rfl) rfl #[.int .i64 1099511627776, .int .i64 a2] rfl (by (try simp only [List.map_toArray, List.map_cons, List.map_nil]); first | done | rfl | (simp only [List.length_drop, List.length_take]; rfl)) ?_; (with_reducible refine (spigotref02_Floor.calls 1099511627776 a2 t141 t142 _ A12.out).mono ?_); rintro e w' ⟨rfl, ⟨nd, rfl⟩⟩; refine ⟨_, rfl, ?_⟩))
              go_ret3
              exact ⟨by first | rfl | (simp [errW_none, errW_some] <;> rfl) | (simp [*, errW_none, errW_some] <;> rfl), by repeat (first | (with_reducible first | exact HB.out | apply below_alloc | apply pw_below_drewN | apply below_drew1) | exact HB.out)⟩
          · rw [if_neg c13] at H
            have c13b0 : (t140 == 0) = false := beq_eq_false_iff_ne.mpr c13
            have c13b1 : (t140 != 0) = true := bne_iff_ne.mpr c13
            simp only [Option.some.injEq, Prod.mk.injEq] at H
            obtain ⟨rfl, rfl, rfl⟩ := H
            go_wp2_with (first | ((with_reducible refine gate_callee (f := 36) rfl ?_); refine goesL_ (some 34) rfl rfl Try.func36 (by kernel_rfl) rfl #[.int .i64 (wrap64 (Int.tdiv (wrap64 ((wrap64 (a0 * (wrap64 (10000 - a1)))) + 9999)) 10000)), .int .i64 a2] rfl (by (try simp only [List.map_toArray, List.map_cons, List.map_nil]); first | done | rfl | (simp only [List.length_drop, List.length_take]; rfl)) ?_; (with_reducible refine (spigotref02_Ceil.calls kj3 (wrap64 (Int.tdiv (wrap64 ((wrap64 (a0 * (wrap64 (10000 - a1)))) + 9999)) 10000)) a2 t139 t140 _ A10.out).mono ?_); rintro e w17 ⟨rfl, hb⟩; refine ⟨_, rfl, ?_⟩; have n0_ := Aside0.mk (below_step (by repeat (first | (with_reducible first | exact HB.out | apply below_alloc | apply pw_below_drewN | apply below_drew1) | exact HB.out)) hb); clear HB; have HB := n0_; clear n0_; (try clear hb); (try clear hb2); (try clear hk); (try clear hi)) | ((with_reducible refine gate_callee (f := 35) rfl ?_); refine goesL_ (some 47) rfl rfl Try.func35 (by kernel_rfl) rfl #[.int .i64 1099511627776, .int .i64 a2] rfl (by (try simp only [List.map_toArray, List.map_cons, List.map_nil]); first | done | rfl | (simp only [List.length_drop, List.length_take]; rfl)) ?_; (with_reducible refine (spigotref02_Floor.calls 1099511627776 a2 t141 t142 _ A12.out).mono ?_); rintro e w' ⟨rfl, ⟨nd, rfl⟩⟩; refine ⟨_, rfl, ?_⟩))
            go_ret3
            exact ⟨by first | rfl | (simp [errW_none, errW_some] <;> rfl) | (simp [*, errW_none, errW_some] <;> rfl), by repeat (first | (with_reducible first | exact HB.out | apply below_alloc | apply pw_below_drewN | apply below_drew1) | exact HB.out)⟩
        · rw [if_neg c11] at H
          have c11b0 : decide (1099511627776 < (wrap64 (Int.tdiv (wrap64 (a0 * (wrap64 (10000 + a1)))) 10000))) = false := decide_eq_false c11
          clear c11
          replace H := Option.bind_eq_some_iff.mp H
          obtain ⟨⟨t143, t144⟩, A180, H⟩ := H
          replace H : (if t140 = 0 then (if t139 > t143 then (some (0, 0, 22)) else (some (t139, t143, 0))) else (some (0, 0, 22))) = some (r1, r2, r3) := H
          have A18 := Aside0.mk A180
          clear A180
          by_cases c19 : t140 = 0
          · rw [if_pos c19] at H
            have c19b0 : (t140 == 0) = true := beq_iff_eq.mpr c19
            have c19b1 : (t140 != 0) = false := bne_eq_false_iff_eq.mpr c19
            clear c19
            by_cases c20 : t139 > t143
            · rw [if_pos c20] at H
              have c20b0 : decide (t143 < t139) = true := decide_eq_true c20
              clear c20
              simp only [Option.some.injEq, Prod.mk.injEq] at H
              obtain ⟨rfl, rfl, rfl⟩ := H
              go_wp2_with (first | ((with_reducible refine gate_callee (f := 36) rfl ?_); refine goesL_ (some 34) rfl rfl Try.func36 (by kernel_rfl) rfl #[.int .i64 (wrap64 (Int.tdiv (wrap64 ((wrap64 (a0 * (wrap64 (10000 - a1)))) + 9999)) 10000)), .int .i64 a2] rfl (by (try simp only [List.map_toArray, List.map_cons, List.map_nil]); first | done | rfl | (simp only [List.length_drop, List.length_take]; rfl)) ?_; (with_reducible refine (spigotref02_Ceil.calls kj3 (wrap64 (Int.tdiv (wrap64 ((wrap64 (a0 * (wrap64 (10000 - a1)))) + 9999)) 10000)) a2 t139 t140 _ A10.out).mono ?_); rintro e w21 ⟨rfl, hb⟩; refine ⟨_, rfl, ?_⟩; have n0_ := Aside0.mk (below_step (by repeat (first | (with_reducible first | exact HB.out | apply below_alloc | apply pw_below_drewN | apply below_drew1) | exact HB.out)) hb); clear HB; have HB := n0_; clear n0_; (try clear hb); (try clear hb2); (try clear hk); (try clear hi)) | ((with_reducible refine gate_callee (f := 35) rfl ?_); refine goesL_ (some 47) rfl rfl Try.func35 (by kernel_rfl) rfl #[.int .i64 (wrap64 (Int.tdiv (wrap64 (a0 * (wrap64 (10000 + a1)))) 10000)), .int .i64 a2] rfl (by (try simp only [List.map_toArray, List.map_cons, List.map_nil]); first | done | rfl | (simp only [List.length_drop, List.length_take]; rfl)) ?_; (with_reducible refine (spigotref02_Floor.calls (wrap64 (Int.tdiv (wrap64 (a0 * (wrap64 (10000 + a1)))) 10000)) a2 t143 t144 _ A18.out).mono ?_); rintro e w' ⟨rfl, ⟨nd, rfl⟩⟩; refine ⟨_, rfl, ?_⟩))
              go_ret3
              exact ⟨by first | rfl | (simp [errW_none, errW_some] <;> rfl) | (simp [*, errW_none, errW_some] <;> rfl), by repeat (first | (with_reducible first | exact HB.out | apply below_alloc | apply pw_below_drewN | apply below_drew1) | exact HB.out)⟩
            · rw [if_neg c20] at H
              have c20b0 : decide (t143 < t139) = false := decide_eq_false c20
              clear c20
              simp only [Option.some.injEq, Prod.mk.injEq] at H
              obtain ⟨rfl, rfl, rfl⟩ := H
              go_wp2_with (first | ((with_reducible refine gate_callee (f := 36) rfl ?_); refine goesL_ (some 34) rfl rfl Try.func36 (by kernel_rfl) rfl #[.int .i64 (wrap64 (Int.tdiv (wrap64 ((wrap64 (a0 * (wrap64 (10000 - a1)))) + 9999)) 10000)), .int .i64 a2] rfl (by (try simp only [List.map_toArray, List.map_cons, List.map_nil]); first | done | rfl | (simp only [List.length_drop, List.length_take]; rfl)) ?_; (with_reducible refine (spigotref02_Ceil.calls kj3 (wrap64 (Int.tdiv (wrap64 ((wrap64 (a0 * (wrap64 (10000 - a1)))) + 9999)) 10000)) a2 t139 t140 _ A10.out).mono ?_); rintro e w22 ⟨rfl, hb⟩; refine ⟨_, rfl, ?_⟩; have n0_ := Aside0.mk (below_step (by repeat (first | (with_reducible first | exact HB.out | apply below_alloc | apply pw_below_drewN | apply below_drew1) | exact HB.out)) hb); clear HB; have HB := n0_; clear n0_; (try clear hb); (try clear hb2); (try clear hk); (try clear hi)) | ((with_reducible refine gate_callee (f := 35) rfl ?_); refine goesL_ (some 47) rfl rfl Try.func35 (by kernel_rfl) rfl #[.int .i64 (wrap64 (Int.tdiv (wrap64 (a0 * (wrap64 (10000 + a1)))) 10000)), .int .i64 a2] rfl (by (try simp only [List.map_toArray, List.map_cons, List.map_nil]); first | done | rfl | (simp only [List.length_drop, List.length_take]; rfl)) ?_; (with_reducible refine (spigotref02_Floor.calls (wrap64 (Int.tdiv (wrap64 (a0 * (wrap64 (10000 + a1)))) 10000)) a2 t143 t144 _ A18.out).mono ?_); rintro e w' ⟨rfl, ⟨nd, rfl⟩⟩; refine ⟨_, rfl, ?_⟩))
              go_ret3
              exact ⟨by first | rfl | (simp [errW_none, errW_some] <;> rfl) | (simp [*, errW_none, errW_some] <;> rfl), by repeat (first | (with_reducible first | exact HB.out | apply below_alloc | apply pw_below_drewN | apply below_drew1) | exact HB.out)⟩
          · rw [if_neg c19] at H
            have c19b0 : (t140 == 0) = false := beq_eq_false_iff_ne.mpr c19
            have c19b1 : (t140 != 0) = true := bne_iff_ne.mpr c19
            simp only [Option.some.injEq, Prod.mk.injEq] at H
            obtain ⟨rfl, rfl, rfl⟩ := H
            go_wp2_with (first | ((with_reducible refine gate_callee (f := 36) rfl ?_); refine goesL_ (some 34) rfl rfl Try.func36 (by kernel_rfl) rfl #[.int .i64 (wrap64 (Int.tdiv (wrap64 ((wrap64 (a0 * (wrap64 (10000 - a1)))) + 9999)) 10000)), .int .i64 a2] rfl (by (try simp only [List.map_toArray, List.map_cons, List.map_nil]); first | done | rfl | (simp only [List.length_drop, List.length_take]; rfl)) ?_; (with_reducible refine (spigotref02_Ceil.calls kj3 (wrap64 (Int.tdiv (wrap64 ((wrap64 (a0 * (wrap64 (10000 - a1)))) + 9999)) 10000)) a2 t139 t140 _ A10.out).mono ?_); rintro e w23 ⟨rfl, hb⟩; refine ⟨_, rfl, ?_⟩; have n0_ := Aside0.mk (below_step (by repeat (first | (with_reducible first | exact HB.out | apply below_alloc | apply pw_below_drewN | apply below_drew1) | exact HB.out)) hb); clear HB; have HB := n0_; clear n0_; (try clear hb); (try clear hb2); (try clear hk); (try clear hi)) | ((with_reducible refine gate_callee (f := 35) rfl ?_); refine goesL_ (some 47) rfl rfl Try.func35 (by kernel_rfl) rfl #[.int .i64 (wrap64 (Int.tdiv (wrap64 (a0 * (wrap64 (10000 + a1)))) 10000)), .int .i64 a2] rfl (by (try simp only [List.map_toArray, List.map_cons, List.map_nil]); first | done | rfl | (simp only [List.length_drop, List.length_take]; rfl)) ?_; (with_reducible refine (spigotref02_Floor.calls (wrap64 (Int.tdiv (wrap64 (a0 * (wrap64 (10000 + a1)))) 10000)) a2 t143 t144 _ A18.out).mono ?_); rintro e w' ⟨rfl, ⟨nd, rfl⟩⟩; refine ⟨_, rfl, ?_⟩))
            go_ret3
            exact ⟨by first | rfl | (simp [errW_none, errW_some] <;> rfl) | (simp [*, errW_none, errW_some] <;> rfl), by repeat (first | (with_reducible first | exact HB.out | apply below_alloc | apply pw_below_drewN | apply below_drew1) | exact HB.out)⟩

end Go.Proofs.Ythnmpnilcdnimaa.G
