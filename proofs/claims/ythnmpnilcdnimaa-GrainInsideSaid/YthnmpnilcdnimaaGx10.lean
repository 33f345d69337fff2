-- written by mp.py (my program over the kit's print)
import Derived.Test.YthnmpnilcdnimaaGx0
import Derived.Test.YthnmpnilcdnimaaGx3
import Derived.Test.YthnmpnilcdnimaaGx4
import Derived.Test.YthnmpnilcdnimaaGx7
namespace Go.Proofs.Ythnmpnilcdnimaa.G
open Go.RowKit Go.Proofs.Ythnmpnilcdnimaa.Hand Go.Proofs.YthnmpnilcdnimaaW.PrintWords Go.Proofs.YthnmpnilcdnimaaW.PrintLast Go.Proofs.YthnmpnilcdnimaaW.PrintMore
attribute [local go_sem] max2_int min2_int max_two min_two max_three min_three max_four min_four   -- for this text's walks alone
set_option linter.unusedVariables false
set_option linter.unusedSimpArgs false

/-! ### spigotlaw02_GrainInside: function 11 -/
def spigotlaw02_GrainInside.j0 : Nat → Int → Int → Int → Int → Int → Bool → Option (Bool)
  | 0, _, _, _, _, _, _ => none
  | k + 1, x0, x1, x2, x7, x8, x73 => if x73 = true then (some false) else (if x1 = 10000 then (some true) else ((grain_Band.f k x0 (wrap64 (x1 + 1)) x2).bind fun bt178 => (if bt178.2.2 = 0 then (if bt178.1 ≤ x7 then (some (decide (bt178.2.1 ≥ x8))) else (some false)) else (some false))))
def spigotlaw02_GrainInside.f (k : Nat) (a0 : Int) (a1 : Int) (a2 : Int) : Option (Bool) := (spigotlaw02_awake.f k).bind fun t172 => (if t172 = true then ((grain_Band.f k a0 a1 a2).bind fun bt173 => (if bt173.2.2 = 0 then ((grain_On.f bt173.1 a2).bind fun t176 => (if t176 = true then ((grain_On.f bt173.2.1 a2).bind fun t177 => (if t177 = true then (if bt173.1 > bt173.2.1 then (spigotlaw02_GrainInside.j0 k a0 a1 a2 bt173.1 bt173.2.1 true) else (if bt173.1 < 0 then (spigotlaw02_GrainInside.j0 k a0 a1 a2 bt173.1 bt173.2.1 true) else (if bt173.2.1 > 1099511627776 then (spigotlaw02_GrainInside.j0 k a0 a1 a2 bt173.1 bt173.2.1 true) else (if (wrap64 ((wrap64 (a0 - bt173.1)) * 10000)) > (wrap64 (a0 * a1)) then (spigotlaw02_GrainInside.j0 k a0 a1 a2 bt173.1 bt173.2.1 true) else (spigotlaw02_GrainInside.j0 k a0 a1 a2 bt173.1 bt173.2.1 (decide ((wrap64 ((wrap64 (bt173.2.1 - a0)) * 10000)) > (wrap64 (a0 * a1))))))))) else (spigotlaw02_GrainInside.j0 k a0 a1 a2 bt173.1 bt173.2.1 true))) else (spigotlaw02_GrainInside.j0 k a0 a1 a2 bt173.1 bt173.2.1 true))) else (if bt173.1 = 0 then (some (bt173.2.1 == 0)) else (some false)))) else (some false))
theorem spigotlaw02_GrainInside.mono_l : ∀ k, (∀ y0 y1 y2 y3 y4 y5, LeO (spigotlaw02_GrainInside.j0 k y0 y1 y2 y3 y4 y5) (spigotlaw02_GrainInside.j0 (k + 1) y0 y1 y2 y3 y4 y5))
  | 0 => fun _ _ _ _ _ _ r h => by simp [spigotlaw02_GrainInside.j0] at h
  | k + 1 => by
    have ih0 := spigotlaw02_GrainInside.mono_l k
    · intro y0 y1 y2 y3 y4 y5
      unfold spigotlaw02_GrainInside.j0
      repeat' first
      | (with_reducible exact ih0 _ _ _ _ _ _)
      | (with_reducible exact grain_Band.mono _ _ _ _)
      | (with_reducible exact spigotlaw02_awake.mono _)
      | (with_reducible exact LeO.refl _)
      | (with_reducible exact LeO.none _)
      | (with_reducible refine LeO.ite ?_ ?_)
      | (with_reducible refine LeO.bind ?_ (fun _ => ?_))
      | exact ih0 _ _ _ _ _ _
      | exact grain_Band.mono _ _ _ _
      | exact spigotlaw02_awake.mono _
      | exact LeO.none _
      | refine LeO.ite ?_ ?_
      | refine LeO.bind ?_ (fun _ => ?_)
theorem spigotlaw02_GrainInside.mono : ∀ a0 a1 a2 k, LeO (spigotlaw02_GrainInside.f k a0 a1 a2) (spigotlaw02_GrainInside.f (k + 1) a0 a1 a2) := by
  intro a0 a1 a2 k
  have ih0 := spigotlaw02_GrainInside.mono_l k
  unfold spigotlaw02_GrainInside.f
  repeat' first
      | (with_reducible exact ih0 _ _ _ _ _ _)
      | (with_reducible exact grain_Band.mono _ _ _ _)
      | (with_reducible exact spigotlaw02_awake.mono _)
      | (with_reducible exact LeO.refl _)
      | (with_reducible exact LeO.none _)
      | (with_reducible refine LeO.ite ?_ ?_)
      | (with_reducible refine LeO.bind ?_ (fun _ => ?_))
      | exact ih0 _ _ _ _ _ _
      | exact grain_Band.mono _ _ _ _
      | exact spigotlaw02_awake.mono _
      | exact LeO.none _
      | refine LeO.ite ?_ ?_
      | refine LeO.bind ?_ (fun _ => ?_)
set_option maxHeartbeats 8000000 in
set_option maxRecDepth 100000 in
theorem spigotlaw02_GrainInside.calls (k : Nat) (a0 : Int) (a1 : Int) (a2 : Int) (r : Bool) (w : World) (h : spigotlaw02_GrainInside.f k a0 a1 a2 = some r) :
    Calls Try.prog 11 #[.int .i64 a0, .int .i64 a1, .int .i64 a2] w fun e w' => e = .returned (.bool r) ∧ Below w.heap.size w w' := by
  have HB := Aside0.mk (Below.refl w.heap.size w)
  have H : ((spigotlaw02_awake.f k).bind fun t172 => (if t172 = true then ((grain_Band.f k a0 a1 a2).bind fun bt173 => (if bt173.2.2 = 0 then ((grain_On.f bt173.1 a2).bind fun t176 => (if t176 = true then ((grain_On.f bt173.2.1 a2).bind fun t177 => (if t177 = true then (if bt173.1 > bt173.2.1 then (spigotlaw02_GrainInside.j0 k a0 a1 a2 bt173.1 bt173.2.1 true) else (if bt173.1 < 0 then (spigotlaw02_GrainInside.j0 k a0 a1 a2 bt173.1 bt173.2.1 true) else (if bt173.2.1 > 1099511627776 then (spigotlaw02_GrainInside.j0 k a0 a1 a2 bt173.1 bt173.2.1 true) else (if (wrap64 ((wrap64 (a0 - bt173.1)) * 10000)) > (wrap64 (a0 * a1)) then (spigotlaw02_GrainInside.j0 k a0 a1 a2 bt173.1 bt173.2.1 true) else (spigotlaw02_GrainInside.j0 k a0 a1 a2 bt173.1 bt173.2.1 (decide ((wrap64 ((wrap64 (bt173.2.1 - a0)) * 10000)) > (wrap64 (a0 * a1))))))))) else (spigotlaw02_GrainInside.j0 k a0 a1 a2 bt173.1 bt173.2.1 true))) else (spigotlaw02_GrainInside.j0 k a0 a1 a2 bt173.1 bt173.2.1 true))) else (if bt173.1 = 0 then (some (bt173.2.1 == 0)) else (some false)))) else (some false))) = some r := h
  clear h
  replace H := Option.bind_eq_some_iff.mp H
  obtain ⟨t172, A40, H⟩ := H
  replace H : (if t172 = true then ((grain_Band.f k a0 a1 a2).bind fun bt173 => (if bt173.2.2 = 0 then ((grain_On.f bt173.1 a2).bind fun t176 => (if t176 = true then ((grain_On.f bt173.2.1 a2).bind fun t177 => (if t177 = true then (if bt173.1 > bt173.2.1 then (spigotlaw02_GrainInside.j0 k a0 a1 a2 bt173.1 bt173.2.1 true) else (if bt173.1 < 0 then (spigotlaw02_GrainInside.j0 k a0 a1 a2 bt173.1 bt173.2.1 true) else (if bt173.2.1 > 1099511627776 then (spigotlaw02_GrainInside.j0 k a0 a1 a2 bt173.1 bt173.2.1 true) else (if (wrap64 ((wrap64 (a0 - bt173.1)) * 10000)) > (wrap64 (a0 * a1)) then (spigotlaw02_GrainInside.j0 k a0 a1 a2 bt173.1 bt173.2.1 true) else (spigotlaw02_GrainInside.j0 k a0 a1 a2 bt173.1 bt173.2.1 (decide ((wrap64 ((wrap64 (bt173.2.1 - a0)) * 10000)) > (wrap64 (a0 * a1))))))))) else (spigotlaw02_GrainInside.j0 k a0 a1 a2 bt173.1 bt173.2.1 true))) else (spigotlaw02_GrainInside.j0 k a0 a1 a2 bt173.1 bt173.2.1 true))) else (if bt173.1 = 0 then (some (bt173.2.1 == 0)) else (some false)))) else (some false)) = some r := H
  have A4 := Aside0.mk A40
  clear A40
  by_cases c5 : t172 = true
  · subst c5
    have H1 : ((grain_Band.f k a0 a1 a2).bind fun bt173 => (if bt173.2.2 = 0 then ((grain_On.f bt173.1 a2).bind fun t176 => (if t176 = true then ((grain_On.f bt173.2.1 a2).bind fun t177 => (if t177 = true then (if bt173.1 > bt173.2.1 then (spigotlaw02_GrainInside.j0 k a0 a1 a2 bt173.1 bt173.2.1 true) else (if bt173.1 < 0 then (spigotlaw02_GrainInside.j0 k a0 a1 a2 bt173.1 bt173.2.1 true) else (if bt173.2.1 > 1099511627776 then (spigotlaw02_GrainInside.j0 k a0 a1 a2 bt173.1 bt173.2.1 true) else (if (wrap64 ((wrap64 (a0 - bt173.1)) * 10000)) > (wrap64 (a0 * a1)) then (spigotlaw02_GrainInside.j0 k a0 a1 a2 bt173.1 bt173.2.1 true) else (spigotlaw02_GrainInside.j0 k a0 a1 a2 bt173.1 bt173.2.1 (decide ((wrap64 ((wrap64 (bt173.2.1 - a0)) * 10000)) > (wrap64 (a0 * a1))))))))) else (spigotlaw02_GrainInside.j0 k a0 a1 a2 bt173.1 bt173.2.1 true))) else (spigotlaw02_GrainInside.j0 k a0 a1 a2 bt173.1 bt173.2.1 true))) else (if bt173.1 = 0 then (some (bt173.2.1 == 0)) else (some false)))) = some r := by rw [if_pos rfl] at H; exact H
    clear H
    have H := H1
    clear H1
    replace H := Option.bind_eq_some_iff.mp H
    obtain ⟨⟨t173, t174, t175⟩, A60, H⟩ := H
    replace H : (if t175 = 0 then ((grain_On.f t173 a2).bind fun t176 => (if t176 = true then ((grain_On.f t174 a2).bind fun t177 => (if t177 = true then (if t173 > t174 then (spigotlaw02_GrainInside.j0 k a0 a1 a2 t173 t174 true) else (if t173 < 0 then (spigotlaw02_GrainInside.j0 k a0 a1 a2 t173 t174 true) else (if t174 > 1099511627776 then (spigotlaw02_GrainInside.j0 k a0 a1 a2 t173 t174 true) else (if (wrap64 ((wrap64 (a0 - t173)) * 10000)) > (wrap64 (a0 * a1)) then (spigotlaw02_GrainInside.j0 k a0 a1 a2 t173 t174 true) else (spigotlaw02_GrainInside.j0 k a0 a1 a2 t173 t174 (decide ((wrap64 ((wrap64 (t174 - a0)) * 10000)) > (wrap64 (a0 * a1))))))))) else (spigotlaw02_GrainInside.j0 k a0 a1 a2 t173 t174 true))) else (spigotlaw02_GrainInside.j0 k a0 a1 a2 t173 t174 true))) else (if t173 = 0 then (some (t174 == 0)) else (some false))) = some r := H
    have A6 := Aside0.mk A60
    clear A60
    by_cases c7 : t175 = 0
    · rw [if_pos c7] at H
      have c7b0 : (t175 == 0) = true := beq_iff_eq.mpr c7
      have c7b1 : (t175 != 0) = false := bne_eq_false_iff_eq.mpr c7
      clear c7
      have HC8 := Aside0.mk H
      clear H
      go_enter Try.func11, Try.ntmps11
      go_upto_region 6 with (first | ((with_reducible refine gate_callee (f := 30) rfl ?_); refine goesL_ (some 13) rfl rfl Try.func30 (by kernel_rfl) rfl #[] rfl (by (try simp only [List.map_toArray, List.map_cons, List.map_nil]); first | done | rfl | (simp only [List.length_drop, List.length_take]; rfl)) ?_; (with_reducible refine (spigotlaw02_awake.calls k  true _ A4.out).mono ?_); rintro e w9 ⟨rfl, hb⟩; refine ⟨_, rfl, ?_⟩; have n0_ := Aside0.mk (below_step (by repeat (first | (with_reducible first | exact HB.out | apply below_alloc | apply pw_below_drewN | apply below_drew1) | exact HB.out)) hb); clear HB; have HB := n0_; clear n0_; (try clear hb); (try clear hb2); (try clear hk); (try clear hi)) | ((with_reducible refine gate_callee (f := 31) rfl ?_); refine goesL_ (some 19) rfl rfl Try.func31 (by kernel_rfl) rfl #[.int .i64 a0, .int .i64 a1, .int .i64 a2] rfl (by (try simp only [List.map_toArray, List.map_cons, List.map_nil]); first | done | rfl | (simp only [List.length_drop, List.length_take]; rfl)) ?_; (with_reducible refine (grain_Band.calls k a0 a1 a2 t173 t174 t175 _ A6.out).mono ?_); rintro e w10 ⟨rfl, hb⟩; refine ⟨_, rfl, ?_⟩; have n0_ := Aside0.mk (below_step (by repeat (first | (with_reducible first | exact HB.out | apply below_alloc | apply pw_below_drewN | apply below_drew1) | exact HB.out)) hb); clear HB; have HB := n0_; clear n0_; (try clear hb); (try clear hb2); (try clear hk); (try clear hi)))
      (try simp only [Act.put, List.setIfInBounds_toArray, List.set_cons_zero, List.set_cons_succ])
      go_cut [73] (fun v73 wc => ∃ (kq : Nat) (x73_7 : Bool), v73 = .bool x73_7 ∧ Aside0 (spigotlaw02_GrainInside.j0 kq a0 a1 a2 t173 t174 x73_7 = some r) ∧ Aside0 (kq ≤ k) ∧ Aside0 (Below w.heap.size w wc))
      case first =>
        have H := HC8.out
        clear HC8
        replace H := Option.bind_eq_some_iff.mp H
        obtain ⟨t176, A110, H⟩ := H
        replace H : (if t176 = true then ((grain_On.f t174 a2).bind fun t177 => (if t177 = true then (if t173 > t174 then (spigotlaw02_GrainInside.j0 k a0 a1 a2 t173 t174 true) else (if t173 < 0 then (spigotlaw02_GrainInside.j0 k a0 a1 a2 t173 t174 true) else (if t174 > 1099511627776 then (spigotlaw02_GrainInside.j0 k a0 a1 a2 t173 t174 true) else (if (wrap64 ((wrap64 (a0 - t173)) * 10000)) > (wrap64 (a0 * a1)) then (spigotlaw02_GrainInside.j0 k a0 a1 a2 t173 t174 true) else (spigotlaw02_GrainInside.j0 k a0 a1 a2 t173 t174 (decide ((wrap64 ((wrap64 (t174 - a0)) * 10000)) > (wrap64 (a0 * a1))))))))) else (spigotlaw02_GrainInside.j0 k a0 a1 a2 t173 t174 true))) else (spigotlaw02_GrainInside.j0 k a0 a1 a2 t173 t174 true)) = some r := H
        have A11 := Aside0.mk A110
        clear A110
        by_cases c12 : t176 = true
        · subst c12
          have H1 : ((grain_On.f t174 a2).bind fun t177 => (if t177 = true then (if t173 > t174 then (spigotlaw02_GrainInside.j0 k a0 a1 a2 t173 t174 true) else (if t173 < 0 then (spigotlaw02_GrainInside.j0 k a0 a1 a2 t173 t174 true) else (if t174 > 1099511627776 then (spigotlaw02_GrainInside.j0 k a0 a1 a2 t173 t174 true) else (if (wrap64 ((wrap64 (a0 - t173)) * 10000)) > (wrap64 (a0 * a1)) then (spigotlaw02_GrainInside.j0 k a0 a1 a2 t173 t174 true) else (spigotlaw02_GrainInside.j0 k a0 a1 a2 t173 t174 (decide ((wrap64 ((wrap64 (t174 - a0)) * 10000)) > (wrap64 (a0 * a1))))))))) else (spigotlaw02_GrainInside.j0 k a0 a1 a2 t173 t174 true))) = some r := by rw [if_pos rfl] at H; exact H
          clear H
          have H := H1
          clear H1
          replace H := Option.bind_eq_some_iff.mp H
          obtain ⟨t177, A130, H⟩ := H
          replace H : (if t177 = true then (if t173 > t174 then (spigotlaw02_GrainInside.j0 k a0 a1 a2 t173 t174 true) else (if t173 < 0 then (spigotlaw02_GrainInside.j0 k a0 a1 a2 t173 t174 true) else (if t174 > 1099511627776 then (spigotlaw02_GrainInside.j0 k a0 a1 a2 t173 t174 true) else (if (wrap64 ((wrap64 (a0 - t173)) * 10000)) > (wrap64 (a0 * a1)) then (spigotlaw02_GrainInside.j0 k a0 a1 a2 t173 t174 true) else (spigotlaw02_GrainInside.j0 k a0 a1 a2 t173 t174 (decide ((wrap64 ((wrap64 (t174 - a0)) * 10000)) > (wrap64 (a0 * a1))))))))) else (spigotlaw02_GrainInside.j0 k a0 a1 a2 t173 t174 true)) = some r := H
          have A13 := Aside0.mk A130
          clear A130
          by_cases c14 : t177 = true
          · subst c14
            have H1 : (if t173 > t174 then (spigotlaw02_GrainInside.j0 k a0 a1 a2 t173 t174 true) else (if t173 < 0 then (spigotlaw02_GrainInside.j0 k a0 a1 a2 t173 t174 true) else (if t174 > 1099511627776 then (spigotlaw02_GrainInside.j0 k a0 a1 a2 t173 t174 true) else (if (wrap64 ((wrap64 (a0 - t173)) * 10000)) > (wrap64 (a0 * a1)) then (spigotlaw02_GrainInside.j0 k a0 a1 a2 t173 t174 true) else (spigotlaw02_GrainInside.j0 k a0 a1 a2 t173 t174 (decide ((wrap64 ((wrap64 (t174 - a0)) * 10000)) > (wrap64 (a0 * a1))))))))) = some r := by rw [if_pos rfl] at H; exact H
            clear H
            have H := H1
            clear H1
            by_cases c15 : t173 > t174
            · rw [if_pos c15] at H
              have c15b0 : decide (t174 < t173) = true := decide_eq_true c15
              clear c15
              (first | rw [c15b0] | (simp only [i64_w, i32_w]; rw [c15b0]) | skip)
              have H' := Aside0.mk H
              clear H
              go_wp2_with (first | ((with_reducible refine gate_callee (f := 38) rfl ?_); refine goesL_ (some 33) rfl rfl Try.func38 (by kernel_rfl) rfl #[.int .i64 t173, .int .i64 a2] rfl (by (try simp only [List.map_toArray, List.map_cons, List.map_nil]); first | done | rfl | (simp only [List.length_drop, List.length_take]; rfl)) ?_; (with_reducible refine (grain_On.calls t173 a2 true _ A11.out).mono ?_); rintro e w' ⟨rfl, ⟨nd, rfl⟩⟩; refine ⟨_, rfl, ?_⟩) | (go_at_call 38; (with_reducible refine (grain_On.calls t174 a2 true _ A13.out).mono ?_); rintro e w' ⟨rfl, ⟨nd, rfl⟩⟩))
              go_meet
              case rel => exact ⟨_, (true), (by first | rfl | (simp; done) | (simp [*]; done)), H', ⟨by first | omega | exact Nat.le_refl _⟩, ⟨by repeat (first | (with_reducible first | exact HB.out | apply below_alloc | apply pw_below_drewN | apply below_drew1) | exact HB.out)⟩⟩
            · rw [if_neg c15] at H
              have c15b0 : decide (t174 < t173) = false := decide_eq_false c15
              clear c15
              (first | rw [c15b0] | (simp only [i64_w, i32_w]; rw [c15b0]) | skip)
              by_cases c16 : t173 < 0
              · rw [if_pos c16] at H
                have c16b0 : decide (t173 < 0) = true := decide_eq_true c16
                clear c16
                have H' := Aside0.mk H
                clear H
                go_wp2_with (first | ((with_reducible refine gate_callee (f := 38) rfl ?_); refine goesL_ (some 33) rfl rfl Try.func38 (by kernel_rfl) rfl #[.int .i64 t173, .int .i64 a2] rfl (by (try simp only [List.map_toArray, List.map_cons, List.map_nil]); first | done | rfl | (simp only [List.length_drop, List.length_take]; rfl)) ?_; (with_reducible refine (grain_On.calls t173 a2 true _ A11.out).mono ?_); rintro e w' ⟨rfl, ⟨nd, rfl⟩⟩; refine ⟨_, rfl, ?_⟩) | (go_at_call 38; (with_reducible refine (grain_On.calls t174 a2 true _ A13.out).mono ?_); rintro e w' ⟨rfl, ⟨nd, rfl⟩⟩))
                go_meet
                case rel => exact ⟨_, (true), (by first | rfl | (simp; done) | (simp [*]; done)), H', ⟨by first | omega | exact Nat.le_refl _⟩, ⟨by repeat (first | (with_reducible first | exact HB.out | apply below_alloc | apply pw_below_drewN | apply below_drew1) | exact HB.out)⟩⟩
              · rw [if_neg c16] at H
                have c16b0 : decide (t173 < 0) = false := decide_eq_false c16
                clear c16
                by_cases c17 : t174 > 1099511627776
                · rw [if_pos c17] at H
                  have c17b0 : decide (1099511627776 < t174) = true := decide_eq_true c17
                  clear c17
                  have H' := Aside0.mk H
                  clear H
                  go_wp2_with (first | ((with_reducible refine gate_callee (f := 38) rfl ?_); refine goesL_ (some 33) rfl rfl Try.func38 (by kernel_rfl) rfl #[.int .i64 t173, .int .i64 a2] rfl (by (try simp only [List.map_toArray, List.map_cons, List.map_nil]); first | done | rfl | (simp only [List.length_drop, List.length_take]; rfl)) ?_; (with_reducible refine (grain_On.calls t173 a2 true _ A11.out).mono ?_); rintro e w' ⟨rfl, ⟨nd, rfl⟩⟩; refine ⟨_, rfl, ?_⟩) | (go_at_call 38; (with_reducible refine (grain_On.calls t174 a2 true _ A13.out).mono ?_); rintro e w' ⟨rfl, ⟨nd, rfl⟩⟩))
                  go_meet
                  case rel => exact ⟨_, (true), (by first | rfl | (simp; done) | (simp [*]; done)), H', ⟨by first | omega | exact Nat.le_refl _⟩, ⟨by repeat (first | (with_reducible first | exact HB.out | apply below_alloc | apply pw_below_drewN | apply below_drew1) | exact HB.out)⟩⟩
                · rw [if_neg c17] at H
                  have c17b0 : decide (1099511627776 < t174) = false := decide_eq_false c17
                  clear c17
                  by_cases c18 : (wrap64 ((wrap64 (a0 - t173)) * 10000)) > (wrap64 (a0 * a1))
                  · rw [if_pos c18] at H
                    have c18b0 : decide ((wrap64 (a0 * a1)) < (wrap64 ((wrap64 (a0 - t173)) * 10000))) = true := decide_eq_true c18
                    clear c18
                    have H' := Aside0.mk H
                    clear H
                    go_wp2_with (first | ((with_reducible refine gate_callee (f := 38) rfl ?_); refine goesL_ (some 33) rfl rfl Try.func38 (by kernel_rfl) rfl #[.int .i64 t173, .int .i64 a2] rfl (by (try simp only [List.map_toArray, List.map_cons, List.map_nil]); first | done | rfl | (simp only [List.length_drop, List.length_take]; rfl)) ?_; (with_reducible refine (grain_On.calls t173 a2 true _ A11.out).mono ?_); rintro e w' ⟨rfl, ⟨nd, rfl⟩⟩; refine ⟨_, rfl, ?_⟩) | (go_at_call 38; (with_reducible refine (grain_On.calls t174 a2 true _ A13.out).mono ?_); rintro e w' ⟨rfl, ⟨nd, rfl⟩⟩))
                    go_meet
                    case rel => exact ⟨_, (true), (by first | rfl | (simp; done) | (simp [*]; done)), H', ⟨by first | omega | exact Nat.le_refl _⟩, ⟨by repeat (first | (with_reducible first | exact HB.out | apply below_alloc | apply pw_below_drewN | apply below_drew1) | exact HB.out)⟩⟩
                  · rw [if_neg c18] at H
                    have c18b0 : decide ((wrap64 (a0 * a1)) < (wrap64 ((wrap64 (a0 - t173)) * 10000))) = false := decide_eq_false c18
                    clear c18
                    have H' := Aside0.mk H
                    clear H
                    go_wp2_with (first | ((with_reducible refine gate_callee (f := 38) rfl ?_); refine goesL_ (some 33) rfl rfl Try.func38 (by kernel_rfl) rfl #[.int .i64 t173, .int .i64 a2] rfl (by (try simp only [List.map_toArray, List.map_cons, List.map_nil]); first | done | rfl | (simp only [List.length_drop, List.length_take]; rfl)) ?_; (with_reducible refine (grain_On.calls t173 a2 true _ A11.out).mono ?_); rintro e w' ⟨rfl, ⟨nd, rfl⟩⟩; refine ⟨_, rfl, ?_⟩) | (go_at_call 38; (with_reducible refine (grain_On.calls t174 a2 true _ A13.out).mono ?_); rintro e w' ⟨rfl, ⟨nd, rfl⟩⟩))
                    go_meet
                    case rel => exact ⟨_, (decide ((wrap64 ((wrap64 (t174 - a0)) * 10000)) > (wrap64 (a0 * a1)))), (by first | rfl | (simp; done) | (simp [*]; done)), H', ⟨by first | omega | exact Nat.le_refl _⟩, ⟨by repeat (first | (with_reducible first | exact HB.out | apply below_alloc | apply pw_below_drewN | apply below_drew1) | exact HB.out)⟩⟩
          · replace c14 := Bool.eq_false_iff.mpr c14
            subst c14
            have H1 : (spigotlaw02_GrainInside.j0 k a0 a1 a2 t173 t174 true) = some r := by rw [if_neg (show ¬ (false = true) by decide)] at H; exact H
            clear H
            have H := H1
            clear H1
            have H' := Aside0.mk H
            clear H
            go_wp2_with (first | ((with_reducible refine gate_callee (f := 38) rfl ?_); refine goesL_ (some 33) rfl rfl Try.func38 (by kernel_rfl) rfl #[.int .i64 t173, .int .i64 a2] rfl (by (try simp only [List.map_toArray, List.map_cons, List.map_nil]); first | done | rfl | (simp only [List.length_drop, List.length_take]; rfl)) ?_; (with_reducible refine (grain_On.calls t173 a2 true _ A11.out).mono ?_); rintro e w' ⟨rfl, ⟨nd, rfl⟩⟩; refine ⟨_, rfl, ?_⟩) | (go_at_call 38; (with_reducible refine (grain_On.calls t174 a2 false _ A13.out).mono ?_); rintro e w' ⟨rfl, ⟨nd, rfl⟩⟩))
            go_meet
            case rel => exact ⟨_, (true), (by first | rfl | (simp; done) | (simp [*]; done)), H', ⟨by first | omega | exact Nat.le_refl _⟩, ⟨by repeat (first | (with_reducible first | exact HB.out | apply below_alloc | apply pw_below_drewN | apply below_drew1) | exact HB.out)⟩⟩
        · replace c12 := Bool.eq_false_iff.mpr c12
          subst c12
          have H1 : (spigotlaw02_GrainInside.j0 k a0 a1 a2 t173 t174 true) = some r := by rw [if_neg (show ¬ (false = true) by decide)] at H; exact H
          clear H
          have H := H1
          clear H1
          have H' := Aside0.mk H
          clear H
          go_wp2_with (first | ((with_reducible refine gate_callee (f := 38) rfl ?_); refine goesL_ (some 33) rfl rfl Try.func38 (by kernel_rfl) rfl #[.int .i64 t173, .int .i64 a2] rfl (by (try simp only [List.map_toArray, List.map_cons, List.map_nil]); first | done | rfl | (simp only [List.length_drop, List.length_take]; rfl)) ?_; (with_reducible refine (grain_On.calls t173 a2 false _ A11.out).mono ?_); rintro e w' ⟨rfl, ⟨nd, rfl⟩⟩; refine ⟨_, rfl, ?_⟩))
          go_meet
          case rel => exact ⟨_, (true), (by first | rfl | (simp; done) | (simp [*]; done)), H', ⟨by first | omega | exact Nat.le_refl _⟩, ⟨by repeat (first | (with_reducible first | exact HB.out | apply below_alloc | apply pw_below_drewN | apply below_drew1) | exact HB.out)⟩⟩
      case rest =>
        clear HC8
        try clear c1
        try clear p2
        try clear c3
        try clear c5
        try clear p6
        try clear c7
        try clear c7b0
        try clear c7b1
        try clear c11
        try clear c12
        try clear c14
        try clear c15
        try clear c15b0
        try clear c16
        try clear c16b0
        try clear c17
        try clear c17b0
        try clear c18
        try clear c18b0
        obtain ⟨kq, x73_7, rfl, HA, HJ7, HB⟩ := hcut
        cases kq with
        | zero => exact absurd HA.out (by simp [spigotlaw02_GrainInside.j0])
        | succ kj7 =>
          have H := HA.out
          clear HA
          simp only [spigotlaw02_GrainInside.j0] at H
          by_cases c19 : x73_7 = true
          · subst c19
            have H1 : (some false) = some r := by rw [if_pos rfl] at H; exact H
            clear H
            have H := H1
            clear H1
            obtain rfl := Option.some.inj H
            go_wp2
            go_ret
            exact ⟨by first | rfl | (simp [errW_none, errW_some] <;> rfl) | (simp [*, errW_none, errW_some] <;> rfl), by repeat (first | (with_reducible first | exact HB.out | apply below_alloc | apply pw_below_drewN | apply below_drew1) | exact HB.out)⟩
          · replace c19 := Bool.eq_false_iff.mpr c19
            subst c19
            have H1 : (if a1 = 10000 then (some true) else ((grain_Band.f kj7 a0 (wrap64 (a1 + 1)) a2).bind fun bt178 => (if bt178.2.2 = 0 then (if bt178.1 ≤ t173 then (some (decide (bt178.2.1 ≥ t174))) else (some false)) else (some false)))) = some r := by rw [if_neg (show ¬ (false = true) by decide)] at H; exact H
            clear H
            have H := H1
            clear H1
            by_cases c20 : a1 = 10000
            · rw [if_pos c20] at H
              have c20b0 : (a1 == 10000) = true := beq_iff_eq.mpr c20
              have c20b1 : (a1 != 10000) = false := bne_eq_false_iff_eq.mpr c20
              clear c20
              obtain rfl := Option.some.inj H
              go_wp2
              go_ret
              exact ⟨by first | rfl | (simp [errW_none, errW_some] <;> rfl) | (simp [*, errW_none, errW_some] <;> rfl), by repeat (first | (with_reducible first | exact HB.out | apply below_alloc | apply pw_below_drewN | apply below_drew1) | exact HB.out)⟩
            · rw [if_neg c20] at H
              have c20b0 : (a1 == 10000) = false := beq_eq_false_iff_ne.mpr c20
              have c20b1 : (a1 != 10000) = true := bne_iff_ne.mpr c20
              replace H := Option.bind_eq_some_iff.mp H
              obtain ⟨⟨t178, t179, t180⟩, A210, H⟩ := H
              replace H : (if t180 = 0 then (if t178 ≤ t173 then (some (decide (t179 ≥ t174))) else (some false)) else (some false)) = some r := H
              have A21 := Aside0.mk A210
              clear A210
              by_cases c22 : t180 = 0
              · rw [if_pos c22] at H
                have c22b0 : (t180 == 0) = true := beq_iff_eq.mpr c22
                have c22b1 : (t180 != 0) = false := bne_eq_false_iff_eq.mpr c22
                clear c22
                by_cases c23 : t178 ≤ t173
                · rw [if_pos c23] at H
                  have c23b0 : decide (t178 ≤ t173) = true := decide_eq_true c23
                  clear c23
                  obtain rfl := Option.some.inj H
                  go_wp2_with (first | ((with_reducible refine gate_callee (f := 31) rfl ?_); refine goesL_ (some 81) rfl rfl Try.func31 (by kernel_rfl) rfl #[.int .i64 a0, .int .i64 (wrap64 (a1 + 1)), .int .i64 a2] rfl (by (try simp only [List.map_toArray, List.map_cons, List.map_nil]); first | done | rfl | (simp only [List.length_drop, List.length_take]; rfl)) ?_; (with_reducible refine (grain_Band.calls kj7 a0 (wrap64 (a1 + 1)) a2 t178 t179 t180 _ A21.out).mono ?_); rintro e w24 ⟨rfl, hb⟩; refine ⟨_, rfl, ?_⟩; have n0_ := Aside0.mk (below_step (by repeat (first | (with_reducible first | exact HB.out | apply below_alloc | apply pw_below_drewN | apply below_drew1) | exact HB.out)) hb); clear HB; have HB := n0_; clear n0_; (try clear hb); (try clear hb2); (try clear hk); (try clear hi)))
                  go_ret
                  exact ⟨by first | rfl | (simp [errW_none, errW_some] <;> rfl) | (simp [*, errW_none, errW_some] <;> rfl), by repeat (first | (with_reducible first | exact HB.out | apply below_alloc | apply pw_below_drewN | apply below_drew1) | exact HB.out)⟩
                · rw [if_neg c23] at H
                  have c23b0 : decide (t178 ≤ t173) = false := decide_eq_false c23
                  clear c23
                  obtain rfl := Option.some.inj H
                  go_wp2_with (first | ((with_reducible refine gate_callee (f := 31) rfl ?_); refine goesL_ (some 81) rfl rfl Try.func31 (by kernel_rfl) rfl #[.int .i64 a0, .int .i64 (wrap64 (a1 + 1)), .int .i64 a2] rfl (by (try simp only [List.map_toArray, List.map_cons, List.map_nil]); first | done | rfl | (simp only [List.length_drop, List.length_take]; rfl)) ?_; (with_reducible refine (grain_Band.calls kj7 a0 (wrap64 (a1 + 1)) a2 t178 t179 t180 _ A21.out).mono ?_); rintro e w25 ⟨rfl, hb⟩; refine ⟨_, rfl, ?_⟩; have n0_ := Aside0.mk (below_step (by repeat (first | (with_reducible first | exact HB.out | apply below_alloc | apply pw_below_drewN | apply below_drew1) | exact HB.out)) hb); clear HB; have HB := n0_; clear n0_; (try clear hb); (try clear hb2); (try clear hk); (try clear hi)))
                  go_ret
                  exact ⟨by first | rfl | (simp [errW_none, errW_some] <;> rfl) | (simp [*, errW_none, errW_some] <;> rfl), by repeat (first | (with_reducible first | exact HB.out | apply below_alloc | apply pw_below_drewN | apply below_drew1) | exact HB.out)⟩
              · rw [if_neg c22] at H
                have c22b0 : (t180 == 0) = false := beq_eq_false_iff_ne.mpr c22
                have c22b1 : (t180 != 0) = true := bne_iff_ne.mpr c22
                obtain rfl := Option.some.inj H
                go_wp2_with (first | ((with_reducible refine gate_callee (f := 31) rfl ?_); refine goesL_ (some 81) rfl rfl Try.func31 (by kernel_rfl) rfl #[.int .i64 a0, .int .i64 (wrap64 (a1 + 1)), .int .i64 a2] rfl (by (try simp only [List.map_toArray, List.map_cons, List.map_nil]); first | done | rfl | (simp only [List.length_drop, List.length_take]; rfl)) ?_; (with_reducible refine (grain_Band.calls kj7 a0 (wrap64 (a1 + 1)) a2 t178 t179 t180 _ A21.out).mono ?_); rintro e w26 ⟨rfl, hb⟩; refine ⟨_, rfl, ?_⟩; have n0_ := Aside0.mk (below_step (by repeat (first | (with_reducible first | exact HB.out | apply below_alloc | apply pw_below_drewN | apply below_drew1) | exact HB.out)) hb); clear HB; have HB := n0_; clear n0_; (try clear hb); (try clear hb2); (try clear hk); (try clear hi)))
                go_ret
                exact ⟨by first | rfl | (simp [errW_none, errW_some] <;> rfl) | (simp [*, errW_none, errW_some] <;> rfl), by repeat (first | (with_reducible first | exact HB.out | apply below_alloc | apply pw_below_drewN | apply below_drew1) | exact HB.out)⟩
    · rw [if_neg c7] at H
      have c7b0 : (t175 == 0) = false := beq_eq_false_iff_ne.mpr c7
      have c7b1 : (t175 != 0) = true := bne_iff_ne.mpr c7
      by_cases c27 : t173 = 0
      · rw [if_pos c27] at H
        have c27b0 : (t173 == 0) = true := beq_iff_eq.mpr c27
        have c27b1 : (t173 != 0) = false := bne_eq_false_iff_eq.mpr c27
        clear c27
        obtain rfl := Option.some.inj H
        go_enter Try.func11, Try.ntmps11
        go_wp2_with (first | ((with_reducible refine gate_callee (f := 30) rfl ?_); refine goesL_ (some 13) rfl rfl Try.func30 (by kernel_rfl) rfl #[] rfl (by (try simp only [List.map_toArray, List.map_cons, List.map_nil]); first | done | rfl | (simp only [List.length_drop, List.length_take]; rfl)) ?_; (with_reducible refine (spigotlaw02_awake.calls k  true _ A4.out).mono ?_); rintro e w28 ⟨rfl, hb⟩; refine ⟨_, rfl, ?_⟩; have n0_ := Aside0.mk (below_step (by repeat (first | (with_reducible first | exact HB.out | apply below_alloc | apply pw_below_drewN | apply below_drew1) | exact HB.out)) hb); clear HB; have HB := n0_; clear n0_; (try clear hb); (try clear hb2); (try clear hk); (try clear hi)) | ((with_reducible refine gate_callee (f := 31) rfl ?_); refine goesL_ (some 19) rfl rfl Try.func31 (by kernel_rfl) rfl #[.int .i64 a0, .int .i64 a1, .int .i64 a2] rfl (by (try simp only [List.map_toArray, List.map_cons, List.map_nil]); first | done | rfl | (simp only [List.length_drop, List.length_take]; rfl)) ?_; (with_reducible refine (grain_Band.calls k a0 a1 a2 t173 t174 t175 _ A6.out).mono ?_); rintro e w29 ⟨rfl, hb⟩; refine ⟨_, rfl, ?_⟩; have n0_ := Aside0.mk (below_step (by repeat (first | (with_reducible first | exact HB.out | apply below_alloc | apply pw_below_drewN | apply below_drew1) | exact HB.out)) hb); clear HB; have HB := n0_; clear n0_; (try clear hb); (try clear hb2); (try clear hk); (try clear hi)))
        go_ret
        exact ⟨by first | rfl | (simp [errW_none, errW_some] <;> rfl) | (simp [*, errW_none, errW_some] <;> rfl), by repeat (first | (with_reducible first | exact HB.out | apply below_alloc | apply pw_below_drewN | apply below_drew1) | exact HB.out)⟩
      · rw [if_neg c27] at H
        have c27b0 : (t173 == 0) = false := beq_eq_false_iff_ne.mpr c27
        have c27b1 : (t173 != 0) = true := bne_iff_ne.mpr c27
        obtain rfl := Option.some.inj H
        go_enter Try.func11, Try.ntmps11
        go_wp2_with (first | ((with_reducible refine gate_callee (f := 30) rfl ?_); refine goesL_ (some 13) rfl rfl Try.func30 (by kernel_rfl) rfl #[] rfl (by (try simp only [List.map_toArray, List.map_cons, List.map_nil]); first | done | rfl | (simp only [List.length_drop, List.length_take]; rfl)) ?_; (with_reducible refine (spigotlaw02_awake.calls k  true _ A4.out).mono ?_); rintro e w30 ⟨rfl, hb⟩; refine ⟨_, rfl, ?_⟩; have n0_ := Aside0.mk (below_step (by repeat (first | (with_reducible first | exact HB.out | apply below_alloc | apply pw_below_drewN | apply below_drew1) | exact HB.out)) hb); clear HB; have HB := n0_; clear n0_; (try clear hb); (try clear hb2); (try clear hk); (try clear hi)) | ((with_reducible refine gate_callee (f := 31) rfl ?_); refine goesL_ (some 19) rfl rfl Try.func31 (by kernel_rfl) rfl #[.int .i64 a0, .int .i64 a1, .int .i64 a2] rfl (by (try simp only [List.map_toArray, List.map_cons, List.map_nil]); first | done | rfl | (simp only [List.length_drop, List.length_take]; rfl)) ?_; (with_reducible refine (grain_Band.calls k a0 a1 a2 t173 t174 t175 _ A6.out).mono ?_); rintro e w31 ⟨rfl, hb⟩; refine ⟨_, rfl, ?_⟩; have n0_ := Aside0.mk (below_step (by repeat (first | (with_reducible first | exact HB.out | apply below_alloc | apply pw_below_drewN | apply below_drew1) | exact HB.out)) hb); clear HB; have HB := n0_; clear n0_; (try clear hb); (try clear hb2); (try clear hk); (try clear hi)))
        go_ret
        exact ⟨by first | rfl | (simp [errW_none, errW_some] <;> rfl) | (simp [*, errW_none, errW_some] <;> rfl), by repeat (first | (with_reducible first | exact HB.out | apply below_alloc | apply pw_below_drewN | apply below_drew1) | exact HB.out)⟩
  · replace c5 := Bool.eq_false_iff.mpr c5
    subst c5
    have H1 : (some false) = some r := by rw [if_neg (show ¬ (false = true) by decide)] at H; exact H
    clear H
    have H := H1
    clear H1
    obtain rfl := Option.some.inj H
    go_enter Try.func11, Try.ntmps11
    go_wp2_with (first | ((with_reducible refine gate_callee (f := 30) rfl ?_); refine goesL_ (some 13) rfl rfl Try.func30 (by kernel_rfl) rfl #[] rfl (by (try simp only [List.map_toArray, List.map_cons, List.map_nil]); first | done | rfl | (simp only [List.length_drop, List.length_take]; rfl)) ?_; (with_reducible refine (spigotlaw02_awake.calls k  false _ A4.out).mono ?_); rintro e w32 ⟨rfl, hb⟩; refine ⟨_, rfl, ?_⟩; have n0_ := Aside0.mk (below_step (by repeat (first | (with_reducible first | exact HB.out | apply below_alloc | apply pw_below_drewN | apply below_drew1) | exact HB.out)) hb); clear HB; have HB := n0_; clear n0_; (try clear hb); (try clear hb2); (try clear hk); (try clear hi)))
    go_ret
    exact ⟨by first | rfl | (simp [errW_none, errW_some] <;> rfl) | (simp [*, errW_none, errW_some] <;> rfl), by repeat (first | (with_reducible first | exact HB.out | apply below_alloc | apply pw_below_drewN | apply below_drew1) | exact HB.out)⟩

/-- THE ONE PURE STATEMENT of spigotlaw02_GrainInside: yours. -/
def spigotlaw02_GrainInside.Pure : Prop := ∀ (a0 : Int) (a1 : Int) (a2 : Int), (Lit.int .i64 a0).wf = true → (Lit.int .i64 a1).wf = true → (Lit.int .i64 a2).wf = true → ∃ k, spigotlaw02_GrainInside.f k a0 a1 a2 = some true
theorem spigotlaw02_GrainInside.walk (P : spigotlaw02_GrainInside.Pure) (a0 : Int) (a1 : Int) (a2 : Int) (w : World) (w0 : (Lit.int .i64 a0).wf = true) (w1 : (Lit.int .i64 a1).wf = true) (w2 : (Lit.int .i64 a2).wf = true) :
    Calls Try.prog 11 #[.int .i64 a0, .int .i64 a1, .int .i64 a2] w fun e w' => e = .returned (.bool true) ∧ Below w.heap.size w w' := by
  obtain ⟨k, h⟩ := P a0 a1 a2 w0 w1 w2
  refine (spigotlaw02_GrainInside.calls k a0 a1 a2 true w h).mono ?_
  rintro e w' ⟨rfl, hd⟩
  exact ⟨rfl, hd⟩

end Go.Proofs.Ythnmpnilcdnimaa.G
