-- written by mp.py (my program over the kit's print)
import Derived.Test.YtbeadogignmpiaaPx0
import Derived.Test.YtbeadogignmpiaaPx1
import Derived.Test.YtbeadogignmpiaaPx2
namespace Go.Proofs.Ytbeadogignmpiaa.P
open Go.RowKit Go.Proofs.Ytbeadogignmpiaa.Hand Go.Proofs.YtbeadogignmpiaaW.PrintWords Go.Proofs.YtbeadogignmpiaaW.PrintLast Go.Proofs.YtbeadogignmpiaaW.PrintMore
attribute [local go_sem] max2_int min2_int max_two min_two max_three min_three max_four min_four   -- for this text's walks alone
set_option linter.unusedVariables false
set_option linter.unusedSimpArgs false

/-! ### spigotlaw01_CheckedUndone: function 9 -/
def spigotlaw01_CheckedUndone.j0 : Nat → Int → Int → Int → Int → Bool → Option (Bool)
  | 0, _, _, _, _, _ => none
  | k + 1, x0, x1, x5, x6, x58 => if x58 = true then (some false) else (if x6 = 0 then ((checked_Sub.f x5 x1).bind fun bt157 => (if bt157.1 = x0 then (some (bt157.2 == 0)) else (some false))) else (some true))
def spigotlaw01_CheckedUndone.f (k : Nat) (a0 : Int) (a1 : Int) : Option (Bool) := (spigotlaw01_awake.f).bind fun t148 => (if t148 = true then ((checked_Add.f a0 a1).bind fun bt149 => ((checked_Add.f a1 a0).bind fun bt151 => ((checked_Mul.f a0 a1).bind fun bt153 => ((checked_Mul.f a1 a0).bind fun bt155 => (if bt149.1 = bt151.1 then (if bt149.2 = bt151.2 then (if bt153.1 = bt155.1 then (spigotlaw01_CheckedUndone.j0 k a0 a1 bt149.1 bt149.2 (bt153.2 != bt155.2)) else (spigotlaw01_CheckedUndone.j0 k a0 a1 bt149.1 bt149.2 true)) else (spigotlaw01_CheckedUndone.j0 k a0 a1 bt149.1 bt149.2 true)) else (spigotlaw01_CheckedUndone.j0 k a0 a1 bt149.1 bt149.2 true)))))) else (some false))
theorem spigotlaw01_CheckedUndone.mono_l : ∀ k, (∀ y0 y1 y2 y3 y4, LeO (spigotlaw01_CheckedUndone.j0 k y0 y1 y2 y3 y4) (spigotlaw01_CheckedUndone.j0 (k + 1) y0 y1 y2 y3 y4))
  | 0 => fun _ _ _ _ _ r h => by simp [spigotlaw01_CheckedUndone.j0] at h
  | k + 1 => by
    have ih0 := spigotlaw01_CheckedUndone.mono_l k
    · intro y0 y1 y2 y3 y4
      unfold spigotlaw01_CheckedUndone.j0
      repeat' first
      | (with_reducible exact ih0 _ _ _ _ _)
      | (with_reducible exact LeO.refl _)
      | (with_reducible exact LeO.none _)
      | (with_reducible refine LeO.ite ?_ ?_)
      | (with_reducible refine LeO.bind ?_ (fun _ => ?_))
      | exact ih0 _ _ _ _ _
      | exact LeO.none _
      | refine LeO.ite ?_ ?_
      | refine LeO.bind ?_ (fun _ => ?_)
theorem spigotlaw01_CheckedUndone.mono : ∀ a0 a1 k, LeO (spigotlaw01_CheckedUndone.f k a0 a1) (spigotlaw01_CheckedUndone.f (k + 1) a0 a1) := by
  intro a0 a1 k
  have ih0 := spigotlaw01_CheckedUndone.mono_l k
  unfold spigotlaw01_CheckedUndone.f
  repeat' first
      | (with_reducible exact ih0 _ _ _ _ _)
      | (with_reducible exact LeO.refl _)
      | (with_reducible exact LeO.none _)
      | (with_reducible refine LeO.ite ?_ ?_)
      | (with_reducible refine LeO.bind ?_ (fun _ => ?_))
      | exact ih0 _ _ _ _ _
      | exact LeO.none _
      | refine LeO.ite ?_ ?_
      | refine LeO.bind ?_ (fun _ => ?_)
set_option maxHeartbeats 8000000 in
set_option maxRecDepth 100000 in
theorem spigotlaw01_CheckedUndone.calls (k : Nat) (a0 : Int) (a1 : Int) (r : Bool) (w : World) (h : spigotlaw01_CheckedUndone.f k a0 a1 = some r) :
    Calls Try.prog 9 #[.int .i64 a0, .int .i64 a1] w fun e w' => e = .returned (.bool r) ∧ Below w.heap.size w w' := by
  have HB := Aside0.mk (Below.refl w.heap.size w)
  have H : ((spigotlaw01_awake.f).bind fun t148 => (if t148 = true then ((checked_Add.f a0 a1).bind fun bt149 => ((checked_Add.f a1 a0).bind fun bt151 => ((checked_Mul.f a0 a1).bind fun bt153 => ((checked_Mul.f a1 a0).bind fun bt155 => (if bt149.1 = bt151.1 then (if bt149.2 = bt151.2 then (if bt153.1 = bt155.1 then (spigotlaw01_CheckedUndone.j0 k a0 a1 bt149.1 bt149.2 (bt153.2 != bt155.2)) else (spigotlaw01_CheckedUndone.j0 k a0 a1 bt149.1 bt149.2 true)) else (spigotlaw01_CheckedUndone.j0 k a0 a1 bt149.1 bt149.2 true)) else (spigotlaw01_CheckedUndone.j0 k a0 a1 bt149.1 bt149.2 true)))))) else (some false))) = some r := h
  clear h
  replace H := Option.bind_eq_some_iff.mp H
  obtain ⟨t148, A30, H⟩ := H
  replace H : (if t148 = true then ((checked_Add.f a0 a1).bind fun bt149 => ((checked_Add.f a1 a0).bind fun bt151 => ((checked_Mul.f a0 a1).bind fun bt153 => ((checked_Mul.f a1 a0).bind fun bt155 => (if bt149.1 = bt151.1 then (if bt149.2 = bt151.2 then (if bt153.1 = bt155.1 then (spigotlaw01_CheckedUndone.j0 k a0 a1 bt149.1 bt149.2 (bt153.2 != bt155.2)) else (spigotlaw01_CheckedUndone.j0 k a0 a1 bt149.1 bt149.2 true)) else (spigotlaw01_CheckedUndone.j0 k a0 a1 bt149.1 bt149.2 true)) else (spigotlaw01_CheckedUndone.j0 k a0 a1 bt149.1 bt149.2 true)))))) else (some false)) = some r := H
  have A3 := Aside0.mk A30
  clear A30
  by_cases c4 : t148 = true
  · subst c4
    have H1 : ((checked_Add.f a0 a1).bind fun bt149 => ((checked_Add.f a1 a0).bind fun bt151 => ((checked_Mul.f a0 a1).bind fun bt153 => ((checked_Mul.f a1 a0).bind fun bt155 => (if bt149.1 = bt151.1 then (if bt149.2 = bt151.2 then (if bt153.1 = bt155.1 then (spigotlaw01_CheckedUndone.j0 k a0 a1 bt149.1 bt149.2 (bt153.2 != bt155.2)) else (spigotlaw01_CheckedUndone.j0 k a0 a1 bt149.1 bt149.2 true)) else (spigotlaw01_CheckedUndone.j0 k a0 a1 bt149.1 bt149.2 true)) else (spigotlaw01_CheckedUndone.j0 k a0 a1 bt149.1 bt149.2 true)))))) = some r := by rw [if_pos rfl] at H; exact H
    clear H
    have H := H1
    clear H1
    replace H := Option.bind_eq_some_iff.mp H
    obtain ⟨⟨t149, t150⟩, A50, H⟩ := H
    replace H : ((checked_Add.f a1 a0).bind fun bt151 => ((checked_Mul.f a0 a1).bind fun bt153 => ((checked_Mul.f a1 a0).bind fun bt155 => (if t149 = bt151.1 then (if t150 = bt151.2 then (if bt153.1 = bt155.1 then (spigotlaw01_CheckedUndone.j0 k a0 a1 t149 t150 (bt153.2 != bt155.2)) else (spigotlaw01_CheckedUndone.j0 k a0 a1 t149 t150 true)) else (spigotlaw01_CheckedUndone.j0 k a0 a1 t149 t150 true)) else (spigotlaw01_CheckedUndone.j0 k a0 a1 t149 t150 true))))) = some r := H
    have A5 := Aside0.mk A50
    clear A50
    replace H := Option.bind_eq_some_iff.mp H
    obtain ⟨⟨t151, t152⟩, A60, H⟩ := H
    replace H : ((checked_Mul.f a0 a1).bind fun bt153 => ((checked_Mul.f a1 a0).bind fun bt155 => (if t149 = t151 then (if t150 = t152 then (if bt153.1 = bt155.1 then (spigotlaw01_CheckedUndone.j0 k a0 a1 t149 t150 (bt153.2 != bt155.2)) else (spigotlaw01_CheckedUndone.j0 k a0 a1 t149 t150 true)) else (spigotlaw01_CheckedUndone.j0 k a0 a1 t149 t150 true)) else (spigotlaw01_CheckedUndone.j0 k a0 a1 t149 t150 true)))) = some r := H
    have A6 := Aside0.mk A60
    clear A60
    replace H := Option.bind_eq_some_iff.mp H
    obtain ⟨⟨t153, t154⟩, A70, H⟩ := H
    replace H : ((checked_Mul.f a1 a0).bind fun bt155 => (if t149 = t151 then (if t150 = t152 then (if t153 = bt155.1 then (spigotlaw01_CheckedUndone.j0 k a0 a1 t149 t150 (t154 != bt155.2)) else (spigotlaw01_CheckedUndone.j0 k a0 a1 t149 t150 true)) else (spigotlaw01_CheckedUndone.j0 k a0 a1 t149 t150 true)) else (spigotlaw01_CheckedUndone.j0 k a0 a1 t149 t150 true))) = some r := H
    have A7 := Aside0.mk A70
    clear A70
    replace H := Option.bind_eq_some_iff.mp H
    obtain ⟨⟨t155, t156⟩, A80, H⟩ := H
    replace H : (if t149 = t151 then (if t150 = t152 then (if t153 = t155 then (spigotlaw01_CheckedUndone.j0 k a0 a1 t149 t150 (t154 != t156)) else (spigotlaw01_CheckedUndone.j0 k a0 a1 t149 t150 true)) else (spigotlaw01_CheckedUndone.j0 k a0 a1 t149 t150 true)) else (spigotlaw01_CheckedUndone.j0 k a0 a1 t149 t150 true)) = some r := H
    have A8 := Aside0.mk A80
    clear A80
    have HC9 := Aside0.mk H
    clear H
    go_enter Try.func9, Try.ntmps9
    go_upto_region 7 with (first | ((with_reducible refine gate_callee (f := 15) rfl ?_); refine goesL_ (some 15) rfl rfl Try.func15 (by kernel_rfl) rfl #[] rfl (by (try simp only [List.map_toArray, List.map_cons, List.map_nil]); first | done | rfl | (simp only [List.length_drop, List.length_take]; rfl)) ?_; (with_reducible refine (spigotlaw01_awake.calls  true _ A3.out).mono ?_); rintro e w10 ⟨rfl, hb⟩; refine ⟨_, rfl, ?_⟩; have n0_ := Aside0.mk (below_step (by repeat (first | (with_reducible first | exact HB.out | apply below_alloc | apply pw_below_drewN | apply below_drew1) | exact HB.out)) hb); clear HB; have HB := n0_; clear n0_; (try clear hb); (try clear hb2); (try clear hk); (try clear hi)) | ((with_reducible refine gate_callee (f := 27) rfl ?_); refine goesL_ (some 20) rfl rfl Try.func27 (by kernel_rfl) rfl #[.int .i64 a0, .int .i64 a1] rfl (by (try simp only [List.map_toArray, List.map_cons, List.map_nil]); first | done | rfl | (simp only [List.length_drop, List.length_take]; rfl)) ?_; (with_reducible refine (checked_Add.calls a0 a1 t149 t150 _ A5.out).mono ?_); rintro e w' ⟨rfl, ⟨nd, rfl⟩⟩; refine ⟨_, rfl, ?_⟩) | ((with_reducible refine gate_callee (f := 27) rfl ?_); refine goesL_ (some 26) rfl rfl Try.func27 (by kernel_rfl) rfl #[.int .i64 a1, .int .i64 a0] rfl (by (try simp only [List.map_toArray, List.map_cons, List.map_nil]); first | done | rfl | (simp only [List.length_drop, List.length_take]; rfl)) ?_; (with_reducible refine (checked_Add.calls a1 a0 t151 t152 _ A6.out).mono ?_); rintro e w' ⟨rfl, ⟨nd, rfl⟩⟩; refine ⟨_, rfl, ?_⟩) | ((with_reducible refine gate_callee (f := 20) rfl ?_); refine goesL_ (some 32) rfl rfl Try.func20 (by kernel_rfl) rfl #[.int .i64 a0, .int .i64 a1] rfl (by (try simp only [List.map_toArray, List.map_cons, List.map_nil]); first | done | rfl | (simp only [List.length_drop, List.length_take]; rfl)) ?_; (with_reducible refine (checked_Mul.calls a0 a1 t153 t154 _ A7.out).mono ?_); rintro e w11 ⟨rfl, hb⟩; refine ⟨_, rfl, ?_⟩; have n0_ := Aside0.mk (below_step (by repeat (first | (with_reducible first | exact HB.out | apply below_alloc | apply pw_below_drewN | apply below_drew1) | exact HB.out)) hb); clear HB; have HB := n0_; clear n0_; (try clear hb); (try clear hb2); (try clear hk); (try clear hi)) | ((with_reducible refine gate_callee (f := 20) rfl ?_); refine goesL_ (some 38) rfl rfl Try.func20 (by kernel_rfl) rfl #[.int .i64 a1, .int .i64 a0] rfl (by (try simp only [List.map_toArray, List.map_cons, List.map_nil]); first | done | rfl | (simp only [List.length_drop, List.length_take]; rfl)) ?_; (with_reducible refine (checked_Mul.calls a1 a0 t155 t156 _ A8.out).mono ?_); rintro e w12 ⟨rfl, hb⟩; refine ⟨_, rfl, ?_⟩; have n0_ := Aside0.mk (below_step (by repeat (first | (with_reducible first | exact HB.out | apply below_alloc | apply pw_below_drewN | apply below_drew1) | exact HB.out)) hb); clear HB; have HB := n0_; clear n0_; (try clear hb); (try clear hb2); (try clear hk); (try clear hi)))
    (try simp only [Act.put, List.setIfInBounds_toArray, List.set_cons_zero, List.set_cons_succ])
    go_cut [58] (fun v58 wc => ∃ (kq : Nat) (x58_8 : Bool), v58 = .bool x58_8 ∧ Aside0 (spigotlaw01_CheckedUndone.j0 kq a0 a1 t149 t150 x58_8 = some r) ∧ Aside0 (kq ≤ k) ∧ Aside0 (Below w.heap.size w wc))
    case first =>
      have H := HC9.out
      clear HC9
      by_cases c13 : t149 = t151
      · rw [if_pos c13] at H
        have c13b0 : (t149 == t151) = true := beq_iff_eq.mpr c13
        have c13b1 : (t149 != t151) = false := bne_eq_false_iff_eq.mpr c13
        clear c13
        (first | rw [c13b0] | (simp only [i64_w, i32_w]; rw [c13b0]) | skip)
        by_cases c14 : t150 = t152
        · rw [if_pos c14] at H
          have c14b0 : (t150 == t152) = true := beq_iff_eq.mpr c14
          have c14b1 : (t150 != t152) = false := bne_eq_false_iff_eq.mpr c14
          clear c14
          by_cases c15 : t153 = t155
          · rw [if_pos c15] at H
            have c15b0 : (t153 == t155) = true := beq_iff_eq.mpr c15
            have c15b1 : (t153 != t155) = false := bne_eq_false_iff_eq.mpr c15
            clear c15
            have H' := Aside0.mk H
            clear H
            go_wp2
            go_meet
            case rel => exact ⟨_, ((t154 != t156)), (by first | rfl | (simp; done) | (simp [*]; done)), H', ⟨by first | omega | exact Nat.le_refl _⟩, ⟨by repeat (first | (with_reducible first | exact HB.out | apply below_alloc | apply pw_below_drewN | apply below_drew1) | exact HB.out)⟩⟩
          · rw [if_neg c15] at H
            have c15b0 : (t153 == t155) = false := beq_eq_false_iff_ne.mpr c15
            have c15b1 : (t153 != t155) = true := bne_iff_ne.mpr c15
            have H' := Aside0.mk H
            clear H
            go_wp2
            go_meet
            case rel => exact ⟨_, (true), (by first | rfl | (simp; done) | (simp [*]; done)), H', ⟨by first | omega | exact Nat.le_refl _⟩, ⟨by repeat (first | (with_reducible first | exact HB.out | apply below_alloc | apply pw_below_drewN | apply below_drew1) | exact HB.out)⟩⟩
        · rw [if_neg c14] at H
          have c14b0 : (t150 == t152) = false := beq_eq_false_iff_ne.mpr c14
          have c14b1 : (t150 != t152) = true := bne_iff_ne.mpr c14
          have H' := Aside0.mk H
          clear H
          go_wp2
          go_meet
          case rel => exact ⟨_, (true), (by first | rfl | (simp; done) | (simp [*]; done)), H', ⟨by first | omega | exact Nat.le_refl _⟩, ⟨by repeat (first | (with_reducible first | exact HB.out | apply below_alloc | apply pw_below_drewN | apply below_drew1) | exact HB.out)⟩⟩
      · rw [if_neg c13] at H
        have c13b0 : (t149 == t151) = false := beq_eq_false_iff_ne.mpr c13
        have c13b1 : (t149 != t151) = true := bne_iff_ne.mpr c13
        (first | rw [c13b0] | (simp only [i64_w, i32_w]; rw [c13b0]) | skip)
        have H' := Aside0.mk H
        clear H
        go_wp2
        go_meet
        case rel => exact ⟨_, (true), (by first | rfl | (simp; done) | (simp [*]; done)), H', ⟨by first | omega | exact Nat.le_refl _⟩, ⟨by repeat (first | (with_reducible first | exact HB.out | apply below_alloc | apply pw_below_drewN | apply below_drew1) | exact HB.out)⟩⟩
    case rest =>
      clear HC9
      try clear c1
      try clear c2
      try clear p2
      try clear c4
      try clear c9
      try clear c13
      try clear c13b0
      try clear c13b1
      try clear c14
      try clear c14b0
      try clear c14b1
      try clear c15
      try clear c15b0
      try clear c15b1
      obtain ⟨kq, x58_8, rfl, HA, HJ8, HB⟩ := hcut
      cases kq with
      | zero => exact absurd HA.out (by simp [spigotlaw01_CheckedUndone.j0])
      | succ kj8 =>
        have H := HA.out
        clear HA
        simp only [spigotlaw01_CheckedUndone.j0] at H
        by_cases c16 : x58_8 = true
        · subst c16
          have H1 : (some false) = some r := by rw [if_pos rfl] at H; exact H
          clear H
          have H := H1
          clear H1
          obtain rfl := Option.some.inj H
          go_wp2
          go_ret
          exact ⟨by first | rfl | (simp [errW_none, errW_some] <;> rfl) | (simp [*, errW_none, errW_some] <;> rfl), by repeat (first | (with_reducible first | exact HB.out | apply below_alloc | apply pw_below_drewN | apply below_drew1) | exact HB.out)⟩
        · replace c16 := Bool.eq_false_iff.mpr c16
          subst c16
          have H1 : (if t150 = 0 then ((checked_Sub.f t149 a1).bind fun bt157 => (if bt157.1 = a0 then (some (bt157.2 == 0)) else (some false))) else (some true)) = some r := by rw [if_neg (show ¬ (false = true) by decide)] at H; exact H
          clear H
          have H := H1
          clear H1
          by_cases c17 : t150 = 0
          · rw [if_pos c17] at H
            have c17b0 : (t150 == 0) = true := beq_iff_eq.mpr c17
            have c17b1 : (t150 != 0) = false := bne_eq_false_iff_eq.mpr c17
            clear c17
            replace H := Option.bind_eq_some_iff.mp H
            obtain ⟨⟨t157, t158⟩, A180, H⟩ := H
            replace H : (if t157 = a0 then (some (t158 == 0)) else (some false)) = some r := H
            have A18 := Aside0.mk A180
            clear A180
            by_cases c19 : t157 = a0
            · rw [if_pos c19] at H
              have c19b0 : (t157 == a0) = true := beq_iff_eq.mpr c19
              have c19b1 : (t157 != a0) = false := bne_eq_false_iff_eq.mpr c19
              clear c19
              obtain rfl := Option.some.inj H
              go_wp2_with (first | ((with_reducible refine gate_callee (f := 28) rfl ?_); refine goesL_ (some 64) rfl rfl Try.func28 (by kernel_rfl) rfl #[.int .i64 t149, .int .i64 a1] rfl (by (try simp only [List.map_toArray, List.map_cons, List.map_nil]); first | done | rfl | (simp only [List.length_drop, List.length_take]; rfl)) ?_; (with_reducible refine (checked_Sub.calls t149 a1 t157 t158 _ A18.out).mono ?_); rintro e w' ⟨rfl, ⟨nd, rfl⟩⟩; refine ⟨_, rfl, ?_⟩))
              go_ret
              exact ⟨by first | rfl | (simp [errW_none, errW_some] <;> rfl) | (simp [*, errW_none, errW_some] <;> rfl), by repeat (first | (with_reducible first | exact HB.out | apply below_alloc | apply pw_below_drewN | apply below_drew1) | exact HB.out)⟩
            · rw [if_neg c19] at H
              have c19b0 : (t157 == a0) = false := beq_eq_false_iff_ne.mpr c19
              have c19b1 : (t157 != a0) = true := bne_iff_ne.mpr c19
              obtain rfl := Option.some.inj H
              go_wp2_with (first | ((with_reducible refine gate_callee (f := 28) rfl ?_); refine goesL_ (some 64) rfl rfl Try.func28 (by kernel_rfl) rfl #[.int .i64 t149, .int .i64 a1] rfl (by (try simp only [List.map_toArray, List.map_cons, List.map_nil]); first | done | rfl | (simp only [List.length_drop, List.length_take]; rfl)) ?_; (with_reducible refine (checked_Sub.calls t149 a1 t157 t158 _ A18.out).mono ?_); rintro e w' ⟨rfl, ⟨nd, rfl⟩⟩; refine ⟨_, rfl, ?_⟩))
              go_ret
              exact ⟨by first | rfl | (simp [errW_none, errW_some] <;> rfl) | (simp [*, errW_none, errW_some] <;> rfl), by repeat (first | (with_reducible first | exact HB.out | apply below_alloc | apply pw_below_drewN | apply below_drew1) | exact HB.out)⟩
          · rw [if_neg c17] at H
            have c17b0 : (t150 == 0) = false := beq_eq_false_iff_ne.mpr c17
            have c17b1 : (t150 != 0) = true := bne_iff_ne.mpr c17
            obtain rfl := Option.some.inj H
            go_wp2
            go_ret
            exact ⟨by first | rfl | (simp [errW_none, errW_some] <;> rfl) | (simp [*, errW_none, errW_some] <;> rfl), by repeat (first | (with_reducible first | exact HB.out | apply below_alloc | apply pw_below_drewN | apply below_drew1) | exact HB.out)⟩
  · replace c4 := Bool.eq_false_iff.mpr c4
    subst c4
    have H1 : (some false) = some r := by rw [if_neg (show ¬ (false = true) by decide)] at H; exact H
    clear H
    have H := H1
    clear H1
    obtain rfl := Option.some.inj H
    go_enter Try.func9, Try.ntmps9
    go_wp2_with (first | ((with_reducible refine gate_callee (f := 15) rfl ?_); refine goesL_ (some 15) rfl rfl Try.func15 (by kernel_rfl) rfl #[] rfl (by (try simp only [List.map_toArray, List.map_cons, List.map_nil]); first | done | rfl | (simp only [List.length_drop, List.length_take]; rfl)) ?_; (with_reducible refine (spigotlaw01_awake.calls  false _ A3.out).mono ?_); rintro e w20 ⟨rfl, hb⟩; refine ⟨_, rfl, ?_⟩; have n0_ := Aside0.mk (below_step (by repeat (first | (with_reducible first | exact HB.out | apply below_alloc | apply pw_below_drewN | apply below_drew1) | exact HB.out)) hb); clear HB; have HB := n0_; clear n0_; (try clear hb); (try clear hb2); (try clear hk); (try clear hi)))
    go_ret
    exact ⟨by first | rfl | (simp [errW_none, errW_some] <;> rfl) | (simp [*, errW_none, errW_some] <;> rfl), by repeat (first | (with_reducible first | exact HB.out | apply below_alloc | apply pw_below_drewN | apply below_drew1) | exact HB.out)⟩

/-- THE ONE PURE STATEMENT of spigotlaw01_CheckedUndone: yours. -/
def spigotlaw01_CheckedUndone.Pure : Prop := ∀ (a0 : Int) (a1 : Int), (Lit.int .i64 a0).wf = true → (Lit.int .i64 a1).wf = true → ∃ k, spigotlaw01_CheckedUndone.f k a0 a1 = some true
theorem spigotlaw01_CheckedUndone.walk (P : spigotlaw01_CheckedUndone.Pure) (a0 : Int) (a1 : Int) (w : World) (w0 : (Lit.int .i64 a0).wf = true) (w1 : (Lit.int .i64 a1).wf = true) :
    Calls Try.prog 9 #[.int .i64 a0, .int .i64 a1] w fun e w' => e = .returned (.bool true) ∧ Below w.heap.size w w' := by
  obtain ⟨k, h⟩ := P a0 a1 w0 w1
  refine (spigotlaw01_CheckedUndone.calls k a0 a1 true w h).mono ?_
  rintro e w' ⟨rfl, hd⟩
  exact ⟨rfl, hd⟩

/-! ### flow_between_int: function 46 -/
def flow_between_int.f (a0 : Int) (a1 : Int) (a2 : Int) : Option (Bool) := if a0 ≥ a1 then (some (decide (a0 ≤ a2))) else (some false)
set_option maxHeartbeats 8000000 in
set_option maxRecDepth 100000 in
theorem flow_between_int.calls (a0 : Int) (a1 : Int) (a2 : Int) (r : Bool) (w : World) (h : flow_between_int.f a0 a1 a2 = some r) :
    Calls Try.prog 46 #[.int .i64 a0, .int .i64 a1, .int .i64 a2] w fun e w' => e = .returned (.bool r) ∧ Drawn0 w w' := by
  have H : (if a0 ≥ a1 then (some (decide (a0 ≤ a2))) else (some false)) = some r := h
  clear h
  by_cases c4 : a0 ≥ a1
  · rw [if_pos c4] at H
    have c4b0 : decide (a1 ≤ a0) = true := decide_eq_true c4
    clear c4
    obtain rfl := Option.some.inj H
    go_enter Try.func46, Try.ntmps46
    go_wp2
    go_ret
    exact ⟨by first | rfl | (simp; done) | (simp [*]; done), by repeat (first | exact Drawn0.refl _ | apply Drawn0.step)⟩
  · rw [if_neg c4] at H
    have c4b0 : decide (a1 ≤ a0) = false := decide_eq_false c4
    clear c4
    obtain rfl := Option.some.inj H
    go_enter Try.func46, Try.ntmps46
    go_wp2
    go_ret
    exact ⟨by first | rfl | (simp; done) | (simp [*]; done), by repeat (first | exact Drawn0.refl _ | apply Drawn0.step)⟩

end Go.Proofs.Ytbeadogignmpiaa.P
