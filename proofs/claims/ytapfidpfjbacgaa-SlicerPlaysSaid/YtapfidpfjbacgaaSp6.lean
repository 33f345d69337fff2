/- The document's slicer: Amend, Target, Goal; Plain, walked. -/
import Derived.Test.YtapfidpfjbacgaaSp5
set_option linter.unusedVariables false
set_option linter.unusedSimpArgs false
namespace Go.Proofs.Ytapfidpfjbacgaa.Hand
open Go Go.RowKit Go.Proofs.YtapfidpfjbacgaaW.PrintWords Go.Proofs.YtapfidpfjbacgaaW.PrintMore Go.Proofs.Ytapfidpfjbacgaa.RL Go.Proofs.Ytapfidpfjbacgaa.PL Go.Proofs.Ytapfidpfjbacgaa.U
abbrev docC (k sd q p al st en rt sh : Int) (id tg ac sy : ByteArray) (cv : Value) (v0 : Int) : Array Value := #[.int .i64 k, .string id, .string tg, .string ac, .string sy, .int .i64 sd, .int .i64 q, .int .i64 p, .int .i64 al, .int .i64 st, .int .i64 en, .int .i64 rt, .int .i64 sh, cv, .int .i64 v0]
set_option maxHeartbeats 8000000 in
set_option maxRecDepth 100000 in
theorem damend_no (g : Nat) (k sd q p al st en rt sh v0 q2 p2 en2 : Int) (id tg ac sy : ByteArray) (cv : Value) (hst : 0 ≤ st ∧ st ≤ 1099511627776) (hno : amS st q2 p2 en2 ≠ 0) (w : World)
    (hS : Blk w g 44 (docC k sd q p al st en rt sh id tg ac sy cv v0)) :
    Calls Try.prog 13 #[.pointer (some ⟨g, 0, none⟩), .int .i64 q2, .int .i64 p2, .int .i64 en2] w fun e w' => e = .returned (.int .i64 (amS st q2 p2 en2)) ∧ w' = w := by
  have y9 := hS.cell 9
  simp at y9
  have h1 := fun w => rin27_walk q2 1 1099511627776 w
  have h2 := fun w => rin27_walk p2 1 1099511627776 w
  have h3 := fun w => rin27_walk en2 0 1099511627776 w
  have h4 := fun w => rin27_walk (en2 - st) 1 1073741824 w
  unfold amS amG at hno ⊢
  have hb : decide (0 ≤ en2 ∧ en2 ≤ 1099511627776) = true → (-9223372036854775808 ≤ en2 - st ∧ en2 - st ≤ 9223372036854775807) := fun h => by have := of_decide_eq_true h; omega
  have e4 : (if 1 ≤ en2 - st ∧ en2 - st ≤ 1073741824 then (0 : Int) else 282) = (if decide (1 ≤ en2 - st ∧ en2 - st ≤ 1073741824) = true then 0 else 282) := by simp
  rw [e4] at hno ⊢
  generalize decide (1 ≤ q2 ∧ q2 ≤ 1099511627776) = d1 at *
  generalize decide (1 ≤ p2 ∧ p2 ≤ 1099511627776) = d2 at *
  generalize hd3 : decide (0 ≤ en2 ∧ en2 ≤ 1099511627776) = d3 at *
  generalize decide (1 ≤ en2 - st ∧ en2 - st ≤ 1073741824) = d4 at *
  have H1 := Lib.hid h1; have H2 := Lib.hid h2; have H3 := Lib.hid h3; have H4 := Lib.hid h4
  clear h1 h2 h3 h4 hS e4
  have hq' : d1 = false ∨ (d1 = true ∧ d2 = false) ∨ (d1 = true ∧ d2 = true ∧ d3 = false) ∨ (d1 = true ∧ d2 = true ∧ d3 = true ∧ d4 = false) := by cases d1 <;> cases d2 <;> cases d3 <;> cases d4 <;> simp_all
  clear hno
  rcases hq' with rfl | ⟨rfl, rfl⟩ | ⟨rfl, rfl, rfl⟩ | ⟨rfl, rfl, rfl, rfl⟩
  all_goals
    (try (have hb := hb rfl))
    try clear hd3
    go_enter Try.func13, Try.ntmps13
    go_wp2_with (go_at_call 30; first | ((with_reducible refine (H1.out _).mono ?_); rintro e wa ⟨rfl, rfl⟩) | ((with_reducible refine (H2.out _).mono ?_); rintro e wb ⟨rfl, rfl⟩) | ((with_reducible refine (H3.out _).mono ?_); rintro e wc ⟨rfl, rfl⟩) | ((with_reducible refine (H4.out _).mono ?_); rintro e wd ⟨rfl, rfl⟩))
    go_ret
    exact ⟨by simp, rfl⟩
theorem amS_open {st q2 p2 en2 : Int} (hok : amS st q2 p2 en2 = 0) : (1 ≤ q2 ∧ q2 ≤ 1099511627776) ∧ (1 ≤ p2 ∧ p2 ≤ 1099511627776) ∧ (0 ≤ en2 ∧ en2 ≤ 1099511627776) ∧ (1 ≤ en2 - st ∧ en2 - st ≤ 1073741824) := by
  unfold amS amG at hok
  by_cases g1 : (decide (1 ≤ q2 ∧ q2 ≤ 1099511627776) && decide (1 ≤ p2 ∧ p2 ≤ 1099511627776) && decide (0 ≤ en2 ∧ en2 ≤ 1099511627776)) = true
  · rw [if_pos g1] at hok
    by_cases g2 : 1 ≤ en2 - st ∧ en2 - st ≤ 1073741824
    · simp only [Bool.and_eq_true, decide_eq_true_eq] at g1
      exact ⟨g1.1.1, g1.1.2, g1.2, g2⟩
    · rw [if_neg g2] at hok; cases hok
  · rw [if_neg g1] at hok; cases hok
set_option maxHeartbeats 8000000 in
set_option maxRecDepth 100000 in
theorem damend_ok (g : Nat) (k sd q p al st en rt sh v0 q2 p2 en2 : Int) (id tg ac sy : ByteArray) (cv : Value) (hst : 0 ≤ st ∧ st ≤ 1099511627776) (hok : amS st q2 p2 en2 = 0) (w : World)
    (hS : Blk w g 44 (docC k sd q p al st en rt sh id tg ac sy cv v0)) :
    Calls Try.prog 13 #[.pointer (some ⟨g, 0, none⟩), .int .i64 q2, .int .i64 p2, .int .i64 en2] w fun e w' => e = .returned (.int .i64 0) ∧ w' = ((w.setCell ⟨g, 6, none⟩ (.int .i64 q2)).setCell ⟨g, 7, none⟩ (.int .i64 p2)).setCell ⟨g, 10, none⟩ (.int .i64 en2) := by
  have y6 := hS.cell 6; have y7 := hS.cell 7; have y9 := hS.cell 9; have y10 := hS.cell 10
  have f6 := hS.frozen 6; have f7 := hS.frozen 7; have f10 := hS.frozen 10
  simp at y6 y7 y9 y10
  have h1 := fun w => rin27_walk q2 1 1099511627776 w
  have h2 := fun w => rin27_walk p2 1 1099511627776 w
  have h3 := fun w => rin27_walk en2 0 1099511627776 w
  have h4 := fun w => rin27_walk (en2 - st) 1 1073741824 w
  obtain ⟨a1, a2, a3, a4⟩ := amS_open hok
  rw [decide_eq_true a1] at h1; rw [decide_eq_true a2] at h2; rw [decide_eq_true a3] at h3; rw [decide_eq_true a4] at h4
  have H1 := Lib.hid h1; have H2 := Lib.hid h2; have H3 := Lib.hid h3; have H4 := Lib.hid h4
  clear h1 h2 h3 h4 hS hok
  go_enter Try.func13, Try.ntmps13
  go_wp2_with (go_at_call 30; first | ((with_reducible refine (H1.out _).mono ?_); rintro e wa ⟨rfl, rfl⟩) | ((with_reducible refine (H2.out _).mono ?_); rintro e wb ⟨rfl, rfl⟩) | ((with_reducible refine (H3.out _).mono ?_); rintro e wc ⟨rfl, rfl⟩) | ((with_reducible refine (H4.out _).mono ?_); rintro e wd ⟨rfl, rfl⟩))
  go_ret
  exact ⟨rfl, rfl⟩
set_option maxHeartbeats 4000000 in
set_option maxRecDepth 100000 in
theorem plain_walk (k sd q p al st en rt sh : Int) (id tg ac sy : ByteArray) (A : Option Addr) (n c : Nat) (w : World) :
    Calls Try.prog 11 #[.agg (askC k sd q p al st en rt sh id tg ac sy (.slice A n c))] w fun e w' => e = .returned (.agg (askC k sd q p al st en rt sh id tg ac sy (.slice A n c))) ∧ Below w.heap.size w w' := by
  go_enter Try.func11, Try.ntmps11
  go_wp2_with fail
  exact bodyPost_ret (v := .agg (askC k sd q p al st en rt sh id tg ac sy (.slice A n c))) (by simp [results, Try.results11, go_sem]) rfl ⟨rfl, ((Below.refl _ _).alloc (Nat.le_refl _) _).alloc (by simp) _⟩
set_option maxHeartbeats 8000000 in
set_option maxRecDepth 100000 in
theorem dtarget_bad (g : Nat) (k sd q p al st en rt sh v0 now vol dn : Int) (id tg ac sy : ByteArray) (cv : Value) (hno : ¬ ((0 ≤ now ∧ now ≤ 1099511627776) ∧ (v0 ≤ vol ∧ vol ≤ 4611686018427387904) ∧ 0 ≤ dn ∧ dn ≤ q)) (w : World)
    (hS : Blk w g 44 (docC k sd q p al st en rt sh id tg ac sy cv v0)) :
    Calls Try.prog 14 #[.pointer (some ⟨g, 0, none⟩), .int .i64 now, .int .i64 vol, .int .i64 dn] w fun e w' => e = .returned (.tuple #[.int .i64 0, .int .i64 2]) ∧ w' = w := by
  have y6 := hS.cell 6; have y14 := hS.cell 14
  simp at y6 y14
  have h1 := fun w => rin27_walk now 0 1099511627776 w
  have h2 := fun w => rin27_walk vol v0 4611686018427387904 w
  have h3 := fun w => rin27_walk dn 0 q w
  have hq : (decide (0 ≤ now ∧ now ≤ 1099511627776) && decide (v0 ≤ vol ∧ vol ≤ 4611686018427387904) && decide (0 ≤ dn ∧ dn ≤ q)) = false := by
    rw [Bool.eq_false_iff]
    intro h
    simp only [Bool.and_eq_true, decide_eq_true_eq] at h
    exact hno ⟨h.1.1, h.1.2, h.2⟩
  generalize decide (0 ≤ now ∧ now ≤ 1099511627776) = d1 at *
  generalize decide (v0 ≤ vol ∧ vol ≤ 4611686018427387904) = d2 at *
  generalize decide (0 ≤ dn ∧ dn ≤ q) = d3 at *
  have H1 := Lib.hid h1; have H2 := Lib.hid h2; have H3 := Lib.hid h3
  clear h1 h2 h3 hno hS
  have hq' : d1 = false ∨ (d1 = true ∧ d2 = false) ∨ (d1 = true ∧ d2 = true ∧ d3 = false) := by cases d1 <;> cases d2 <;> cases d3 <;> simp_all
  clear hq
  rcases hq' with rfl | ⟨rfl, rfl⟩ | ⟨rfl, rfl, rfl⟩
  all_goals
    go_enter Try.func14, Try.ntmps14
    go_wp2_with (go_at_call 30; first | ((with_reducible refine (H1.out _).mono ?_); rintro e wa ⟨rfl, rfl⟩) | ((with_reducible refine (H2.out _).mono ?_); rintro e wb ⟨rfl, rfl⟩) | ((with_reducible refine (H3.out _).mono ?_); rintro e wc ⟨rfl, rfl⟩))
    exact bodyPost_ret (v := .tuple #[.int .i64 0, .int .i64 2]) (by simp [results, Try.results14, go_sem]) rfl ⟨rfl, rfl⟩
set_option maxHeartbeats 8000000 in
set_option maxRecDepth 100000 in
theorem dtarget_ok (g : Nat) (k sd q p al st en rt sh v0 now vol dn : Int) (id tg ac sy : ByteArray) (A : Option Addr) (cc : Nat) (l : List Int) (hcc : l.length ≤ cc) (hq : 0 ≤ q ∧ q ≤ 1099511627776) (ha3 : al = 3 → 1 ≤ rt ∧ rt ≤ 10000) (ha4 : al = 4 → 1 ≤ sh ∧ sh ≤ 1099511627776)
    (hb1 : 0 ≤ now ∧ now ≤ 1099511627776) (hv0 : 0 ≤ v0) (hb2 : v0 ≤ vol ∧ vol ≤ 4611686018427387904) (hb3 : 0 ≤ dn ∧ dn ≤ q) (w : World) (hC : Kd.C (Kd.int .i64) w A l.length l)
    (hS : Blk w g 44 (docC k sd q p al st en rt sh id tg ac sy (.slice A l.length cc) v0)) :
    Calls Try.prog 14 #[.pointer (some ⟨g, 0, none⟩), .int .i64 now, .int .i64 vol, .int .i64 dn] w fun e w' => e = .returned (.tuple #[.int .i64 (if now < st then 0 else (tgtS al q st en rt sh l now (vol - v0) dn).1), .int .i64 (if now < st then 0 else (tgtS al q st en rt sh l now (vol - v0) dn).2)]) ∧ Below w.heap.size w w' := by
  have y6 := hS.cell 6; have y8 := hS.cell 8; have y9 := hS.cell 9; have y10 := hS.cell 10; have y11 := hS.cell 11; have y12 := hS.cell 12; have y13 := hS.cell 13; have y14 := hS.cell 14
  simp at y6 y8 y9 y10 y11 y12 y13 y14
  have h1 := fun w => rin27_walk now 0 1099511627776 w
  have h2 := fun w => rin27_walk vol v0 4611686018427387904 w
  have h3 := fun w => rin27_walk dn 0 q w
  rw [decide_eq_true hb1] at h1; rw [decide_eq_true hb2] at h2; rw [decide_eq_true hb3] at h3
  have H1 := Lib.hid h1; have H2 := Lib.hid h2; have H3 := Lib.hid h3
  have tv := fun w' (hb : Below w.heap.size w w') => U.spigotref24_Vwap.calls 80 q A cc l st en now (vwapW q l st en now).1 (vwapW q l st en now).2 w' (Kd.C_below hC hb) hcc (tie24 q l st en now)
  have tt := fun w' => U.spigotref24_Twap.calls 80 q st en now (twapW q st en now).1 (twapW q st en now).2 w' (twap24 q st en now)
  have tf := fun h2 w' => U.spigotref25_Target.calls 8 q rt (vol - v0) _ _ w' (dflow_in q rt (vol - v0) hq h2 (by omega))
  have tb := fun h2 w' => U.spigotref26_Target.calls 8 q sh dn _ _ w' (dberg_in q sh dn hq h2 hb3)
  have hwr : IntKind.i64.wrap (vol - v0) = vol - v0 := IntWalk.i64_in _ (by omega)
  have keepS : ∀ w', Below w.heap.size w w' → w'.cell? ⟨g, 6, none⟩ = some (.int .i64 q) ∧ w'.cell? ⟨g, 8, none⟩ = some (.int .i64 al) ∧ w'.cell? ⟨g, 9, none⟩ = some (.int .i64 st) ∧ w'.cell? ⟨g, 10, none⟩ = some (.int .i64 en) ∧ w'.cell? ⟨g, 11, none⟩ = some (.int .i64 rt) ∧ w'.cell? ⟨g, 12, none⟩ = some (.int .i64 sh) ∧ w'.cell? ⟨g, 13, none⟩ = some (.slice A l.length cc) ∧ w'.cell? ⟨g, 14, none⟩ = some (.int .i64 v0) ∧ Below w.heap.size w w' := fun w' h => ⟨(hS.on h).cell 6, (hS.on h).cell 8, (hS.on h).cell 9, (hS.on h).cell 10, (hS.on h).cell 11, (hS.on h).cell 12, (hS.on h).cell 13, (hS.on h).cell 14, h⟩
  have KS := Lib.hid keepS
  have TV := Lib.hid tv; have TT := Lib.hid tt; have TF := Lib.hid tf; have TB := Lib.hid tb
  clear h1 h2 h3 tv tt tf tb hS hC keepS
  by_cases c1 : now < st
  · rw [if_pos c1, if_pos c1]
    go_enter Try.func14, Try.ntmps14
    go_wp2_with (go_at_call 30; first | ((with_reducible refine (H1.out _).mono ?_); rintro e wa ⟨rfl, hwa⟩; replace hwa := hwa.symm; subst hwa) | ((with_reducible refine (H2.out _).mono ?_); rintro e wb ⟨rfl, hwb⟩; replace hwb := hwb.symm; subst hwb) | ((with_reducible refine (H3.out _).mono ?_); rintro e wc ⟨rfl, hwc⟩; replace hwc := hwc.symm; subst hwc))
    exact bodyPost_ret (v := .tuple #[.int .i64 0, .int .i64 0]) (by simp [results, Try.results14, go_sem]) rfl ⟨rfl, Below.refl _ _⟩
  · rw [if_neg c1, if_neg c1]
    unfold tgtS
    by_cases a2 : al = 2
    · rw [if_pos a2]
      subst a2
      generalize (vwapW q l st en now).1 = r1 at *
      generalize (vwapW q l st en now).2 = r2 at *
      go_enter Try.func14, Try.ntmps14
      go_wp2_with (go_at_call 30; first | ((with_reducible refine (H1.out _).mono ?_); rintro e wa ⟨rfl, hwa⟩; replace hwa := hwa.symm; subst hwa) | ((with_reducible refine (H2.out _).mono ?_); rintro e wb ⟨rfl, hwb⟩; replace hwb := hwb.symm; subst hwb) | ((with_reducible refine (H3.out _).mono ?_); rintro e wc ⟨rfl, hwc⟩; replace hwc := hwc.symm; subst hwc))
      go_region_held3 (fun w' => w'.cell? ⟨g, 6, none⟩ = some (.int .i64 q) ∧ w'.cell? ⟨g, 8, none⟩ = some (.int .i64 2) ∧ w'.cell? ⟨g, 9, none⟩ = some (.int .i64 st) ∧ w'.cell? ⟨g, 10, none⟩ = some (.int .i64 en) ∧ w'.cell? ⟨g, 11, none⟩ = some (.int .i64 rt) ∧ w'.cell? ⟨g, 12, none⟩ = some (.int .i64 sh) ∧ w'.cell? ⟨g, 13, none⟩ = some (.slice A l.length cc) ∧ w'.cell? ⟨g, 14, none⟩ = some (.int .i64 v0) ∧ Below w.heap.size w w') (first | exact KS.out _ (by repeat (first | exact Below.refl _ _ | assumption | apply below_drew1 | apply pw_below_drewN | refine bt ?_ hb | refine bt ?_ hb.below))) (first | (go_at_call 31; (with_reducible refine (TV.out _ (by repeat (first | exact Below.refl _ _ | assumption | apply below_drew1 | apply pw_below_drewN))).mono ?_); rintro e wv ⟨rfl, hb⟩))
      all_goals (go_wp2_with fail)
      exact bodyPost_ret (v := .tuple #[.int .i64 r1, .int .i64 r2]) (by simp [results, Try.results14, go_sem]) rfl ⟨rfl, by repeat (first | exact Below.refl _ _ | exact hb | exact hb.below | apply below_drew1 | apply pw_below_drewN | refine bt ?_ hb | refine bt ?_ hb.below)⟩
    · rw [if_neg a2]
      by_cases a3 : al = 3
      · rw [if_pos a3]
        have tf := TF.out (by have := ha3 a3; omega)
        subst a3
        generalize mn ((vol - v0) * rt / 10000) q = r1 at *
        dsimp only at *
        clear TF
        have TF := Lib.hid tf
        clear tf
        go_enter Try.func14, Try.ntmps14
        go_wp2_with (go_at_call 30; first | ((with_reducible refine (H1.out _).mono ?_); rintro e wa ⟨rfl, hwa⟩; replace hwa := hwa.symm; subst hwa) | ((with_reducible refine (H2.out _).mono ?_); rintro e wb ⟨rfl, hwb⟩; replace hwb := hwb.symm; subst hwb) | ((with_reducible refine (H3.out _).mono ?_); rintro e wc ⟨rfl, hwc⟩; replace hwc := hwc.symm; subst hwc))
        go_region_held3 (fun w' => w'.cell? ⟨g, 6, none⟩ = some (.int .i64 q) ∧ w'.cell? ⟨g, 8, none⟩ = some (.int .i64 3) ∧ w'.cell? ⟨g, 9, none⟩ = some (.int .i64 st) ∧ w'.cell? ⟨g, 10, none⟩ = some (.int .i64 en) ∧ w'.cell? ⟨g, 11, none⟩ = some (.int .i64 rt) ∧ w'.cell? ⟨g, 12, none⟩ = some (.int .i64 sh) ∧ w'.cell? ⟨g, 13, none⟩ = some (.slice A l.length cc) ∧ w'.cell? ⟨g, 14, none⟩ = some (.int .i64 v0) ∧ Below w.heap.size w w') (first | exact KS.out _ (by repeat (first | exact Below.refl _ _ | assumption | apply below_drew1 | apply pw_below_drewN | refine bt ?_ hb | refine bt ?_ hb.below))) (first | (go_at_call 32; (with_reducible refine (TF.out _).mono ?_); rintro e wv ⟨rfl, hb⟩))
        all_goals (go_wp2_with fail)
        exact bodyPost_ret (v := .tuple #[.int .i64 r1, .int .i64 0]) (by simp [results, Try.results14, go_sem]) rfl ⟨rfl, by repeat (first | exact Below.refl _ _ | exact hb | exact hb.below | apply below_drew1 | apply pw_below_drewN | refine bt ?_ hb | refine bt ?_ hb.below)⟩
      · rw [if_neg a3]
        by_cases a4 : al = 4
        · rw [if_pos a4]
          have tb := TB.out (ha4 a4)
          subst a4
          generalize mn (dn + sh) q = r1 at *
          dsimp only at *
          have TB := Lib.hid tb
          clear tb
          go_enter Try.func14, Try.ntmps14
          go_wp2_with (go_at_call 30; first | ((with_reducible refine (H1.out _).mono ?_); rintro e wa ⟨rfl, hwa⟩; replace hwa := hwa.symm; subst hwa) | ((with_reducible refine (H2.out _).mono ?_); rintro e wb ⟨rfl, hwb⟩; replace hwb := hwb.symm; subst hwb) | ((with_reducible refine (H3.out _).mono ?_); rintro e wc ⟨rfl, hwc⟩; replace hwc := hwc.symm; subst hwc))
          go_region_held3 (fun w' => w'.cell? ⟨g, 6, none⟩ = some (.int .i64 q) ∧ w'.cell? ⟨g, 8, none⟩ = some (.int .i64 4) ∧ w'.cell? ⟨g, 9, none⟩ = some (.int .i64 st) ∧ w'.cell? ⟨g, 10, none⟩ = some (.int .i64 en) ∧ w'.cell? ⟨g, 11, none⟩ = some (.int .i64 rt) ∧ w'.cell? ⟨g, 12, none⟩ = some (.int .i64 sh) ∧ w'.cell? ⟨g, 13, none⟩ = some (.slice A l.length cc) ∧ w'.cell? ⟨g, 14, none⟩ = some (.int .i64 v0) ∧ Below w.heap.size w w') (first | exact KS.out _ (by repeat (first | exact Below.refl _ _ | assumption | apply below_drew1 | apply pw_below_drewN | refine bt ?_ hb | refine bt ?_ hb.below))) (first | (go_at_call 33; (with_reducible refine (TB.out _).mono ?_); rintro e wv ⟨rfl, hb⟩))
          all_goals (go_wp2_with fail)
          exact bodyPost_ret (v := .tuple #[.int .i64 r1, .int .i64 0]) (by simp [results, Try.results14, go_sem]) rfl ⟨rfl, by repeat (first | exact Below.refl _ _ | exact hb | exact hb.below | apply below_drew1 | apply pw_below_drewN | refine bt ?_ hb | refine bt ?_ hb.below)⟩
        · rw [if_neg a4]
          have b2 : (al == 2) = false := beq_eq_false_iff_ne.2 a2
          have b3 : (al == 3) = false := beq_eq_false_iff_ne.2 a3
          have b4 : (al == 4) = false := beq_eq_false_iff_ne.2 a4
          generalize (twapW q st en now).1 = r1 at *
          generalize (twapW q st en now).2 = r2 at *
          go_enter Try.func14, Try.ntmps14
          go_wp2_with (go_at_call 30; first | ((with_reducible refine (H1.out _).mono ?_); rintro e wa ⟨rfl, hwa⟩; replace hwa := hwa.symm; subst hwa) | ((with_reducible refine (H2.out _).mono ?_); rintro e wb ⟨rfl, hwb⟩; replace hwb := hwb.symm; subst hwb) | ((with_reducible refine (H3.out _).mono ?_); rintro e wc ⟨rfl, hwc⟩; replace hwc := hwc.symm; subst hwc))
          go_region_held3 (fun w' => w'.cell? ⟨g, 6, none⟩ = some (.int .i64 q) ∧ w'.cell? ⟨g, 8, none⟩ = some (.int .i64 al) ∧ w'.cell? ⟨g, 9, none⟩ = some (.int .i64 st) ∧ w'.cell? ⟨g, 10, none⟩ = some (.int .i64 en) ∧ w'.cell? ⟨g, 11, none⟩ = some (.int .i64 rt) ∧ w'.cell? ⟨g, 12, none⟩ = some (.int .i64 sh) ∧ w'.cell? ⟨g, 13, none⟩ = some (.slice A l.length cc) ∧ w'.cell? ⟨g, 14, none⟩ = some (.int .i64 v0) ∧ Below w.heap.size w w') (first | exact KS.out _ (by repeat (first | exact Below.refl _ _ | assumption | apply below_drew1 | apply pw_below_drewN | refine bt ?_ hb | refine bt ?_ hb.below))) (first | (go_at_call 34; (with_reducible refine (TT.out _).mono ?_); rintro e wv ⟨rfl, hb⟩))
          all_goals (go_wp2_with fail)
          exact bodyPost_ret (v := .tuple #[.int .i64 r1, .int .i64 r2]) (by simp [results, Try.results14, go_sem]) rfl ⟨rfl, by repeat (first | exact Below.refl _ _ | exact hb | exact hb.below | apply below_drew1 | apply pw_below_drewN | refine bt ?_ hb | refine bt ?_ hb.below)⟩
set_option maxHeartbeats 8000000 in
set_option maxRecDepth 100000 in
theorem dgoal2 (g : Nat) (k sd q p al st en rt sh v0 now vol dn lot x e0 : Int) (id tg ac sy : ByteArray) (cv : Value) (hlot : in64 lot) (w : World)
    (hS : Blk w g 44 (docC k sd q p al st en rt sh id tg ac sy cv v0))
    (hT : Calls Try.prog 14 #[.pointer (some ⟨g, 0, none⟩), .int .i64 now, .int .i64 vol, .int .i64 dn] w fun e w' => e = .returned (.tuple #[.int .i64 x, .int .i64 e0]) ∧ Below w.heap.size w w') :
    Calls Try.prog 16 #[.pointer (some ⟨g, 0, none⟩), .int .i64 now, .int .i64 vol, .int .i64 dn, .int .i64 lot] w fun e w' => e = .returned (.tuple #[.int .i64 (if e0 = 0 then (goalS x lot q).1 else 0), .int .i64 (if e0 = 0 then (goalS x lot q).2 else e0)]) ∧ Below w.heap.size w w' := by
  have hg := fun w => (U.spigotref24_Goal.calls 2 x lot q (goalS x lot q).1 (goalS x lot q).2 w (rgoal_is x lot q hlot 2 (by omega)))
  have HT := Lib.hid hT
  have HG := Lib.hid hg
  have HS := Lib.hid hS
  clear hT hg hS
  by_cases h0 : e0 = 0
  · subst h0
    rw [if_pos rfl, if_pos rfl]
    generalize (goalS x lot q).1 = r1 at *
    generalize (goalS x lot q).2 = r2 at *
    go_enter Try.func16, Try.ntmps16
    go_wp2_with (first | (go_at_call 14; (with_reducible refine HT.out.mono ?_); rintro e wi ⟨rfl, hb⟩; have y6 := (HS.out.on hb).cell 6; simp at y6) | (go_at_call 36; (with_reducible refine (HG.out _).mono ?_); rintro e wj ⟨rfl, hb2⟩))
    exact bodyPost_ret (v := .tuple #[.int .i64 r1, .int .i64 r2]) (by simp [results, Try.results16, go_sem]) rfl ⟨rfl, bt hb (by first | exact hb2 | exact hb2.below)⟩
  · rw [if_neg h0, if_neg h0]
    have he : (e0 == 0) = false := beq_eq_false_iff_ne.2 h0
    go_enter Try.func16, Try.ntmps16
    go_wp2_with (first | (go_at_call 14; (with_reducible refine HT.out.mono ?_); rintro e wi ⟨rfl, hb⟩))
    exact bodyPost_ret (v := .tuple #[.int .i64 0, .int .i64 e0]) (by simp [results, Try.results16, go_sem]) rfl ⟨rfl, hb⟩
end Go.Proofs.Ytapfidpfjbacgaa.Hand
