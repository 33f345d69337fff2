/- The slicer's targets: what is refused, what has not begun, even and along a curve. -/
import Derived.Test.YtapfidpfjbacgaaSl6
import Derived.Test.YtapfidpfjbacgaaFx0
set_option linter.unusedVariables false
set_option linter.unusedSimpArgs false
namespace Go.Proofs.Ytapfidpfjbacgaa.Hand
open Go Go.RowKit Go.Proofs.YtapfidpfjbacgaaW.PrintWords Go.Proofs.YtapfidpfjbacgaaW.PrintMore Go.Proofs.Ytapfidpfjbacgaa.RL Go.Proofs.Ytapfidpfjbacgaa.PL
set_option maxHeartbeats 8000000 in
set_option maxRecDepth 100000 in
theorem target_bad (g : Nat) (k sd q p al st en rt sh v0 now vol dn : Int) (id tg ac sy : ByteArray) (cA : Option Addr) (cn cc : Nat) (T : TypeId) (hv : Value) (hno : ¬ ((0 ≤ now ∧ now ≤ 1099511627776) ∧ (v0 ≤ vol ∧ vol ≤ 4611686018427387904) ∧ 0 ≤ dn ∧ dn ≤ q)) (w : World)
    (hS : Blk w g 56 (slC k sd q p al st en rt sh id tg ac sy (.slice cA cn cc) (.iface T hv) v0)) :
    Calls Try.prog 9 #[.pointer (some ⟨g, 0, none⟩), .int .i64 now, .int .i64 vol, .int .i64 dn] w fun e w' => e = .returned (.tuple #[.int .i64 0, .int .i64 2]) ∧ w' = w := by
  have y0 := hS.cell 0; have y1 := hS.cell 1; have y2 := hS.cell 2; have y3 := hS.cell 3; have y4 := hS.cell 4; have y5 := hS.cell 5; have y6 := hS.cell 6; have y7 := hS.cell 7; have y8 := hS.cell 8; have y9 := hS.cell 9; have y10 := hS.cell 10; have y11 := hS.cell 11; have y12 := hS.cell 12; have y13 := hS.cell 13; have y14 := hS.cell 14; have y15 := hS.cell 15
  simp at y0 y1 y2 y3 y4 y5 y6 y7 y8 y9 y10 y11 y12 y13 y14 y15
  have h1 := fun w => swithin_walk now 0 1099511627776 w
  have h2 := fun w => swithin_walk vol v0 4611686018427387904 w
  have h3 := fun w => swithin_walk dn 0 q w
  have hq : (decide (0 ≤ now ∧ now ≤ 1099511627776) && decide (v0 ≤ vol ∧ vol ≤ 4611686018427387904) && decide (0 ≤ dn ∧ dn ≤ q)) = false := by
    rw [Bool.eq_false_iff]
    intro h
    simp only [Bool.and_eq_true, decide_eq_true_eq] at h
    exact hno ⟨h.1.1, h.1.2, h.2⟩
  generalize decide (0 ≤ now ∧ now ≤ 1099511627776) = d1 at *
  generalize decide (v0 ≤ vol ∧ vol ≤ 4611686018427387904) = d2 at *
  generalize decide (0 ≤ dn ∧ dn ≤ q) = d3 at *
  have hi := fun W h => is_walk g #[] T hv W h
  have HI := Lib.hid hi; have H1 := Lib.hid h1; have H2 := Lib.hid h2; have H3 := Lib.hid h3
  clear hi h1 h2 h3 hno hS
  have hq' : d1 = false ∨ (d1 = true ∧ d2 = false) ∨ (d1 = true ∧ d2 = true ∧ d3 = false) := by cases d1 <;> cases d2 <;> cases d3 <;> simp_all
  clear hq
  rcases hq' with rfl | ⟨rfl, rfl⟩ | ⟨rfl, rfl, rfl⟩
  all_goals
    go_enter Try.func9, Try.ntmps9
    go_wp2_with (first | (go_at_call 23; (with_reducible refine (HI.out _ y14).mono ?_); rintro e wi ⟨rfl, rfl⟩) | (go_at_call 21; first | ((with_reducible refine (H1.out _).mono ?_); rintro e wa ⟨rfl, rfl⟩) | ((with_reducible refine (H2.out _).mono ?_); rintro e wb ⟨rfl, rfl⟩) | ((with_reducible refine (H3.out _).mono ?_); rintro e wc ⟨rfl, rfl⟩)))
    exact bodyPost_ret (v := .tuple #[.int .i64 0, .int .i64 2]) (by simp [results, Try.results9, go_sem]) rfl ⟨rfl, rfl⟩
set_option maxHeartbeats 8000000 in
set_option maxRecDepth 100000 in
theorem target_early (g : Nat) (k sd q p al st en rt sh v0 now vol dn : Int) (id tg ac sy : ByteArray) (cA : Option Addr) (cn cc : Nat) (T : TypeId) (hv : Value) (hb1 : 0 ≤ now ∧ now ≤ 1099511627776) (hb2 : v0 ≤ vol ∧ vol ≤ 4611686018427387904) (hb3 : 0 ≤ dn ∧ dn ≤ q) (hlt : now < st) (w : World)
    (hS : Blk w g 56 (slC k sd q p al st en rt sh id tg ac sy (.slice cA cn cc) (.iface T hv) v0)) :
    Calls Try.prog 9 #[.pointer (some ⟨g, 0, none⟩), .int .i64 now, .int .i64 vol, .int .i64 dn] w fun e w' => e = .returned (.tuple #[.int .i64 0, .int .i64 0]) ∧ w' = w := by
  have y0 := hS.cell 0; have y1 := hS.cell 1; have y2 := hS.cell 2; have y3 := hS.cell 3; have y4 := hS.cell 4; have y5 := hS.cell 5; have y6 := hS.cell 6; have y7 := hS.cell 7; have y8 := hS.cell 8; have y9 := hS.cell 9; have y10 := hS.cell 10; have y11 := hS.cell 11; have y12 := hS.cell 12; have y13 := hS.cell 13; have y14 := hS.cell 14; have y15 := hS.cell 15
  simp at y0 y1 y2 y3 y4 y5 y6 y7 y8 y9 y10 y11 y12 y13 y14 y15
  have h1 := fun w => swithin_walk now 0 1099511627776 w
  have h2 := fun w => swithin_walk vol v0 4611686018427387904 w
  have h3 := fun w => swithin_walk dn 0 q w
  rw [decide_eq_true hb1] at h1; rw [decide_eq_true hb2] at h2; rw [decide_eq_true hb3] at h3
  have hi := fun W h => is_walk g #[] T hv W h
  have HI := Lib.hid hi; have H1 := Lib.hid h1; have H2 := Lib.hid h2; have H3 := Lib.hid h3
  clear hi h1 h2 h3 hS
  go_enter Try.func9, Try.ntmps9
  go_wp2_with (first | (go_at_call 23; (with_reducible refine (HI.out _ y14).mono ?_); rintro e wi ⟨rfl, rfl⟩) | (go_at_call 21; first | ((with_reducible refine (H1.out _).mono ?_); rintro e wa ⟨rfl, rfl⟩) | ((with_reducible refine (H2.out _).mono ?_); rintro e wb ⟨rfl, rfl⟩) | ((with_reducible refine (H3.out _).mono ?_); rintro e wc ⟨rfl, rfl⟩)))
  exact bodyPost_ret (v := .tuple #[.int .i64 0, .int .i64 0]) (by simp [results, Try.results9, go_sem]) rfl ⟨rfl, rfl⟩
set_option maxHeartbeats 8000000 in
set_option maxRecDepth 100000 in
theorem target_twap (g : Nat) (k sd q p al st en rt sh v0 now vol dn : Int) (id tg ac sy : ByteArray) (cA : Option Addr) (cn cc : Nat) (r1 r2 : Int) (hb1 : 0 ≤ now ∧ now ≤ 1099511627776) (hb2 : v0 ≤ vol ∧ vol ≤ 4611686018427387904) (hb3 : 0 ≤ dn ∧ dn ≤ q) (hlt : ¬ now < st)
    (hF : ∀ w : World, Calls Try.prog 28 #[.int .i64 q, .int .i64 st, .int .i64 en, .int .i64 now] w fun e w' => e = .returned (.tuple #[.int .i64 r1, .int .i64 r2]) ∧ Below w.heap.size w w') (w : World)
    (hS : Blk w g 56 (slC k sd q p al st en rt sh id tg ac sy (.slice cA cn cc) (.iface 68 (.agg #[])) v0)) :
    Calls Try.prog 9 #[.pointer (some ⟨g, 0, none⟩), .int .i64 now, .int .i64 vol, .int .i64 dn] w fun e w' => e = .returned (.tuple #[.int .i64 r1, .int .i64 r2]) ∧ Below w.heap.size w w' := by
  have y0 := hS.cell 0; have y1 := hS.cell 1; have y2 := hS.cell 2; have y3 := hS.cell 3; have y4 := hS.cell 4; have y5 := hS.cell 5; have y6 := hS.cell 6; have y7 := hS.cell 7; have y8 := hS.cell 8; have y9 := hS.cell 9; have y10 := hS.cell 10; have y11 := hS.cell 11; have y12 := hS.cell 12; have y13 := hS.cell 13; have y14 := hS.cell 14; have y15 := hS.cell 15
  simp at y0 y1 y2 y3 y4 y5 y6 y7 y8 y9 y10 y11 y12 y13 y14 y15
  have h1 := fun w => swithin_walk now 0 1099511627776 w
  have h2 := fun w => swithin_walk vol v0 4611686018427387904 w
  have h3 := fun w => swithin_walk dn 0 q w
  rw [decide_eq_true hb1] at h1; rw [decide_eq_true hb2] at h2; rw [decide_eq_true hb3] at h3
  have hi := fun W h => is_walk g #[] 68 (.agg #[]) W h
  have ta := fun v W => as_a 68 v (.inr (.inr rfl)) W
  have tb := fun v W => as_s 68 v (.inr (.inr rfl)) W
  have tc := fun v W => as_i 68 v (.inr (.inr rfl)) W
  have HI := Lib.hid hi; have H1 := Lib.hid h1; have H2 := Lib.hid h2; have H3 := Lib.hid h3; have HF := Lib.hid hF
  have hl := hS.lt
  clear hi h1 h2 h3 hS hF
  go_enter Try.func9, Try.ntmps9
  go_wp2_with (first | (first | (go_at_call 23; (with_reducible refine (HI.out _ y14).mono ?_); rintro e wi ⟨rfl, rfl⟩) | (go_at_call 21; first | ((with_reducible refine (H1.out _).mono ?_); rintro e wa ⟨rfl, rfl⟩) | ((with_reducible refine (H2.out _).mono ?_); rintro e wb ⟨rfl, rfl⟩) | ((with_reducible refine (H3.out _).mono ?_); rintro e wc ⟨rfl, rfl⟩))) | (go_at_call 28; (with_reducible refine (HF.out _).mono ?_); rintro e wt ⟨rfl, hbt⟩))
  exact bodyPost_ret (v := .tuple #[.int .i64 r1, .int .i64 r2]) (by simp [results, Try.results9, go_sem]) rfl ⟨rfl, bt (by repeat (first | exact Below.refl _ _ | apply pw_below_drewN | refine Below.alloc ?_ (by simp <;> omega) _)) hbt⟩
set_option maxHeartbeats 8000000 in
set_option maxRecDepth 100000 in
theorem target_vwap (g : Nat) (k sd q p al st en rt sh v0 now vol dn : Int) (id tg ac sy : ByteArray) (cA : Option Addr) (cn cc : Nat) (r1 r2 : Int) (hb1 : 0 ≤ now ∧ now ≤ 1099511627776) (hb2 : v0 ≤ vol ∧ vol ≤ 4611686018427387904) (hb3 : 0 ≤ dn ∧ dn ≤ q) (hlt : ¬ now < st) (w : World)
    (hF : ∀ w' : World, Below w.heap.size w w' → Calls Try.prog 24 #[.int .i64 q, .slice cA cn cc, .int .i64 st, .int .i64 en, .int .i64 now] w' fun e w'' => e = .returned (.tuple #[.int .i64 r1, .int .i64 r2]) ∧ Below w'.heap.size w' w'')
    (hS : Blk w g 56 (slC k sd q p al st en rt sh id tg ac sy (.slice cA cn cc) (.iface 62 (.agg #[.slice cA cn cc])) v0)) :
    Calls Try.prog 9 #[.pointer (some ⟨g, 0, none⟩), .int .i64 now, .int .i64 vol, .int .i64 dn] w fun e w' => e = .returned (.tuple #[.int .i64 r1, .int .i64 r2]) ∧ Below w.heap.size w w' := by
  have y0 := hS.cell 0; have y1 := hS.cell 1; have y2 := hS.cell 2; have y3 := hS.cell 3; have y4 := hS.cell 4; have y5 := hS.cell 5; have y6 := hS.cell 6; have y7 := hS.cell 7; have y8 := hS.cell 8; have y9 := hS.cell 9; have y10 := hS.cell 10; have y11 := hS.cell 11; have y12 := hS.cell 12; have y13 := hS.cell 13; have y14 := hS.cell 14; have y15 := hS.cell 15
  simp at y0 y1 y2 y3 y4 y5 y6 y7 y8 y9 y10 y11 y12 y13 y14 y15
  have h1 := fun w => swithin_walk now 0 1099511627776 w
  have h2 := fun w => swithin_walk vol v0 4611686018427387904 w
  have h3 := fun w => swithin_walk dn 0 q w
  rw [decide_eq_true hb1] at h1; rw [decide_eq_true hb2] at h2; rw [decide_eq_true hb3] at h3
  have hi := fun W h => is_walk g #[] 62 (.agg #[.slice cA cn cc]) W h
  have ta := fun v W => as_ay v W
  have HI := Lib.hid hi; have H1 := Lib.hid h1; have H2 := Lib.hid h2; have H3 := Lib.hid h3; have HF := Lib.hid hF
  have hl := hS.lt
  have hB2 : ∀ o1 o2, Below w.heap.size w ((w.alloc o1).alloc o2) := fun o1 o2 => ((Below.refl _ _).alloc (Nat.le_refl _) _).alloc (by simp) _
  have HB2 := Lib.hid hB2
  clear hi h1 h2 h3 hS hF hB2
  go_enter Try.func9, Try.ntmps9
  go_wp2_with (first | (first | (go_at_call 23; (with_reducible refine (HI.out _ y14).mono ?_); rintro e wi ⟨rfl, rfl⟩) | (go_at_call 21; first | ((with_reducible refine (H1.out _).mono ?_); rintro e wa ⟨rfl, rfl⟩) | ((with_reducible refine (H2.out _).mono ?_); rintro e wb ⟨rfl, rfl⟩) | ((with_reducible refine (H3.out _).mono ?_); rintro e wc ⟨rfl, rfl⟩))) | (go_at_call 24; (with_reducible refine (HF.out _ (HB2.out _ _)).mono ?_); rintro e wt ⟨rfl, hbt⟩))
  exact bodyPost_ret (v := .tuple #[.int .i64 r1, .int .i64 r2]) (by simp [results, Try.results9, go_sem]) rfl ⟨rfl, bt (HB2.out _ _) hbt⟩
end Go.Proofs.Ytapfidpfjbacgaa.Hand
namespace Go.Proofs.Ytapfidpfjbacgaa.Hand
open Go Go.RowKit Go.Proofs.YtapfidpfjbacgaaW.PrintWords Go.Proofs.YtapfidpfjbacgaaW.PrintMore Go.Proofs.Ytapfidpfjbacgaa.RL Go.Proofs.Ytapfidpfjbacgaa.PL
theorem all6 : F.berg_all.f 20 [true, true, true, true, true, true] = some true := by kernel_rfl
theorem berg_in (q sh dn : Int) (h1 : 0 ≤ q ∧ q ≤ 1099511627776) (h2 : 1 ≤ sh ∧ sh ≤ 1099511627776) (h3 : 0 ≤ dn ∧ dn ≤ q) : F.berg_Target.f 20 q sh dn = some (mn (dn + sh) q, 0) := by
  unfold F.berg_Target.f
  rw [decide_eq_true (show q ≥ 0 from h1.1), decide_eq_true h1.2, decide_eq_true (show sh ≥ 1 from h2.1), decide_eq_true h2.2, decide_eq_true (show dn ≥ 0 from h3.1), decide_eq_true h3.2, all6, Option.bind_some, if_pos rfl, w64 (by omega) (by omega)]
theorem flow_in (q rt vol : Int) (h1 : 0 ≤ q ∧ q ≤ 1099511627776) (h2 : 0 ≤ rt ∧ rt ≤ 10000) (h3 : 0 ≤ vol ∧ vol ≤ 4611686018427387904) : F.flow_Target.f 8 q rt vol = some (mn (vol * rt / 10000) q, 0) := by
  have hb : ∀ a b c : Int, b ≤ a ∧ a ≤ c → F.flow_between_int.f a b c = some true := by
    intro a b c h
    unfold F.flow_between_int.f
    rw [if_pos (show a ≥ b from h.1), decide_eq_true h.2]
  have m0 : 0 ≤ vol * rt := Int.mul_nonneg h3.1 h2.1
  have m1 : vol * rt ≤ vol * 10000 := Int.mul_le_mul_of_nonneg_left h2.2 h3.1
  have f1 : fr vol rt 10000 false = (vol * rt / 10000, 0) := by
    unfold fr frac flo; rw [if_neg (by omega)]; simp only [Bool.false_eq_true, if_false]; rw [if_neg (by omega), tell_in (by unfold in64; omega)]
  unfold F.flow_Target.f
  rw [hb _ _ _ h1, Option.bind_some, if_pos rfl, hb _ _ _ h2, Option.bind_some, if_pos rfl, hb _ _ _ h3, Option.bind_some]
  simp only [F.flow_Target.j0, Bool.not_true, Bool.false_eq_true, if_false]
  rw [down_is vol rt 10000 (by unfold in64; omega) (by unfold in64; omega) (by decide), Option.bind_some, f1, if_pos rfl]
/-- The target, once it has begun. -/
def tgtS (al q st en rt sh : Int) (l : List Int) (now vol dn : Int) : Int × Int :=
  if al = 2 then vwapW q l st en now else if al = 3 then (mn (vol * rt / 10000) q, 0) else if al = 4 then (mn (dn + sh) q, 0) else twapW q st en now
theorem target_walk (g : Nat) (k sd q p al st en rt sh v0 now vol dn : Int) (id tg ac sy : ByteArray) (cA : Option Addr) (cc : Nat) (l : List Int) (hcc : l.length ≤ cc) (hq : 0 ≤ q ∧ q ≤ 1099511627776) (ha3 : al = 3 → 1 ≤ rt ∧ rt ≤ 10000) (ha4 : al = 4 → 1 ≤ sh ∧ sh ≤ 1099511627776)
    (hb1 : 0 ≤ now ∧ now ≤ 1099511627776) (hv0 : 0 ≤ v0) (hb2 : v0 ≤ vol ∧ vol ≤ 4611686018427387904) (hb3 : 0 ≤ dn ∧ dn ≤ q) (hlt : ¬ now < st) (w : World) (hC : Kd.C (Kd.int .i64) w cA l.length l)
    (hS : Blk w g 56 (slC k sd q p al st en rt sh id tg ac sy (.slice cA l.length cc) (howV al rt sh v0 cA l.length cc) v0)) :
    Calls Try.prog 9 #[.pointer (some ⟨g, 0, none⟩), .int .i64 now, .int .i64 vol, .int .i64 dn] w fun e w' => e = .returned (.tuple #[.int .i64 (tgtS al q st en rt sh l now (vol - v0) dn).1, .int .i64 (tgtS al q st en rt sh l now (vol - v0) dn).2]) ∧ Below w.heap.size w w' := by
  unfold howV at hS
  unfold tgtS
  by_cases a2 : al = 2
  · rw [if_pos a2] at hS ⊢
    exact target_vwap g k sd q p al st en rt sh v0 now vol dn id tg ac sy cA l.length cc _ _ hb1 hb2 hb3 hlt w (fun w' hb => pace_Vwap.calls q cA cc l st en now _ _ w' (Kd.C_below hC hb) hcc rfl) hS
  · rw [if_neg a2] at hS ⊢
    by_cases a3 : al = 3
    · rw [if_pos a3] at hS ⊢
      exact target_flow g k sd q p al st en rt sh v0 now vol dn _ _ id tg ac sy cA l.length cc hb1.1 hb1.2 hb2.1 hb2.2 hb3.1 hb3.2 (by omega) hv0 (fun w => F.flow_Target.calls 8 q rt (vol - v0) _ _ w (flow_in q rt (vol - v0) hq (by have := ha3 a3; omega) (by omega))) w hS
    · rw [if_neg a3] at hS ⊢
      by_cases a4 : al = 4
      · rw [if_pos a4] at hS ⊢
        exact target_berg g k sd q p al st en rt sh v0 now vol dn _ _ id tg ac sy cA l.length cc hb1.1 hb1.2 hb2.1 hb2.2 hb3.1 hb3.2 (by omega) (fun w => F.berg_Target.calls 20 q sh dn _ _ w (berg_in q sh dn hq (ha4 a4) hb3)) w hS
      · rw [if_neg a4] at hS ⊢
        exact target_twap g k sd q p al st en rt sh v0 now vol dn id tg ac sy cA l.length cc _ _ hb1 hb2 hb3 hlt (fun w => pace_Twap.calls q st en now _ _ w rfl) w hS
/-- What a new order that is let through is like. -/
theorem fresh_open {id tg ac sy : ByteArray} {sd q p al st en rt sh : Int} {l : List Int} (h : (nameV id && freshS tg ac sy sd q p al st en rt sh l) = true) :
    (1 ≤ q ∧ q ≤ 1099511627776) ∧ (0 ≤ st ∧ st ≤ 1099511627776) ∧ (0 ≤ en ∧ en ≤ 1099511627776) ∧ (1 ≤ en - st ∧ en - st ≤ 1073741824) ∧ (al = 2 → rightW l = true) ∧ (al = 3 → 1 ≤ rt ∧ rt ≤ 10000) ∧ (al = 4 → 1 ≤ sh ∧ sh ≤ 1099511627776) := by
  unfold freshS worthB at h
  simp only [Bool.and_eq_true, decide_eq_true_eq] at h
  obtain ⟨_, ⟨⟨⟨⟨_, ⟨⟨hq, _⟩, he⟩⟩, hs⟩, hspan⟩, ha⟩⟩ := h
  refine ⟨hq, hs, he, hspan, ?_, ?_, ?_⟩
  · rintro rfl
    unfold algoS at ha
    rw [if_neg (by decide), if_pos rfl] at ha
    simp only [Bool.and_eq_true] at ha
    exact ha.1.1
  · rintro rfl
    unfold algoS at ha
    rw [if_neg (by decide), if_neg (by decide), if_pos rfl] at ha
    simp only [Bool.and_eq_true, decide_eq_true_eq] at ha
    exact ha.1.2
  · rintro rfl
    unfold algoS at ha
    rw [if_neg (by decide), if_neg (by decide), if_neg (by decide), if_pos rfl] at ha
    simp only [Bool.and_eq_true, decide_eq_true_eq] at ha
    exact ha.2
end Go.Proofs.Ytapfidpfjbacgaa.Hand
