/- The document's Right of a new order, walked. -/
import Derived.Test.YtapfidpfjbacgaaSp2
import Derived.Test.YtapfidpfjbacgaaPl24r
import Derived.Test.YtapfidpfjbacgaaUx0
set_option linter.unusedVariables false
set_option linter.unusedSimpArgs false
namespace Go.Proofs.Ytapfidpfjbacgaa.Hand
open Go Go.RowKit Go.Proofs.YtapfidpfjbacgaaW.PrintWords Go.Proofs.YtapfidpfjbacgaaW.PrintMore Go.Proofs.Ytapfidpfjbacgaa.RL Go.Proofs.Ytapfidpfjbacgaa.PL
theorem rin12_walk (n lo hi : Int) (w : World) : Calls Try.prog 52 #[.int .i64 n, .int .i64 lo, .int .i64 hi] w fun e w' => e = .returned (.bool (decide (lo ≤ n ∧ n ≤ hi))) ∧ w' = w := by
  by_cases h : lo ≤ n
  · go_enter Try.func52, Try.ntmps52
    go_wp2_with fail
    go_ret
    exact ⟨by simp [h], rfl⟩
  · go_enter Try.func52, Try.ntmps52
    go_wp2_with fail
    go_ret
    exact ⟨by simp; omega, rfl⟩
theorem empty_bytes {b : ByteArray} (h : b.toList.isEmpty = true) : b = ⟨#[]⟩ := by
  rw [List.isEmpty_iff, ByteArray.toList_eq] at h
  cases b with
  | mk d =>
    have h2 : d = #[] := by simpa using h
    rw [h2]
/-- The fields of a new order that its algorithm does not use are not set. -/
def bareS (tg : ByteArray) (al rt sh : Int) (l : List Int) : Bool := tg.toList.isEmpty && decide (al = 3 ∨ rt = 0) && decide (al = 4 ∨ sh = 0) && decide (al = 2 ∨ l.length = 0)
theorem same_kept (sd q p al st en rt sh : Int) (id tg ac sy : ByteArray) (A : Option Addr) (c : Nat) (l : List Int) (hc : l.length ≤ c) (hm : l.length ≤ 1000) (w : World) (hl : Kd.C (Kd.int .i64) w A l.length l) :
    Calls Try.prog 17 #[.agg (askC 1 sd q p al st en rt sh id tg ac sy (.slice A l.length c)), .agg (askC 1 sd q p al st en (if al = 3 then rt else 0) (if al = 4 then sh else 0) id ⟨#[]⟩ ac sy (if al = 2 then .slice A l.length c else .slice none 0 0))] w fun e w' => e = .returned (.bool (bareS tg al rt sh l)) ∧ Below w.heap.size w w' := by
  unfold bareS
  cases htg : tg.toList.isEmpty with
  | false =>
    by_cases a2 : al = 2
    · rw [if_pos a2]
      exact (same12_no 1 sd q p al st en rt sh _ _ id tg ac sy A A l.length c l.length c htg w).mono fun e w' h => ⟨by rw [h.1]; simp, h.2⟩
    · rw [if_neg a2]
      exact (same12_no 1 sd q p al st en rt sh _ _ id tg ac sy A none l.length c 0 0 htg w).mono fun e w' h => ⟨by rw [h.1]; simp, h.2⟩
  | true =>
    obtain rfl := empty_bytes htg
    have e1 : decide (rt = (if al = 3 then rt else 0)) = decide (al = 3 ∨ rt = 0) := by
      rw [decide_eq_decide]; by_cases h : al = 3
      · rw [if_pos h]; simp [h]
      · rw [if_neg h]; simp [h]
    have e2 : decide (sh = (if al = 4 then sh else 0)) = decide (al = 4 ∨ sh = 0) := by
      rw [decide_eq_decide]; by_cases h : al = 4
      · rw [if_pos h]; simp [h]
      · rw [if_neg h]; simp [h]
    by_cases a2 : al = 2
    · have hS := fun w' (hb : Below w.heap.size w w') => same03_walk A A c c l l w' (Kd.C_below hl hb) (Kd.C_below hl hb) hc hc hm
      rw [if_pos a2]
      refine (same12_walk 1 sd q p al st en rt sh _ _ id _ ac sy A A l.length c l.length c _ w hS).mono fun e w' h => ⟨?_, h.2⟩
      rw [h.1, e1, e2]
      simp [a2]
    · have hS := fun w' (hb : Below w.heap.size w w') => same03_walk A none c 0 l [] w' (Kd.C_below hl hb) ⟨rfl, by decide, fun h => absurd h (by decide)⟩ hc (by decide) hm
      rw [if_neg a2]
      refine (same12_walk 1 sd q p al st en rt sh _ _ id _ ac sy A none l.length c 0 0 _ w hS).mono fun e w' h => ⟨?_, h.2⟩
      rw [h.1, e1, e2]
      simp [a2]
set_option maxHeartbeats 4000000 in
set_option maxRecDepth 100000 in
theorem whole_walk (sd q p al st en rt sh : Int) (id tg ac sy : ByteArray) (A : Option Addr) (c : Nat) (l : List Int) (hc : l.length ≤ c) (h1 : 0 ≤ st ∧ st ≤ 1099511627776) (h2 : 0 ≤ en ∧ en ≤ 1099511627776) (w : World) (hl : Kd.C (Kd.int .i64) w A l.length l) :
    Calls Try.prog 55 #[.agg (askC 1 sd q p al st en rt sh id tg ac sy (.slice A l.length c))] w fun e w' => (∃ t : Int, e = .returned (.tuple #[.int .i64 t, .int .i64 (if 1 ≤ en - st ∧ en - st ≤ 1073741824 then (if al = 2 then (if rightW l = true then 0 else 30) else 0) else 282)])) ∧ Below w.heap.size w w' := by
  have hr := fun w' (hb : Below w.heap.size w w') => (U.spigotref03_Right.calls 80 A c l (rightW l) w' (Kd.C_below hl hb) hc (right_is l 80 (by omega)))
  have hi := fun w => rin12_walk (en - st) 1 1073741824 w
  have hbl := (Below.refl w.heap.size w).alloc (Nat.le_refl _) (.cells (askC 1 sd q p al st en rt sh id tg ac sy (.slice A l.length c)) 40)
  generalize rightW l = b at *
  have HR := Lib.hid hr; have HB := Lib.hid hbl
  clear hr hl hbl
  by_cases g : 1 ≤ en - st ∧ en - st ≤ 1073741824
  · rw [decide_eq_true g] at hi
    have HI := Lib.hid hi
    clear hi
    rw [if_pos g]
    by_cases a2 : al = 2
    · subst a2
      rw [if_pos rfl]
      cases b with
      | true =>
        go_enter Try.func55, Try.ntmps55
        go_wp2_with (first | (go_at_call 52; (with_reducible refine (HI.out _).mono ?_); rintro e wa ⟨rfl, rfl⟩) | (go_at_call 57; (with_reducible refine (HR.out _ HB.out).mono ?_); rintro e wi ⟨rfl, hb⟩))
        exact bodyPost_ret (v := .tuple #[.int .i64 0, .int .i64 0]) (by simp [results, Try.results55, go_sem]) rfl ⟨⟨0, rfl⟩, bt HB.out hb.below⟩
      | false =>
        go_enter Try.func55, Try.ntmps55
        go_wp2_with (first | (go_at_call 52; (with_reducible refine (HI.out _).mono ?_); rintro e wa ⟨rfl, rfl⟩) | (go_at_call 57; (with_reducible refine (HR.out _ HB.out).mono ?_); rintro e wi ⟨rfl, hb⟩))
        exact bodyPost_ret (v := .tuple #[.int .i64 5006, .int .i64 30]) (by simp [results, Try.results55, go_sem]) rfl ⟨⟨5006, rfl⟩, bt HB.out hb.below⟩
    · rw [if_neg a2]
      go_enter Try.func55, Try.ntmps55
      go_wp2_with (first | (go_at_call 52; (with_reducible refine (HI.out _).mono ?_); rintro e wa ⟨rfl, rfl⟩))
      exact bodyPost_ret (v := .tuple #[.int .i64 0, .int .i64 0]) (by simp [results, Try.results55, go_sem]) rfl ⟨⟨0, rfl⟩, HB.out⟩
  · rw [decide_eq_false g] at hi
    have HI := Lib.hid hi
    clear hi
    rw [if_neg g]
    go_enter Try.func55, Try.ntmps55
    go_wp2_with (first | (go_at_call 52; (with_reducible refine (HI.out _).mono ?_); rintro e wa ⟨rfl, rfl⟩))
    exact bodyPost_ret (v := .tuple #[.int .i64 5003, .int .i64 282]) (by simp [results, Try.results55, go_sem]) rfl ⟨⟨5003, rfl⟩, HB.out⟩
/-- The document's word on a new order, in its own order. -/
theorem doc_right (id tg ac sy : ByteArray) (sd q p al st en rt sh : Int) (l : List Int) :
    (bareS tg al rt sh l && (nameV id && ((decide (1 ≤ q ∧ q ≤ 1099511627776) && decide (1 ≤ p ∧ p ≤ 1099511627776) && decide (0 ≤ en ∧ en ≤ 1099511627776)) && (nameV ac && (nameV sy && ((decide (1 ≤ sd ∧ sd ≤ 2) && decide (1 ≤ al ∧ al ≤ 4) && decide (0 ≤ st ∧ st ≤ 1099511627776)) && ((decide (al = 3 → 1 ≤ rt ∧ rt ≤ 10000) && decide (al = 4 → 1 ≤ sh ∧ sh ≤ 1099511627776)) && decide ((if 1 ≤ en - st ∧ en - st ≤ 1073741824 then (if al = 2 then (if rightW l = true then 0 else 30) else 0) else (282 : Int)) = 0)))))))) = (nameV id && freshS tg ac sy sd q p al st en rt sh l) := by
  unfold bareS freshS worthB algoS
  generalize nameV id = n1
  generalize nameV ac = n2
  generalize nameV sy = n3
  generalize tg.toList.isEmpty = n4
  generalize rightW l = n5
  generalize l.length = n
  cases n1 <;> cases n2 <;> cases n3 <;> cases n4 <;> try (simp; done)
  rw [Bool.eq_iff_iff]
  by_cases a1 : al = 1
  · subst a1; simp; omega
  · by_cases a2 : al = 2
    · subst a2; cases n5 <;> simp <;> omega
    · by_cases a3 : al = 3
      · subst a3; simp; omega
      · by_cases a4 : al = 4
        · subst a4; simp; omega
        · rw [if_neg a1, if_neg a2, if_neg a3, if_neg a4]; simp; omega
set_option maxHeartbeats 8000000 in
set_option maxRecDepth 100000 in
theorem right12_walk (sd q p al st en rt sh : Int) (id tg ac sy : ByteArray) (A : Option Addr) (c : Nat) (l : List Int) (hc : l.length ≤ c) (hm : l.length ≤ 1000) (s1 : id.size ≤ 1000) (s2 : ac.size ≤ 1000) (s3 : sy.size ≤ 1000) (w : World) (hl : Kd.C (Kd.int .i64) w A l.length l) :
    Calls Try.prog 29 #[.agg (askC 1 sd q p al st en rt sh id tg ac sy (.slice A l.length c))] w fun e w' => e = .returned (.bool (nameV id && freshS tg ac sy sd q p al st en rt sh l)) ∧ Below w.heap.size w w' := by
  rw [← doc_right]
  have hX := Blk.new w 40 (askC 1 sd q p al st en rt sh id tg ac sy (.slice A l.length c))
  have hB := (Below.refl w.heap.size w).alloc (Nat.le_refl _) (.cells (askC 1 sd q p al st en rt sh id tg ac sy (.slice A l.length c)) 40)
  have k1 := fun w => rin12_walk 1 1 5 w
  rw [decide_eq_true (by decide)] at k1
  have k2 := fun w => kept_walk sd q p al st en rt sh id tg ac sy A l.length c w
  have k3 := fun w' (hb : Below w.heap.size w w') => same_kept sd q p al st en rt sh id tg ac sy A c l hc hm w' (Kd.C_below hl hb)
  have v1 := fun w => dvalid_walk id s1 w
  have v2 := fun w => dvalid_walk ac s2 w
  have v3 := fun w => dvalid_walk sy s3 w
  have i1 := fun w => rin12_walk q 1 1099511627776 w
  have i2 := fun w => rin12_walk p 1 1099511627776 w
  have i3 := fun w => rin12_walk en 0 1099511627776 w
  have i4 := fun w => rin12_walk sd 1 2 w
  have i5 := fun w => rin12_walk al 1 4 w
  have i6 := fun w => rin12_walk st 0 1099511627776 w
  have i7 := fun w => rin12_walk rt 1 10000 w
  have i8 := fun w => rin12_walk sh 1 1099511627776 w
  have hW := fun (a1 : decide (0 ≤ st ∧ st ≤ 1099511627776) = true) (a2 : decide (0 ≤ en ∧ en ≤ 1099511627776) = true) w' (hb : Below w.heap.size w w') => whole_walk sd q p al st en rt sh id tg ac sy A c l hc (of_decide_eq_true a1) (of_decide_eq_true a2) w' (Kd.C_below hl hb)
  have r3 : al = 3 → decide (al = 3 → 1 ≤ rt ∧ rt ≤ 10000) = decide (1 ≤ rt ∧ rt ≤ 10000) := fun h => by rw [decide_eq_decide]; simp [h]
  have r3n : al ≠ 3 → decide (al = 3 → 1 ≤ rt ∧ rt ≤ 10000) = true := fun h => decide_eq_true (fun a => absurd a h)
  have r4 : al = 4 → decide (al = 4 → 1 ≤ sh ∧ sh ≤ 1099511627776) = decide (1 ≤ sh ∧ sh ≤ 1099511627776) := fun h => by rw [decide_eq_decide]; simp [h]
  have r4n : al ≠ 4 → decide (al = 4 → 1 ≤ sh ∧ sh ≤ 1099511627776) = true := fun h => decide_eq_true (fun a => absurd a h)
  generalize (if al = 3 then rt else 0) = rt2 at k2 k3
  generalize (if al = 4 then sh else 0) = sh2 at k2 k3
  generalize (if al = 2 then Value.slice A l.length c else Value.slice none 0 0) = cv2 at k2 k3
  generalize (if 1 ≤ en - st ∧ en - st ≤ 1073741824 then (if al = 2 then (if rightW l = true then 0 else 30) else 0) else (282 : Int)) = we at *
  generalize decide (al = 3 → 1 ≤ rt ∧ rt ≤ 10000) = e3 at *
  generalize decide (al = 4 → 1 ≤ sh ∧ sh ≤ 1099511627776) = e4 at *
  generalize bareS tg al rt sh l = d1 at *
  generalize nameV id = d2 at *
  generalize nameV ac = d6 at *
  generalize nameV sy = d7 at *
  generalize decide (1 ≤ q ∧ q ≤ 1099511627776) = d3 at *
  generalize decide (1 ≤ p ∧ p ≤ 1099511627776) = d4 at *
  generalize decide (0 ≤ en ∧ en ≤ 1099511627776) = d5 at *
  generalize decide (1 ≤ sd ∧ sd ≤ 2) = d8 at *
  generalize decide (1 ≤ al ∧ al ≤ 4) = d9 at *
  generalize decide (0 ≤ st ∧ st ≤ 1099511627776) = d10 at *
  generalize decide (1 ≤ rt ∧ rt ≤ 10000) = d11 at *
  generalize decide (1 ≤ sh ∧ sh ≤ 1099511627776) = d12 at *
  have K1 := Lib.hid k1; have K2 := Lib.hid k2; have V1 := Lib.hid v1; have V2 := Lib.hid v2; have V3 := Lib.hid v3
  have I1 := Lib.hid i1; have I2 := Lib.hid i2; have I3 := Lib.hid i3; have I4 := Lib.hid i4; have I5 := Lib.hid i5; have I6 := Lib.hid i6; have I7 := Lib.hid i7; have I8 := Lib.hid i8
  have R3 := Lib.hid r3; have R3n := Lib.hid r3n; have R4 := Lib.hid r4; have R4n := Lib.hid r4n
  clear k1 k2 v1 v2 v3 i1 i2 i3 i4 i5 i6 i7 i8 r3 r3n r4 r4n s1 s2 s3
  have hl0 := Kd.C_below hl hB
  have k3 := fun w' hb => k3 w' (bt hB hb)
  have hW := fun a1 a2 w' hb => hW a1 a2 w' (bt hB hb)
  go_enter Try.func29, Try.ntmps29
  go_wp2_with fail
  generalize w.alloc (.cells (askC 1 sd q p al st en rt sh id tg ac sy (.slice A l.length c)) 40) = w0 at *
  have K3 := Lib.hid k3; have HW := Lib.hid hW
  clear k3 hW hl hl0 hc hm
  have keepS : ∀ w', Below w0.heap.size w0 w' → w'.cell? ⟨w.heap.size, 0, none⟩ = some (.int .i64 1) ∧ w'.cell? ⟨w.heap.size, 1, none⟩ = some (.string id) ∧ w'.cell? ⟨w.heap.size, 2, none⟩ = some (.string tg) ∧ w'.cell? ⟨w.heap.size, 3, none⟩ = some (.string ac) ∧ w'.cell? ⟨w.heap.size, 4, none⟩ = some (.string sy) ∧ w'.cell? ⟨w.heap.size, 5, none⟩ = some (.int .i64 sd) ∧ w'.cell? ⟨w.heap.size, 6, none⟩ = some (.int .i64 q) ∧ w'.cell? ⟨w.heap.size, 7, none⟩ = some (.int .i64 p) ∧ w'.cell? ⟨w.heap.size, 8, none⟩ = some (.int .i64 al) ∧ w'.cell? ⟨w.heap.size, 9, none⟩ = some (.int .i64 st) ∧ w'.cell? ⟨w.heap.size, 10, none⟩ = some (.int .i64 en) ∧ w'.cell? ⟨w.heap.size, 11, none⟩ = some (.int .i64 rt) ∧ w'.cell? ⟨w.heap.size, 12, none⟩ = some (.int .i64 sh) ∧ w'.cell? ⟨w.heap.size, 13, none⟩ = some (.slice A l.length c) ∧ Below w0.heap.size w0 w' := fun w' h => ⟨(hX.on h).cell 0, (hX.on h).cell 1, (hX.on h).cell 2, (hX.on h).cell 3, (hX.on h).cell 4, (hX.on h).cell 5, (hX.on h).cell 6, (hX.on h).cell 7, (hX.on h).cell 8, (hX.on h).cell 9, (hX.on h).cell 10, (hX.on h).cell 11, (hX.on h).cell 12, (hX.on h).cell 13, h⟩
  have KS := Lib.hid keepS
  obtain ⟨y0, y1, y2, y3, y4, y5, y6, y7, y8, y9, y10, y11, y12, y13, _⟩ := keepS w0 (Below.refl _ _)
  clear keepS hX
  have hq1 : d1 = false ∨ (d1 = true ∧ d2 = false) ∨ (d1 = true ∧ d2 = true) := by cases d1 <;> cases d2 <;> simp
  rcases hq1 with rfl | ⟨rfl, rfl⟩ | ⟨rfl, rfl⟩
  · first | go_region_with (first | (go_at_call 52; (with_reducible refine (K1.out _).mono ?_); rintro e wa ⟨rfl, rfl⟩) | (go_at_call 53; (with_reducible refine (K2.out _).mono ?_); rintro e wb ⟨rfl, hb1⟩; obtain ⟨z0, z1, z2, z3, z4, z5, z6, z7, z8, z9, z10, z11, z12, z13, _⟩ := KS.out wb (by repeat (first | exact Below.refl _ _ | assumption | apply below_drew1 | apply pw_below_drewN | refine bt ?_ hb1))) | (go_at_call 17; (with_reducible refine (K3.out _ (by repeat (first | exact Below.refl _ _ | assumption | apply below_drew1 | apply pw_below_drewN | refine bt ?_ hb1))).mono ?_); rintro e wc ⟨rfl, hb2⟩) | (go_at_call 54; (with_reducible refine (V1.out _).mono ?_); rintro e wd ⟨rfl, hb3⟩)) | fail "x"
    all_goals (go_wp2_with fail)
    all_goals go_ret
    all_goals exact ⟨rfl, bt hB (by repeat (first | exact Below.refl _ _ | assumption | apply below_drew1 | apply pw_below_drewN | refine bt ?_ hb1 | refine bt ?_ hb2 | refine bt ?_ hb3))⟩
  all_goals go_region_held3 (fun w' => w'.cell? ⟨w.heap.size, 0, none⟩ = some (.int .i64 1) ∧ w'.cell? ⟨w.heap.size, 1, none⟩ = some (.string id) ∧ w'.cell? ⟨w.heap.size, 2, none⟩ = some (.string tg) ∧ w'.cell? ⟨w.heap.size, 3, none⟩ = some (.string ac) ∧ w'.cell? ⟨w.heap.size, 4, none⟩ = some (.string sy) ∧ w'.cell? ⟨w.heap.size, 5, none⟩ = some (.int .i64 sd) ∧ w'.cell? ⟨w.heap.size, 6, none⟩ = some (.int .i64 q) ∧ w'.cell? ⟨w.heap.size, 7, none⟩ = some (.int .i64 p) ∧ w'.cell? ⟨w.heap.size, 8, none⟩ = some (.int .i64 al) ∧ w'.cell? ⟨w.heap.size, 9, none⟩ = some (.int .i64 st) ∧ w'.cell? ⟨w.heap.size, 10, none⟩ = some (.int .i64 en) ∧ w'.cell? ⟨w.heap.size, 11, none⟩ = some (.int .i64 rt) ∧ w'.cell? ⟨w.heap.size, 12, none⟩ = some (.int .i64 sh) ∧ w'.cell? ⟨w.heap.size, 13, none⟩ = some (.slice A l.length c) ∧ Below w0.heap.size w0 w') (first | exact KS.out _ (by repeat (first | exact Below.refl _ _ | assumption | apply below_drew1 | apply pw_below_drewN | refine bt ?_ hb1 | refine bt ?_ hb2 | refine bt ?_ hb3))) (first | (go_at_call 52; (with_reducible refine (K1.out _).mono ?_); rintro e wa ⟨rfl, rfl⟩) | (go_at_call 53; (with_reducible refine (K2.out _).mono ?_); rintro e wb ⟨rfl, hb1⟩) | (go_at_call 17; (with_reducible refine (K3.out _ (by repeat (first | exact Below.refl _ _ | assumption | apply below_drew1 | apply pw_below_drewN | refine bt ?_ hb1))).mono ?_); rintro e wc ⟨rfl, hb2⟩) | (go_at_call 54; (with_reducible refine (V1.out _).mono ?_); rintro e wd ⟨rfl, hb3⟩))
  · go_wp2_with fail
    go_ret
    exact ⟨rfl, bt hB (by repeat (first | exact Below.refl _ _ | assumption | apply below_drew1 | apply pw_below_drewN | refine bt ?_ hb1 | refine bt ?_ hb2 | refine bt ?_ hb3))⟩
  · have hbd : Below w0.heap.size w0 wd := by repeat (first | exact Below.refl _ _ | assumption | apply below_drew1 | apply pw_below_drewN | refine bt ?_ hb1 | refine bt ?_ hb2 | refine bt ?_ hb3)
    have hB := bt hB hbd
    clear hb1 hb2 hb3 y0 y1 y2 y3 y4 y5 y6 y7 y8 y9 y10 y11 y12 y13
    obtain ⟨y0, y1, y2, y3, y4, y5, y6, y7, y8, y9, y10, y11, y12, y13, _⟩ := KS.out wd hbd
    have hq2 : d3 = false ∨ (d3 = true ∧ d4 = false) ∨ (d3 = true ∧ d4 = true ∧ d5 = false) ∨ (d3 = true ∧ d4 = true ∧ d5 = true) := by cases d3 <;> cases d4 <;> cases d5 <;> simp
    rcases hq2 with rfl | ⟨rfl, rfl⟩ | ⟨rfl, rfl, rfl⟩ | ⟨rfl, rfl, rfl⟩
    all_goals go_wp2_with (go_at_call 52; first | ((with_reducible refine (I1.out _).mono ?_); rintro e wa ⟨rfl, rfl⟩) | ((with_reducible refine (I2.out _).mono ?_); rintro e wa ⟨rfl, rfl⟩) | ((with_reducible refine (I3.out _).mono ?_); rintro e wa ⟨rfl, rfl⟩))
    · go_ret
      exact ⟨rfl, hB⟩
    · go_ret
      exact ⟨rfl, hB⟩
    · go_ret
      exact ⟨rfl, hB⟩
    · refine (V2.out _).mono ?_
      rintro e w4 ⟨rfl, hb4⟩
      have hbd := bt hbd hb4
      have hB := bt hB hb4
      clear hb4 y0 y1 y2 y3 y4 y5 y6 y7 y8 y9 y10 y11 y12 y13
      obtain ⟨y0, y1, y2, y3, y4, y5, y6, y7, y8, y9, y10, y11, y12, y13, _⟩ := KS.out w4 hbd
      cases d6 with
      | false =>
        go_wp2_with fail
        go_ret
        exact ⟨rfl, hB⟩
      | true =>
        go_wp2_with fail
        refine (V3.out _).mono ?_
        rintro e w5 ⟨rfl, hb5⟩
        have hbd := bt hbd hb5
        have hB := bt hB hb5
        clear hb5 y0 y1 y2 y3 y4 y5 y6 y7 y8 y9 y10 y11 y12 y13
        obtain ⟨y0, y1, y2, y3, y4, y5, y6, y7, y8, y9, y10, y11, y12, y13, _⟩ := KS.out w5 hbd
        cases d7 with
        | false =>
          go_wp2_with fail
          go_ret
          exact ⟨rfl, hB⟩
        | true =>
          have hq3 : d8 = false ∨ (d8 = true ∧ d9 = false) ∨ (d8 = true ∧ d9 = true ∧ d10 = false) ∨ (d8 = true ∧ d9 = true ∧ d10 = true) := by cases d8 <;> cases d9 <;> cases d10 <;> simp
          rcases hq3 with rfl | ⟨rfl, rfl⟩ | ⟨rfl, rfl, rfl⟩ | ⟨rfl, rfl, rfl⟩
          · go_wp2_with (go_at_call 52; first | ((with_reducible refine (I4.out _).mono ?_); rintro e wa ⟨rfl, rfl⟩) | ((with_reducible refine (I5.out _).mono ?_); rintro e wa ⟨rfl, rfl⟩) | ((with_reducible refine (I6.out _).mono ?_); rintro e wa ⟨rfl, rfl⟩) | ((with_reducible refine (I7.out _).mono ?_); rintro e wa ⟨rfl, rfl⟩) | ((with_reducible refine (I8.out _).mono ?_); rintro e wa ⟨rfl, rfl⟩))
            go_ret
            exact ⟨rfl, hB⟩
          · go_wp2_with (go_at_call 52; first | ((with_reducible refine (I4.out _).mono ?_); rintro e wa ⟨rfl, rfl⟩) | ((with_reducible refine (I5.out _).mono ?_); rintro e wa ⟨rfl, rfl⟩) | ((with_reducible refine (I6.out _).mono ?_); rintro e wa ⟨rfl, rfl⟩) | ((with_reducible refine (I7.out _).mono ?_); rintro e wa ⟨rfl, rfl⟩) | ((with_reducible refine (I8.out _).mono ?_); rintro e wa ⟨rfl, rfl⟩))
            go_ret
            exact ⟨rfl, hB⟩
          · go_wp2_with (go_at_call 52; first | ((with_reducible refine (I4.out _).mono ?_); rintro e wa ⟨rfl, rfl⟩) | ((with_reducible refine (I5.out _).mono ?_); rintro e wa ⟨rfl, rfl⟩) | ((with_reducible refine (I6.out _).mono ?_); rintro e wa ⟨rfl, rfl⟩) | ((with_reducible refine (I7.out _).mono ?_); rintro e wa ⟨rfl, rfl⟩) | ((with_reducible refine (I8.out _).mono ?_); rintro e wa ⟨rfl, rfl⟩))
            go_ret
            exact ⟨rfl, hB⟩
          · by_cases a3 : al = 3
            · have e3' := R3.out a3
              have e4' := R4n.out (by omega)
              subst a3
              subst e3' e4'
              clear R3 R4 R3n R4n
              cases e3 with
              | false =>
                go_wp2_with (go_at_call 52; first | ((with_reducible refine (I4.out _).mono ?_); rintro e wa ⟨rfl, rfl⟩) | ((with_reducible refine (I5.out _).mono ?_); rintro e wa ⟨rfl, rfl⟩) | ((with_reducible refine (I6.out _).mono ?_); rintro e wa ⟨rfl, rfl⟩) | ((with_reducible refine (I7.out _).mono ?_); rintro e wa ⟨rfl, rfl⟩) | ((with_reducible refine (I8.out _).mono ?_); rintro e wa ⟨rfl, rfl⟩))
                go_ret
                exact ⟨rfl, hB⟩
              | true =>
                go_wp2_with (go_at_call 52; first | ((with_reducible refine (I4.out _).mono ?_); rintro e wa ⟨rfl, rfl⟩) | ((with_reducible refine (I5.out _).mono ?_); rintro e wa ⟨rfl, rfl⟩) | ((with_reducible refine (I6.out _).mono ?_); rintro e wa ⟨rfl, rfl⟩) | ((with_reducible refine (I7.out _).mono ?_); rintro e wa ⟨rfl, rfl⟩) | ((with_reducible refine (I8.out _).mono ?_); rintro e wa ⟨rfl, rfl⟩))
                refine (HW.out (by trivial) (by trivial) _ hbd).mono ?_
                rintro e w6 ⟨⟨t, rfl⟩, hb6⟩
                have hB := bt hB hb6
                clear y0 y1 y2 y3 y4 y5 y6 y7 y8 y9 y10 y11 y12 y13
                by_cases hwe : we = 0
                · subst hwe
                  go_wp2_with fail
                  go_ret
                  exact ⟨by simp, hB⟩
                · have hwb : (we == 0) = false := beq_eq_false_iff_ne.2 hwe
                  go_wp2_with fail
                  go_ret
                  exact ⟨by simp [hwe], hB⟩
            · by_cases a4 : al = 4
              · have e4' := R4.out a4
                have e3' := R3n.out (by omega)
                subst a4
                subst e3' e4'
                clear R3 R4 R3n R4n
                cases e4 with
                | false =>
                  go_wp2_with (go_at_call 52; first | ((with_reducible refine (I4.out _).mono ?_); rintro e wa ⟨rfl, rfl⟩) | ((with_reducible refine (I5.out _).mono ?_); rintro e wa ⟨rfl, rfl⟩) | ((with_reducible refine (I6.out _).mono ?_); rintro e wa ⟨rfl, rfl⟩) | ((with_reducible refine (I7.out _).mono ?_); rintro e wa ⟨rfl, rfl⟩) | ((with_reducible refine (I8.out _).mono ?_); rintro e wa ⟨rfl, rfl⟩))
                  go_ret
                  exact ⟨rfl, hB⟩
                | true =>
                  go_wp2_with (go_at_call 52; first | ((with_reducible refine (I4.out _).mono ?_); rintro e wa ⟨rfl, rfl⟩) | ((with_reducible refine (I5.out _).mono ?_); rintro e wa ⟨rfl, rfl⟩) | ((with_reducible refine (I6.out _).mono ?_); rintro e wa ⟨rfl, rfl⟩) | ((with_reducible refine (I7.out _).mono ?_); rintro e wa ⟨rfl, rfl⟩) | ((with_reducible refine (I8.out _).mono ?_); rintro e wa ⟨rfl, rfl⟩))
                  refine (HW.out (by trivial) (by trivial) _ hbd).mono ?_
                  rintro e w6 ⟨⟨t, rfl⟩, hb6⟩
                  have hB := bt hB hb6
                  clear y0 y1 y2 y3 y4 y5 y6 y7 y8 y9 y10 y11 y12 y13
                  by_cases hwe : we = 0
                  · subst hwe
                    go_wp2_with fail
                    go_ret
                    exact ⟨by simp, hB⟩
                  · have hwb : (we == 0) = false := beq_eq_false_iff_ne.2 hwe
                    go_wp2_with fail
                    go_ret
                    exact ⟨by simp [hwe], hB⟩
              · have e3' := R3n.out a3
                have e4' := R4n.out a4
                subst e3' e4'
                clear R3 R4 R3n R4n
                have b3 : (al == 3) = false := beq_eq_false_iff_ne.2 a3
                have b4 : (al == 4) = false := beq_eq_false_iff_ne.2 a4
                go_wp2_with (go_at_call 52; first | ((with_reducible refine (I4.out _).mono ?_); rintro e wa ⟨rfl, rfl⟩) | ((with_reducible refine (I5.out _).mono ?_); rintro e wa ⟨rfl, rfl⟩) | ((with_reducible refine (I6.out _).mono ?_); rintro e wa ⟨rfl, rfl⟩) | ((with_reducible refine (I7.out _).mono ?_); rintro e wa ⟨rfl, rfl⟩) | ((with_reducible refine (I8.out _).mono ?_); rintro e wa ⟨rfl, rfl⟩))
                refine (HW.out (by trivial) (by trivial) _ hbd).mono ?_
                rintro e w6 ⟨⟨t, rfl⟩, hb6⟩
                have hB := bt hB hb6
                clear y0 y1 y2 y3 y4 y5 y6 y7 y8 y9 y10 y11 y12 y13
                by_cases hwe : we = 0
                · subst hwe
                  go_wp2_with fail
                  go_ret
                  exact ⟨by simp, hB⟩
                · have hwb : (we == 0) = false := beq_eq_false_iff_ne.2 hwe
                  go_wp2_with fail
                  go_ret
                  exact ⟨by simp [hwe], hB⟩
end Go.Proofs.Ytapfidpfjbacgaa.Hand
