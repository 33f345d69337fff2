/- SlicerRises: a target is from nothing to all, and never falls as time goes by, the market trades, or more is done; what was handed in may be written over; no condition. -/
import Derived.Test.YtapfidpfjbacgaaSl9
import Derived.Test.YtapfidpfjbacgaaRowKit
set_option linter.unusedVariables false
set_option linter.unusedSimpArgs false
namespace Go.Proofs.Ytapfidpfjbacgaa.Walk
open Go Go.RowKit Go.Proofs.Ytapfidpfjbacgaa.Row Go.Proofs.YtapfidpfjbacgaaW.PrintWords Go.Proofs.YtapfidpfjbacgaaW.PrintMore Go.Proofs.Ytapfidpfjbacgaa.Hand Go.Proofs.Ytapfidpfjbacgaa.PL Go.Proofs.Ytapfidpfjbacgaa.RL
set_option maxHeartbeats 4000000 in
set_option maxRecDepth 100000 in
theorem few27 (k sd q p al st en rt sh : Int) (id tg ac sy : ByteArray) (A : Option Addr) (c : Nat) (l : List Int) (w : World) :
    Calls Try.prog 7 #[.agg #[.int .i64 k, .string id, .string tg, .string ac, .string sy, .int .i64 sd, .int .i64 q, .int .i64 p, .int .i64 al, .int .i64 st, .int .i64 en, .int .i64 rt, .int .i64 sh, .slice A l.length c]] w fun e w' => ∃ b : Bool, e = .returned (.bool b) ∧ (b = true → l.length ≤ 100) ∧ Below w.heap.size w w' := by
  obtain ⟨b, hb⟩ : ∃ b : Bool, b = (decide ((id.size : Int) ≤ 100) && decide ((ac.size : Int) ≤ 100) && decide ((sy.size : Int) ≤ 100) && decide ((l.length : Int) ≤ 100) && decide ((tg.size : Int) ≤ 100)) := ⟨_, rfl⟩
  have hB := Lib.hid ((Below.refl w.heap.size w).alloc (Nat.le_refl _) (.cells #[.int .i64 k, .string id, .string tg, .string ac, .string sy, .int .i64 sd, .int .i64 q, .int .i64 p, .int .i64 al, .int .i64 st, .int .i64 en, .int .i64 rt, .int .i64 sh, .slice A l.length c] 24))
  have hh : Hid (∀ (e : Ending) (w' : World), (e = .returned (.bool b) ∧ Below w.heap.size w w') → ∃ b : Bool, e = .returned (.bool b) ∧ (b = true → l.length ≤ 100) ∧ Below w.heap.size w w') := Lib.hid fun e w' h => ⟨b, h.1, fun q => by rw [hb] at q; simp at q; omega, h.2⟩
  refine Calls.mono ?_ (fun e w' h => hh.out e w' h)
  clear hh
  have HB := Lib.hid hb
  clear hb
  go_enter Try.func7, Try.ntmps7
  go_wp2_with fail
  all_goals go_ret
  all_goals exact ⟨by (rw [HB.out]; simp <;> omega), hB.out⟩
theorem three_blk (w : World) (t0 t1 t2 : TypeId) (C0 C1 C2 : Array Value) :
    Blk (((w.alloc (.cells C0 t0)).alloc (.cells C1 t1)).alloc (.cells C2 t2)) w.heap.size t0 C0 ∧ Blk (((w.alloc (.cells C0 t0)).alloc (.cells C1 t1)).alloc (.cells C2 t2)) (w.heap.size + 1) t1 C1 ∧ Blk (((w.alloc (.cells C0 t0)).alloc (.cells C1 t1)).alloc (.cells C2 t2)) (w.heap.size + 1 + 1) t2 C2 ∧ Below w.heap.size w (((w.alloc (.cells C0 t0)).alloc (.cells C1 t1)).alloc (.cells C2 t2)) := by
  have z0 := Blk.new w t0 C0
  have B := (Below.refl w.heap.size w).alloc (Nat.le_refl _) (.cells C0 t0)
  have e0 : (w.alloc (.cells C0 t0)).heap.size = w.heap.size + 1 := by simp
  generalize w.alloc (.cells C0 t0) = w1 at *
  have z1 := Blk.new w1 t1 C1
  have z0 := z0.alloc (.cells C1 t1)
  have B := B.alloc (by omega) (.cells C1 t1)
  have e1 : (w1.alloc (.cells C1 t1)).heap.size = w1.heap.size + 1 := by simp
  generalize w1.alloc (.cells C1 t1) = w2 at *
  have z2 := Blk.new w2 t2 C2
  have z0 := z0.alloc (.cells C2 t2)
  have z1 := z1.alloc (.cells C2 t2)
  have B := B.alloc (by omega) (.cells C2 t2)
  rw [e0] at z1; rw [e1, e0] at z2
  exact ⟨z0, z1, z2, B⟩
set_option maxHeartbeats 8000000 in
set_option maxRecDepth 100000 in
theorem rises (k sd q p al st en rt sh : Int) (id tg ac sy : ByteArray) (A : Option Addr) (c : Nat) (l : List Int) (o1 o2 o3 o4 o5 m1 m2 m3 : Int) (hc : l.length ≤ c) (W : World) (hl : Kd.C (Kd.int .i64) W A l.length l) :
    Calls Try.prog 3 #[.agg #[.int .i64 k, .string id, .string tg, .string ac, .string sy, .int .i64 sd, .int .i64 q, .int .i64 p, .int .i64 al, .int .i64 st, .int .i64 en, .int .i64 rt, .int .i64 sh, .slice A l.length c], .agg #[.int .i64 o1, .int .i64 o2, .int .i64 o3, .int .i64 o4, .int .i64 o5], .agg #[.int .i64 m1, .int .i64 m2, .int .i64 m3]] W fun e W' => e = .returned (.bool true) ∧ Below W.heap.size W W' := by
  go_enter Try.func3, Try.ntmps3
  obtain ⟨bX, bO, bM, hB⟩ := three_blk W 24 26 28 #[.int .i64 k, .string id, .string tg, .string ac, .string sy, .int .i64 sd, .int .i64 q, .int .i64 p, .int .i64 al, .int .i64 st, .int .i64 en, .int .i64 rt, .int .i64 sh, .slice A l.length c] #[.int .i64 o1, .int .i64 o2, .int .i64 o3, .int .i64 o4, .int .i64 o5] #[.int .i64 m1, .int .i64 m2, .int .i64 m3]
  go_wp2_with fail
  generalize ((W.alloc (.cells #[.int .i64 k, .string id, .string tg, .string ac, .string sy, .int .i64 sd, .int .i64 q, .int .i64 p, .int .i64 al, .int .i64 st, .int .i64 en, .int .i64 rt, .int .i64 sh, .slice A l.length c] 24)).alloc (.cells #[.int .i64 o1, .int .i64 o2, .int .i64 o3, .int .i64 o4, .int .i64 o5] 26)).alloc (.cells #[.int .i64 m1, .int .i64 m2, .int .i64 m3] 28) = w0 at *
  refine (awake27 w0).mono ?_
  rintro e w1 ⟨rfl, b⟩
  have bX := bX.on b; have bO := bO.on b; have bM := bM.on b
  have hB := bt hB b
  clear b
  have y0 := bX.cell 0; have y1 := bX.cell 1; have y2 := bX.cell 2; have y3 := bX.cell 3; have y4 := bX.cell 4; have y5 := bX.cell 5; have y6 := bX.cell 6; have y7 := bX.cell 7; have y8 := bX.cell 8; have y9 := bX.cell 9; have y10 := bX.cell 10; have y11 := bX.cell 11; have y12 := bX.cell 12; have y13 := bX.cell 13
  simp at y0 y1 y2 y3 y4 y5 y6 y7 y8 y9 y10 y11 y12 y13
  go_wp2_with fail
  refine (few27 k sd q p al st en rt sh id tg ac sy A c l w1).mono ?_
  rintro e w2 ⟨f, rfl, hf, b⟩
  have bX := bX.on b; have bO := bO.on b; have bM := bM.on b
  have hB := bt hB b
  clear b y0 y1 y2 y3 y4 y5 y6 y7 y8 y9 y10 y11 y12 y13
  cases f with
  | false =>
    go_wp2_with fail
    go_ret
    exact ⟨rfl, hB⟩
  | true =>
    have hm := hf rfl
    clear hf
    have y0 := bX.cell 0; have y1 := bX.cell 1; have y2 := bX.cell 2; have y3 := bX.cell 3; have y4 := bX.cell 4; have y5 := bX.cell 5; have y6 := bX.cell 6; have y7 := bX.cell 7; have y8 := bX.cell 8; have y9 := bX.cell 9; have y10 := bX.cell 10; have y11 := bX.cell 11; have y12 := bX.cell 12; have y13 := bX.cell 13
    have x0 := bO.cell 0; have x1 := bO.cell 1; have x2 := bO.cell 2; have x3 := bO.cell 3; have x4 := bO.cell 4
    have z0 := bM.cell 0; have z1 := bM.cell 1; have z2 := bM.cell 2
    simp at y0 y1 y2 y3 y4 y5 y6 y7 y8 y9 y10 y11 y12 y13 x0 x1 x2 x3 x4 z0 z1 z2
    have hMlt := bM.lt
    by_cases G : (0 ≤ m1 ∧ m1 ≤ 1099511627776) ∧ (0 ≤ m2 ∧ m2 ≤ 1099511627776) ∧ (0 ≤ m3 ∧ m3 ≤ 1099511627776) ∧ (0 ≤ o2 ∧ o2 ≤ 1099511627776) ∧ (0 ≤ o3 ∧ o3 ≤ 1152921504606846976) ∧ 0 ≤ o4 ∧ o4 ≤ 1099511627776
    · obtain ⟨⟨g1, g2⟩, ⟨g3, g4⟩, ⟨g5, g6⟩, ⟨g7, g8⟩, ⟨g9, g10⟩, g11, g12⟩ := G
      go_upto_region 6 with (fail)
      have bG := Blk.new w2 24 #[.int .i64 k, .string id, .string tg, .string ac, .string sy, .int .i64 sd, .int .i64 q, .int .i64 p, .int .i64 al, .int .i64 st, .int .i64 en, .int .i64 rt, .int .i64 sh, .slice A l.length c]
      have b : Below w2.heap.size w2 (w2.alloc (.cells #[.int .i64 k, .string id, .string tg, .string ac, .string sy, .int .i64 sd, .int .i64 q, .int .i64 p, .int .i64 al, .int .i64 st, .int .i64 en, .int .i64 rt, .int .i64 sh, .slice A l.length c] 24)) := (Below.refl _ _).alloc (Nat.le_refl _) _
      have bX := bX.on b; have bO := bO.on b; have bM := bM.on b
      have hB := bt hB b
      have hW2 := hB.size
      have hgo := hMlt
      clear b y0 y1 y2 y3 y4 y5 y6 y7 y8 y9 y10 y11 y12 y13 x0 x1 x2 x3 x4 z0 z1 z2
      generalize w2.alloc (.cells #[.int .i64 k, .string id, .string tg, .string ac, .string sy, .int .i64 sd, .int .i64 q, .int .i64 p, .int .i64 al, .int .i64 st, .int .i64 en, .int .i64 rt, .int .i64 sh, .slice A l.length c] 24) = w3 at *
      generalize w2.heap.size = gv at *
      have y13 : w3.cell? ⟨W.heap.size, 13, none⟩ = some (.slice A l.length c) := bX.cell 13
      have g13 : w3.cell? ⟨gv, 13, none⟩ = some (.slice A l.length c) := bG.cell 13
      have hX3 := bX.lt
      have hG3 := bG.lt
      have hC3 := Kd.C_below hl hB
      have hC4 := Kd.C_alloc hC3 (.cells #[] 3)
      have hO4 : Kd.R (Kd.int .i64) 3 (w3.alloc (.cells #[] 3)) w3.heap.size (fun _ => True) (.slice (some ⟨w3.heap.size, 0, none⟩) 0 0) [] := own_ints (l := []) ⟨rfl, .inr ⟨w3.heap.size, 0, #[], rfl, Nat.le_refl _, Blk.new w3 3 #[], Nat.le_refl _, by decide, rfl, rfl⟩⟩
      have hb4 := (Below.refl w3.heap.size w3).alloc (Nat.le_refl _) (.cells #[] 3)
      have inf : (Try.prog.info? 3).map (fun i => (i.zero, i.size, i.bytes)) = some (some (.int .i64 0), 1, 8) := by kernel_rfl
      have HC4 := Lib.hid hC4; have HO4 := Lib.hid hO4; have HB4 := Lib.hid hb4; have INF := Lib.hid inf
      have hlen : (([] : List Int).length + l.length) * 8 ≤ 140737488355328 := by simp; omega
      have hle4 : w3.heap.size ≤ (w3.alloc (.cells #[] 3)).heap.size := by simp
      clear hC4 hO4 hb4 inf
      go_upto_region 7 with (at_builtin; (refine Kd.R_append_rows (Kd.int .i64) (w0 := w3) w3.heap.size rfl (.tmp 82) (.tmp 84) 22 3 (.int .i64 0) 8 rfl Try.underlying22 INF.out rfl (by decide) (by decide) (.slice (some ⟨w3.heap.size, 0, none⟩) 0 0) [] l A l.length c (fun _ => True) (fun _ => False) rfl rfl HO4.out HC4.out (fun _ _ h => h) (fun _ hk => hk.elim) (fun _ _ => trivial) HB4.out hle4 hlen ?_); intro v1 w5 ho hb hg hat; obtain ⟨Av, cv, rfl⟩ := Kd.R_slice ho; have bG5 := bG.below hb hG3; have g13 := bG5.cell 13; have f13 := bG5.frozen 13; simp at g13)
      rw [List.nil_append] at ho
      have bX := bX.below hb hX3; have bO := bO.below hb bO.lt; have bM := bM.below hb bM.lt
      have hlow : W.heap.size ≤ w3.heap.size := hB.size
      have hB := hB.trans (hb.mono hlow)
      have hR := R_put ho bG5 (by decide) 13 (.slice Av l.length cv)
      have bG := bG5.put 13 (.slice Av l.length cv)
      have bX := bX.far (p := ⟨gv, 13, none⟩) (show W.heap.size ≠ gv by omega) (.slice Av l.length cv)
      have bO := bO.far (p := ⟨gv, 13, none⟩) (show W.heap.size + 1 ≠ gv by omega) (.slice Av l.length cv)
      have bM := bM.far (p := ⟨gv, 13, none⟩) (show W.heap.size + 1 + 1 ≠ gv by omega) (.slice Av l.length cv)
      have hB := hB.setCell (p := ⟨gv, 13, none⟩) (show W.heap.size ≤ gv by omega) (.slice Av l.length cv)
      clear ho hb hg hat bG5 g13 f13 HC4 HO4 HB4 INF hC3 hlen hle4 y13
      generalize w5.setCell ⟨gv, 13, none⟩ (.slice Av l.length cv) = w6 at *
      generalize w3.heap.size = gb at *
      have bG : Blk w6 gv 24 #[.int .i64 k, .string id, .string tg, .string ac, .string sy, .int .i64 sd, .int .i64 q, .int .i64 p, .int .i64 al, .int .i64 st, .int .i64 en, .int .i64 rt, .int .i64 sh, .slice Av l.length cv] := bG
      have hC6 := (Kd.R_reads' hR).2.2
      have hc6 := (Kd.R_reads' hR).2.1
      have y0 := bG.cell 0; have y1 := bG.cell 1; have y2 := bG.cell 2; have y3 := bG.cell 3; have y4 := bG.cell 4; have y5 := bG.cell 5; have y6 := bG.cell 6; have y7 := bG.cell 7; have y8 := bG.cell 8; have y9 := bG.cell 9; have y10 := bG.cell 10; have y11 := bG.cell 11; have y12 := bG.cell 12; have y13 := bG.cell 13
      simp at y0 y1 y2 y3 y4 y5 y6 y7 y8 y9 y10 y11 y12 y13
      by_cases hk : k = 1 ∧ (nameV id && freshS tg ac sy sd q p al st en rt sh l) = true
      · obtain ⟨rfl, hok⟩ := hk
        obtain ⟨f1, f2, f3, f4, f5, f6, f7⟩ := fresh_open hok
        have hn := new_good sd q p al st en rt sh 0 id tg ac sy Av cv l hc6 (by omega) hok (by omega) (by omega) w6 hC6
        have HN := Lib.hid hn
        have hAv : ∀ ga, Av = some ⟨ga, 0, none⟩ → ga < w6.heap.size := fun ga h => ((Kd.R_bound hR).1 ga (by rw [h]; rfl)).2.2.1
        clear hn hok hC6
        go_wp2_with fail
        refine HN.out.mono ?_
        rintro e w7 ⟨gs, B, d, hgs, rfl, bS, hRs, b⟩
        have bG := bG.on b; have bX := bX.on b; have bO := bO.on b; have bM := bM.on b
        have hR := Kd.R_below hR b
        have hsz := hB.size
        have hB := bt hB b
        clear b y0 y1 y2 y3 y4 y5 y6 y7 y8 y9 y10 y11 y12 y13 HN
        have y13 : w7.cell? ⟨gv, 13, none⟩ = some (.slice Av l.length cv) := bG.cell 13
        go_wp2_with fail
        clear y13
        have bS : Blk w7 gs 56 (slC 1 sd q p al st en rt sh id tg ac sy (.slice B l.length d) (howV al rt sh 0 B l.length d) 0) := bS
        have hgap : W.heap.size + 1 + 1 < gv ∧ gv < gb := ⟨hgo, hG3⟩
        clear hgo hG3 hX3 hMlt hW2 hlow
        generalize w6.heap.size = gn at *
        go_loopw [99] (fun i wr => ∃ (j : Nat) (zs : List Int), j ≤ l.length ∧ i = .int .i64 j ∧ Hid (zs.length = l.length ∧ Kd.R (Kd.int .i64) 3 wr gb (fun _ => True) (.slice Av l.length cv) zs ∧ (∀ ga, Av = some ⟨ga, 0, none⟩ → ga < gn) ∧ Kd.R (Kd.int .i64) 3 wr gn (fun _ => True) (.slice B l.length d) l ∧ Blk wr gs 56 (slC 1 sd q p al st en rt sh id tg ac sy (.slice B l.length d) (howV al rt sh 0 B l.length d) 0) ∧ Blk wr gv 24 #[.int .i64 1, .string id, .string tg, .string ac, .string sy, .int .i64 sd, .int .i64 q, .int .i64 p, .int .i64 al, .int .i64 st, .int .i64 en, .int .i64 rt, .int .i64 sh, .slice Av l.length cv] ∧ Blk wr W.heap.size 24 #[.int .i64 1, .string id, .string tg, .string ac, .string sy, .int .i64 sd, .int .i64 q, .int .i64 p, .int .i64 al, .int .i64 st, .int .i64 en, .int .i64 rt, .int .i64 sh, .slice A l.length c] ∧ Blk wr (W.heap.size + 1) 26 #[.int .i64 o1, .int .i64 o2, .int .i64 o3, .int .i64 o4, .int .i64 o5] ∧ Blk wr (W.heap.size + 1 + 1) 28 #[.int .i64 m1, .int .i64 m2, .int .i64 m3] ∧ Below W.heap.size W wr)) (fun i _ => l.length - (intOf i).toNat)
        case atStart => exact ⟨0, l, Nat.zero_le _, rfl, Lib.hid ⟨rfl, hR, hAv, hRs, bS, bG, bX, bO, bM, hB⟩⟩
        case round =>
          clear hR hRs bS bG bX bO bM hB hAv
          obtain ⟨j, zs, hj, rfl, H⟩ := hrel
          by_cases hlt : j < l.length
          · obtain ⟨hz, hR, hAv, hRs, bS, bG, bX, bO, bM, hB⟩ := H.out
            obtain ⟨ga, vv, rfl, hga, hga2, cj, fj⟩ := row_cell hR hz j hlt
            have y13 : wr.cell? ⟨gv, 13, none⟩ = some (.slice (some ⟨ga, 0, none⟩) l.length cv) := bG.cell 13
            have hlow := hAv ga rfl
            have r1 : Kd.R (Kd.int .i64) 3 (wr.setCell ⟨ga, j, none⟩ (.int .i64 0)) gb (fun _ => True) (.slice (some ⟨ga, 0, none⟩) l.length cv) (zs.set j 0) := Kd.R_putn hR (j : Int) 0
            have r2 := R_low hRs hlow j (.int .i64 0)
            have q1 := bS.far (p := ⟨ga, j, none⟩) (show gs ≠ ga by omega) (.int .i64 0)
            have q2 := bG.far (p := ⟨ga, j, none⟩) (show gv ≠ ga by omega) (.int .i64 0)
            have q3 := bX.far (p := ⟨ga, j, none⟩) (show W.heap.size ≠ ga by omega) (.int .i64 0)
            have q4 := bO.far (p := ⟨ga, j, none⟩) (show W.heap.size + 1 ≠ ga by omega) (.int .i64 0)
            have q5 := bM.far (p := ⟨ga, j, none⟩) (show W.heap.size + 1 + 1 ≠ ga by omega) (.int .i64 0)
            have q6 := hB.setCell (p := ⟨ga, j, none⟩) (show W.heap.size ≤ ga by omega) (.int .i64 0)
            have HN := Lib.hid (And.intro (show (zs.set j 0).length = l.length by rw [List.length_set]; exact hz) (And.intro r1 (And.intro hAv (And.intro r2 (And.intro q1 (And.intro q2 (And.intro q3 (And.intro q4 (And.intro q5 q6)))))))))
            clear H hR hRs bS bG bX bO bM hB r1 r2 q1 q2 q3 q4 q5 q6 hAv
            go_wp2_with fail
            go_roundw
            case rel => exact ⟨j + 1, zs.set j 0, by omega, by go_num, HN⟩
            case measure => simp only [intOf]; omega
          · obtain ⟨hz, hR, hAv, hRs, bS, bG, bX, bO, bM, hB⟩ := H.out
            clear H hR hAv bG
            have hC := (Kd.R_reads' hRs).2.2
            have hcd := (Kd.R_reads' hRs).2.1
            have x1 := bO.cell 1; have x2 := bO.cell 2; have x3 := bO.cell 3; have z0 := bM.cell 0; have z1 := bM.cell 1; have z2 := bM.cell 2; have y6 := bX.cell 6
            simp at x1 x2 x3 z0 z1 z2 y6
            by_cases hd : o4 ≤ q
            · have t1 := target_gen gs 1 sd q p al st en rt sh o2 o3 o4 id tg ac sy B d l hcd f1 f2 f3 f4 f5 f6 f7 ⟨g7, g8⟩ ⟨g9, by omega⟩ ⟨g11, hd⟩ wr hC bS
              have hm1 : 0 ≤ min (o2 + m1) 1099511627776 ∧ min (o2 + m1) 1099511627776 ≤ 1099511627776 ∧ o2 ≤ min (o2 + m1) 1099511627776 := by omega
              have hm3 : o4 ≤ min (o4 + m3) q ∧ min (o4 + m3) q ≤ q := by omega
              have t2 := fun w' (hb : Below wr.heap.size wr w') => target_gen gs 1 sd q p al st en rt sh (min (o2 + m1) 1099511627776) (o3 + m2) (min (o4 + m3) q) id tg ac sy B d l hcd f1 f2 f3 f4 f5 f6 f7 ⟨hm1.1, hm1.2.1⟩ ⟨by omega, by omega⟩ ⟨by omega, hm3.2⟩ w' (Kd.C_below hC hb) (bS.on hb)
              obtain ⟨r0, r1, r2⟩ := tgF_rise (al := al) (q := q) (st := st) (en := en) (rt := rt) (sh := sh) (l := l) f5 f6 f7 (show 0 ≤ q ∧ q ≤ 1099511627776 by omega) f2 f3 ⟨g7, g8⟩ ⟨hm1.1, hm1.2.1⟩ f4 hm1.2.2 g9 (show o3 ≤ o3 + m2 by omega) g11 hm3.1
              generalize tgF al q st en rt sh l o2 o3 o4 = x at *
              generalize tgF al q st en rt sh l (min (o2 + m1) 1099511627776) (o3 + m2) (min (o4 + m3) q) = y at *
              have T1 := Lib.hid t1; have T2 := Lib.hid t2
              clear t1 t2 hC
              go_wp2_with fail
              refine T1.out.mono ?_
              rintro e w8 ⟨rfl, b⟩
              have bX := bX.on b; have bO := bO.on b; have bM := bM.on b
              have hB := bt hB b
              clear x1 x2 x3 z0 z1 z2 y6
              have x1 := bO.cell 1; have x2 := bO.cell 2; have x3 := bO.cell 3; have z0 := bM.cell 0; have z1 := bM.cell 1; have z2 := bM.cell 2; have y6 := bX.cell 6
              simp at x1 x2 x3 z0 z1 z2 y6
              go_wp2_with fail
              have bL : Below w8.heap.size w8 (w8.alloc (.cells #[.int .i64 0, .int .i64 (min (o2 + m1) 1099511627776), .int .i64 (o3 + m2), .int .i64 (min (o4 + m3) q), .int .i64 0] 26)) := (Below.refl _ _).alloc (Nat.le_refl _) _
              refine (T2.out _ (bt b bL)).mono ?_
              rintro e w9 ⟨rfl, b9⟩
              have bL := bt bL b9
              have bX := bX.on bL
              have hB := bt hB bL
              clear x1 x2 x3 z0 z1 z2 y6
              have y6 := bX.cell 6
              simp at y6
              go_wp2_with fail
              all_goals (go_ret; exact ⟨rfl, hB⟩)
            · have hh : ∃ T hv, howV al rt sh 0 B l.length d = .iface T hv := by unfold howV; (repeat' split) <;> exact ⟨_, _, rfl⟩
              obtain ⟨T, hv, hh⟩ := hh
              rw [hh] at bS
              have t1 := target_bad gs 1 sd q p al st en rt sh 0 o2 o3 o4 id tg ac sy B l.length d T hv (fun h => hd h.2.2.2) wr bS
              have T1 := Lib.hid t1
              clear t1
              go_wp2_with fail
              refine T1.out.mono ?_
              rintro e w8 ⟨rfl, rfl⟩
              go_wp2_with fail
              go_ret
              exact ⟨rfl, hB⟩
      · have hn := new_bad k sd q p al st en rt sh 0 id tg ac sy Av cv l hc6 (by by_cases h1 : k = 1; exact .inr (.inl (by simpa using fun h => hk ⟨h1, h⟩)); exact .inl h1) w6 hC6
        have HN := Lib.hid hn
        clear hn hk
        go_wp2_with fail
        refine HN.out.mono ?_
        rintro e w7 ⟨rfl, b⟩
        have hB := bt hB b
        go_wp2_with fail
        go_ret
        exact ⟨rfl, hB⟩
    · go_wp2_with fail
      all_goals first
        | (go_ret; exact ⟨rfl, hB⟩)
        | (exfalso; apply G; refine ⟨⟨?_, ?_⟩, ⟨?_, ?_⟩, ⟨?_, ?_⟩, ⟨?_, ?_⟩, ⟨?_, ?_⟩, ?_, ?_⟩ <;> omega)
theorem SlicerRises (a0_0 : Int) (a0_1 : ByteArray) (a0_2 : ByteArray) (a0_3 : ByteArray) (a0_4 : ByteArray) (a0_5 : Int) (a0_6 : Int) (a0_7 : Int) (a0_8 : Int) (a0_9 : Int) (a0_10 : Int) (a0_11 : Int) (a0_12 : Int) (A0_13 : Option Addr) (n0_13 k0_13 : Nat) (z0_13 : List Int) (a1_0 : Int) (a1_1 : Int) (a1_2 : Int) (a1_3 : Int) (a1_4 : Int) (a2_0 : Int) (a2_1 : Int) (a2_2 : Int) (W : World) (w0_0 : (Lit.int .i64 a0_0).wf = true) (w0_1 : a0_1.size ≤ maxLen) (w0_2 : a0_2.size ≤ maxLen) (w0_3 : a0_3.size ≤ maxLen) (w0_4 : a0_4.size ≤ maxLen) (w0_5 : (Lit.int .i64 a0_5).wf = true) (w0_6 : (Lit.int .i64 a0_6).wf = true) (w0_7 : (Lit.int .i64 a0_7).wf = true) (w0_8 : (Lit.int .i64 a0_8).wf = true) (w0_9 : (Lit.int .i64 a0_9).wf = true) (w0_10 : (Lit.int .i64 a0_10).wf = true) (w0_11 : (Lit.int .i64 a0_11).wf = true) (w0_12 : (Lit.int .i64 a0_12).wf = true) (w0_13 : IntRow .i64 W A0_13 n0_13 k0_13 z0_13) (w1_0 : (Lit.int .i64 a1_0).wf = true) (w1_1 : (Lit.int .i64 a1_1).wf = true) (w1_2 : (Lit.int .i64 a1_2).wf = true) (w1_3 : (Lit.int .i64 a1_3).wf = true) (w1_4 : (Lit.int .i64 a1_4).wf = true) (w2_0 : (Lit.int .i64 a2_0).wf = true) (w2_1 : (Lit.int .i64 a2_1).wf = true) (w2_2 : (Lit.int .i64 a2_2).wf = true) :
    Calls Try.prog 3 #[.agg #[.int .i64 a0_0, .string a0_1, .string a0_2, .string a0_3, .string a0_4, .int .i64 a0_5, .int .i64 a0_6, .int .i64 a0_7, .int .i64 a0_8, .int .i64 a0_9, .int .i64 a0_10, .int .i64 a0_11, .int .i64 a0_12, .slice A0_13 n0_13 k0_13], .agg #[.int .i64 a1_0, .int .i64 a1_1, .int .i64 a1_2, .int .i64 a1_3, .int .i64 a1_4], .agg #[.int .i64 a2_0, .int .i64 a2_1, .int .i64 a2_2]] W fun e W' => e = .returned (.bool true) ∧ Below W.heap.size W W' := by
  obtain ⟨l1, rfl, hr1, hm1, hw1, hc1⟩ := ReadsInt.ofRowC w0_13
  exact rises a0_0 a0_5 a0_6 a0_7 a0_8 a0_9 a0_10 a0_11 a0_12 a0_1 a0_2 a0_3 a0_4 A0_13 k0_13 l1 a1_0 a1_1 a1_2 a1_3 a1_4 a2_0 a2_1 a2_2 hc1 W (Kd.C_of_reads (d := (0 : Int)) (h1 := fun _ => rfl) hr1)
end Go.Proofs.Ytapfidpfjbacgaa.Walk
