/- SlicerPlays: every play of an order that is amended, and asked how much of it should be out, is the document's; no condition. -/
import Derived.Test.YtapfidpfjbacgaaSp7
set_option linter.unusedVariables false
set_option linter.unusedSimpArgs false
namespace Go.Proofs.Ytapfidpfjbacgaa.Walk
open Go Go.RowKit Go.Proofs.Ytapfidpfjbacgaa.Row Go.Proofs.YtapfidpfjbacgaaW.PrintWords Go.Proofs.YtapfidpfjbacgaaW.PrintMore Go.Proofs.Ytapfidpfjbacgaa.Hand Go.Proofs.Ytapfidpfjbacgaa.PL Go.Proofs.Ytapfidpfjbacgaa.RL
abbrev opC (o1 o2 o3 o4 o5 : Int) : Array Value := #[.int .i64 o1, .int .i64 o2, .int .i64 o3, .int .i64 o4, .int .i64 o5]
section
variable {gs gd : Nat} {sd al st rt sh v : Int} {id tg ac sy : ByteArray} {B : Option Addr} {d : Nat} {A : Option Addr} {c : Nat} {l : List Int} {b : Nat} {W wr : World} {q p en : Int}
/-- Between the two changes: the slicer is changed, the document's is not yet. -/
structure MidS (gs gd : Nat) (sd al st rt sh v : Int) (id tg ac sy : ByteArray) (B : Option Addr) (d : Nat) (A : Option Addr) (c : Nat) (l : List Int) (b : Nat) (W wr : World) (q p en q2 p2 en2 : Int) (o : Nat) (cs : Array Value) : Prop where
  D : Blk wr gd 44 (docC 1 sd q p al st en rt sh id tg ac sy (.slice A l.length c) v)
  O : Blk wr o 26 cs
  nxt : amS st q2 p2 en2 = 0 → ∀ w', w' = ((wr.setCell ⟨gd, 6, none⟩ (.int .i64 q2)).setCell ⟨gd, 7, none⟩ (.int .i64 p2)).setCell ⟨gd, 10, none⟩ (.int .i64 en2) → PlayS gs gd sd al st rt sh v id tg ac sy B d A c l b W w' q2 p2 en2
  same : amS st q2 p2 en2 ≠ 0 → PlayS gs gd sd al st rt sh v id tg ac sy B d A c l b W wr q p en
theorem step1 (F : FixS al st rt sh v A l c W) (h : PlayS gs gd sd al st rt sh v id tg ac sy B d A c l b W wr q p en) (q2 p2 en2 : Int) (o : Nat) (cs : Array Value) (hO : Blk wr o 26 cs) (ho1 : o ≠ gs) :
    Calls Try.prog 12 #[.pointer (some ⟨gs, 0, none⟩), .int .i64 q2, .int .i64 p2, .int .i64 en2] wr fun e w' => e = .returned (.int .i64 (amS st q2 p2 en2)) ∧ MidS gs gd sd al st rt sh v id tg ac sy B d A c l b W w' q p en q2 p2 en2 o cs := by
  refine (samend F h q2 p2 en2).mono ?_
  rintro e w' ⟨rfl, rfl⟩
  refine ⟨rfl, ?_⟩
  by_cases g : amS st q2 p2 en2 = 0
  · rw [if_pos g]
    exact ⟨blk3 h.D (Ne.symm h.ne) 6 7 10 _ _ _, blk3 hO ho1 6 7 10 _ _ _, fun _ w' hw => hw ▸ h.amend q2 p2 en2 g, fun hn => absurd g hn⟩
  · rw [if_neg g]
    exact ⟨h.D, hO, fun hp => absurd hp g, fun _ => h⟩
theorem MidS.drew {q2 p2 en2 : Int} {o : Nat} {cs : Array Value} (h : MidS gs gd sd al st rt sh v id tg ac sy B d A c l b W wr q p en q2 p2 en2 o cs) : Blk wr o 26 cs := h.O
theorem step2 (F : FixS al st rt sh v A l c W) (q2 p2 en2 : Int) (o : Nat) (cs : Array Value) (h : MidS gs gd sd al st rt sh v id tg ac sy B d A c l b W wr q p en q2 p2 en2 o cs) (ho2 : o ≠ gd) :
    Calls Try.prog 13 #[.pointer (some ⟨gd, 0, none⟩), .int .i64 q2, .int .i64 p2, .int .i64 en2] wr fun e w' => e = .returned (.int .i64 (amS st q2 p2 en2)) ∧ (∃ q' p' en', PlayS gs gd sd al st rt sh v id tg ac sy B d A c l b W w' q' p' en') ∧ Blk w' o 26 cs := by
  refine (damend F h.D q2 p2 en2).mono ?_
  rintro e w' ⟨rfl, rfl⟩
  refine ⟨rfl, ?_⟩
  by_cases g : amS st q2 p2 en2 = 0
  · rw [if_pos g]
    exact ⟨⟨_, _, _, h.nxt g _ rfl⟩, blk3 h.O ho2 6 7 10 _ _ _⟩
  · rw [if_neg g]
    exact ⟨⟨_, _, _, h.same g⟩, h.O⟩
end
set_option maxHeartbeats 8000000 in
set_option maxRecDepth 100000 in
theorem plays27 (k sd q p al st en rt sh v : Int) (id tg ac sy : ByteArray) (A : Option Addr) (c : Nat) (l : List Int) (hc : l.length ≤ c) (A2 : Option Addr) (c2 : Nat) (ops : List (Int × Int × Int × Int × Int)) (W : World) (hl : Kd.C (Kd.int .i64) W A l.length l)
    (hops : ∀ i (h : i < ops.length), ∃ x, A2 = some x ∧ W.cell? (x.add (i * 5)) = some (.int .i64 ops[i].1) ∧ W.cell? (x.add (i * 5 + 1)) = some (.int .i64 ops[i].2.1) ∧ W.cell? (x.add (i * 5 + 2)) = some (.int .i64 ops[i].2.2.1) ∧ W.cell? (x.add (i * 5 + 3)) = some (.int .i64 ops[i].2.2.2.1) ∧ W.cell? (x.add (i * 5 + 4)) = some (.int .i64 ops[i].2.2.2.2) ∧ in64 ops[i].2.2.2.2) :
    Calls Try.prog 4 #[.agg (askC k sd q p al st en rt sh id tg ac sy (.slice A l.length c)), .int .i64 v, .slice A2 ops.length c2] W fun e W' => e = .returned (.bool true) ∧ Below W.heap.size W W' := by
  have Hops := Lib.hid hops
  clear hops
  go_enter Try.func4, Try.ntmps4
  have bX := Blk.new W 24 (askC k sd q p al st en rt sh id tg ac sy (.slice A l.length c))
  have hB := (Below.refl W.heap.size W).alloc (Nat.le_refl _) (.cells (askC k sd q p al st en rt sh id tg ac sy (.slice A l.length c)) 24)
  go_wp2_with fail
  generalize W.alloc (.cells (askC k sd q p al st en rt sh id tg ac sy (.slice A l.length c)) 24) = w0 at *
  refine (awake27 w0).mono ?_
  rintro e w1 ⟨rfl, b⟩
  have bX := bX.on b
  have hB := bt hB b
  clear b
  have y0 := bX.cell 0; have y1 := bX.cell 1; have y2 := bX.cell 2; have y3 := bX.cell 3; have y4 := bX.cell 4; have y5 := bX.cell 5; have y6 := bX.cell 6; have y7 := bX.cell 7; have y8 := bX.cell 8; have y9 := bX.cell 9; have y10 := bX.cell 10; have y11 := bX.cell 11; have y12 := bX.cell 12; have y13 := bX.cell 13
  simp at y0 y1 y2 y3 y4 y5 y6 y7 y8 y9 y10 y11 y12 y13
  go_wp2_with fail
  refine (few27p k sd q p al st en rt sh id tg ac sy A c l w1).mono ?_
  rintro e w2 ⟨f, rfl, hf, b⟩
  have bX := bX.on b
  have hB := bt hB b
  clear b y0 y1 y2 y3 y4 y5 y6 y7 y8 y9 y10 y11 y12 y13
  cases f with
  | false =>
    go_wp2_with fail
    go_ret
    exact ⟨rfl, hB⟩
  | true =>
    obtain ⟨hm, s1, s2, s3⟩ := hf rfl
    clear hf
    have y0 := bX.cell 0; have y1 := bX.cell 1; have y2 := bX.cell 2; have y3 := bX.cell 3; have y4 := bX.cell 4; have y5 := bX.cell 5; have y6 := bX.cell 6; have y7 := bX.cell 7; have y8 := bX.cell 8; have y9 := bX.cell 9; have y10 := bX.cell 10; have y11 := bX.cell 11; have y12 := bX.cell 12; have y13 := bX.cell 13
    simp at y0 y1 y2 y3 y4 y5 y6 y7 y8 y9 y10 y11 y12 y13
    by_cases h60 : ops.length ≤ 60
    · by_cases hok : k = 1 ∧ (nameV id && freshS tg ac sy sd q p al st en rt sh l && decide (0 ≤ v ∧ v ≤ 4611686018427387904)) = true
      · obtain ⟨rfl, hok⟩ := hok
        have hok2 := hok
        rw [Bool.and_eq_true, decide_eq_true_eq] at hok2
        obtain ⟨f1, f2, f3, f4, f5, f6, f7⟩ := fresh_open hok2.1
        have hn := new_good sd q p al st en rt sh v id tg ac sy A c l hc (by omega) hok2.1 hok2.2.1 hok2.2.2 w2 (Kd.C_below hl hB)
        have HN := Lib.hid hn
        have F : FixS al st rt sh v A l c W := ⟨hl, f2, f5, f6, f7, hok2.2, by omega, hc⟩
        have hv := hok2.2
        clear hn hok2 f2 f5 f6 f7
        go_wp2_with fail
        refine HN.out.mono ?_
        rintro e w3 ⟨gs, B, d, hgs, rfl, bS, hR, b⟩
        have bX := bX.on b
        have hsz := hB.size
        have hR := Kd.R_lower hR hsz
        have hB := bt hB b
        clear b y0 y1 y2 y3 y4 y5 y6 y7 y8 y9 y10 y11 y12 y13 HN
        have y0 := bX.cell 0; have y1 := bX.cell 1; have y2 := bX.cell 2; have y3 := bX.cell 3; have y4 := bX.cell 4; have y5 := bX.cell 5; have y6 := bX.cell 6; have y7 := bX.cell 7; have y8 := bX.cell 8; have y9 := bX.cell 9; have y10 := bX.cell 10; have y11 := bX.cell 11; have y12 := bX.cell 12; have y13 := bX.cell 13
        simp at y0 y1 y2 y3 y4 y5 y6 y7 y8 y9 y10 y11 y12 y13
        go_wp2_with fail
        refine (plain_walk 1 sd q p al st en rt sh id tg ac sy A l.length c w3).mono ?_
        rintro e w4 ⟨rfl, b⟩
        have bX := bX.on b
        have bS := bS.on b
        have hR := Kd.R_below hR b
        have hB := bt hB b
        clear b
        clear y0 y1 y2 y3 y4 y5 y6 y7 y8 y9 y10 y11 y12 y13
        have y0 := bX.cell 0; have y1 := bX.cell 1; have y2 := bX.cell 2; have y3 := bX.cell 3; have y4 := bX.cell 4; have y5 := bX.cell 5; have y6 := bX.cell 6; have y7 := bX.cell 7; have y8 := bX.cell 8; have y9 := bX.cell 9; have y10 := bX.cell 10; have y11 := bX.cell 11; have y12 := bX.cell 12; have y13 := bX.cell 13
        simp at y0 y1 y2 y3 y4 y5 y6 y7 y8 y9 y10 y11 y12 y13
        go_wp2_with fail
        have hr := right27d_walk sd q p al st en rt sh v id tg ac sy A c l hc (by omega) (by omega) (by omega) (by omega) w4 (Kd.C_below hl hB)
        rw [hok] at hr
        refine hr.mono ?_
        rintro e w5 ⟨rfl, b⟩
        have bX := bX.on b
        have bS := bS.on b
        have hR := Kd.R_below hR b
        have hB := bt hB b
        clear b hr
        clear y0 y1 y2 y3 y4 y5 y6 y7 y8 y9 y10 y11 y12 y13
        have y0 := bX.cell 0; have y1 := bX.cell 1; have y2 := bX.cell 2; have y3 := bX.cell 3; have y4 := bX.cell 4; have y5 := bX.cell 5; have y6 := bX.cell 6; have y7 := bX.cell 7; have y8 := bX.cell 8; have y9 := bX.cell 9; have y10 := bX.cell 10; have y11 := bX.cell 11; have y12 := bX.cell 12; have y13 := bX.cell 13
        simp at y0 y1 y2 y3 y4 y5 y6 y7 y8 y9 y10 y11 y12 y13
        go_wp2_with fail
        refine (plain_walk 1 sd q p al st en rt sh id tg ac sy A l.length c w5).mono ?_
        rintro e w6 ⟨rfl, b⟩
        have bS := bS.on b
        have hR := Kd.R_below hR b
        have hB := bt hB b
        clear b bX y0 y1 y2 y3 y4 y5 y6 y7 y8 y9 y10 y11 y12 y13 hok
        go_wp2_with fail
        have bD := Blk.new w6 44 (docC 1 sd q p al st en rt sh id tg ac sy (.slice A l.length c) v)
        have b : Below w6.heap.size w6 (w6.alloc (.cells (docC 1 sd q p al st en rt sh id tg ac sy (.slice A l.length c) v) 44)) := (Below.refl _ _).alloc (Nat.le_refl _) _
        have hlt := bS.lt
        have hsz6 := hB.size
        have P : PlayS gs w6.heap.size sd al st rt sh v id tg ac sy B d A c l W.heap.size W (w6.alloc (.cells (docC 1 sd q p al st en rt sh id tg ac sy (.slice A l.length c) v) 44)) q p en := ⟨bS.on b, bD, Kd.R_below hR b, bt hB b, f1, f3, f4, by omega, hsz6, by omega⟩
        clear bD b bS hR hB
        generalize w6.alloc (.cells (docC 1 sd q p al st en rt sh id tg ac sy (.slice A l.length c) v) 44) = w7 at *
        generalize w6.heap.size = gd at *
        go_loopw [60] (fun i wr => ∃ (j : Nat) (q' p' en' : Int), j ≤ ops.length ∧ i = .int .i64 j ∧ PlayS gs gd sd al st rt sh v id tg ac sy B d A c l W.heap.size W wr q' p' en') (fun i _ => ops.length - (intOf i).toNat)
        case atStart => exact ⟨0, q, p, en, Nat.zero_le _, rfl, P⟩
        case round =>
          clear P f1 f3 f4
          obtain ⟨j, q', p', en', hj, rfl, P⟩ := hrel
          by_cases hlt2 : j < ops.length
          · obtain ⟨x, rfl, e0, e1, e2, e3, e4, hin⟩ := Hops.out j hlt2
            have old : ∀ {a : Addr} {u : Value}, W.cell? a = some u → wr.cell? a = some u := fun h => (P.bel.cell (World.block_lt_of_cell? W _ h)).trans h
            have a0 := old e0; have a1 := old e1; have a2 := old e2; have a3 := old e3; have a4 := old e4
            rw [add_field _ _ _ (by omega)] at a1 a2 a3 a4
            clear e0 e1 e2 e3 e4 old
            generalize ops[j] = X at *
            obtain ⟨o1, o2, o3, o4, o5⟩ := X
            dsimp only at a0 a1 a2 a3 a4 hin
            have bO := (Below.refl wr.heap.size wr).alloc (Nat.le_refl _) (.cells (opC o1 o2 o3 o4 o5) 26)
            have hO := Blk.new wr 26 (opC o1 o2 o3 o4 o5)
            have hgs := P.S.lt; have hgd := P.D.lt
            have P := P.on bO
            have HO := Lib.hid hO
            have HP := Lib.hid P
            clear bO hO P
            go_upto_region 14 with (fail)
            generalize wr.alloc (.cells (opC o1 o2 o3 o4 o5) 26) = w8 at *
            have ho1 : wr.heap.size ≠ gs := by omega
            have ho2 : wr.heap.size ≠ gd := by omega
            generalize wr.heap.size = o at *
            have hO := HO.out
            have P := HP.out
            clear HO HP a0 a1 a2 a3 a4 hgs hgd
            have x0 := hO.cell 0; have x1 := hO.cell 1; have x2 := hO.cell 2; have x3 := hO.cell 3; have x4 := hO.cell 4
            simp at x0 x1 x2 x3 x4
            by_cases k1 : o1 = 1
            · subst k1
              have m1 := fun w' (h : Below w8.heap.size w8 w') => step1 F (P.on h) o2 o3 o4 o (opC 1 o2 o3 o4 o5) (hO.on h) ho1
              have keepO : ∀ w', Below w8.heap.size w8 w' → w'.cell? ⟨o, 1, none⟩ = some (.int .i64 o2) ∧ w'.cell? ⟨o, 2, none⟩ = some (.int .i64 o3) ∧ w'.cell? ⟨o, 3, none⟩ = some (.int .i64 o4) := fun w' h => ⟨(hO.on h).cell 1, (hO.on h).cell 2, (hO.on h).cell 3⟩
              have M1 := Lib.hid m1; have KO := Lib.hid keepO
              clear m1 keepO P hO
              go_upto_region 15 with (fail)
              go_region_held3 (fun w' => w'.cell? ⟨o, 1, none⟩ = some (.int .i64 o2) ∧ w'.cell? ⟨o, 2, none⟩ = some (.int .i64 o3) ∧ w'.cell? ⟨o, 3, none⟩ = some (.int .i64 o4)) (first | exact ⟨PP.2.cell 1, PP.2.cell 2, PP.2.cell 3⟩ | exact ⟨MM.O.cell 1, MM.O.cell 2, MM.O.cell 3⟩ | exact KO.out _ (by repeat (first | exact Below.refl _ _ | apply below_drew1))) (first | (go_at_call 12; (with_reducible refine (M1.out _ (by repeat (first | exact Below.refl _ _ | apply below_drew1))).mono ?_); rintro e wa ⟨rfl, MM⟩) | (go_at_call 13; (with_reducible refine (step2 F o2 o3 o4 o (opC 1 o2 o3 o4 o5) MM ho2).mono ?_); rintro e wz ⟨rfl, PP⟩))
              obtain ⟨⟨q', p', en', P⟩, hO⟩ := PP
              clear MM M1 KO x0 x1 x2 x3 x4
              go_upto_region 23 with (fail)
              -- both say what they are
              have keepS : ∀ w', Below wz.heap.size wz w' → w'.cell? ⟨o, 1, none⟩ = some (.int .i64 o2) ∧ w'.cell? ⟨gd, 0, none⟩ = some (.int .i64 1) ∧ w'.cell? ⟨gd, 1, none⟩ = some (.string id) ∧ w'.cell? ⟨gd, 2, none⟩ = some (.string tg) ∧ w'.cell? ⟨gd, 3, none⟩ = some (.string ac) ∧ w'.cell? ⟨gd, 4, none⟩ = some (.string sy) ∧ w'.cell? ⟨gd, 5, none⟩ = some (.int .i64 sd) ∧ w'.cell? ⟨gd, 6, none⟩ = some (.int .i64 q') ∧ w'.cell? ⟨gd, 7, none⟩ = some (.int .i64 p') ∧ w'.cell? ⟨gd, 8, none⟩ = some (.int .i64 al) ∧ w'.cell? ⟨gd, 9, none⟩ = some (.int .i64 st) ∧ w'.cell? ⟨gd, 10, none⟩ = some (.int .i64 en') ∧ w'.cell? ⟨gd, 11, none⟩ = some (.int .i64 rt) ∧ w'.cell? ⟨gd, 12, none⟩ = some (.int .i64 sh) ∧ w'.cell? ⟨gd, 13, none⟩ = some (.slice A l.length c) ∧ Below wz.heap.size wz w' := fun w' h => ⟨(hO.on h).cell 1, (P.D.on h).cell 0, (P.D.on h).cell 1, (P.D.on h).cell 2, (P.D.on h).cell 3, (P.D.on h).cell 4, (P.D.on h).cell 5, (P.D.on h).cell 6, (P.D.on h).cell 7, (P.D.on h).cell 8, (P.D.on h).cell 9, (P.D.on h).cell 10, (P.D.on h).cell 11, (P.D.on h).cell 12, (P.D.on h).cell 13, h⟩
              have KS := Lib.hid keepS
              have ask := fun w' (h : Below wz.heap.size wz w') => both_same F (P.on h)
              have ovr := fun w' (h : Below wz.heap.size wz w') => sover (P.on h) o2
              have ASK := Lib.hid ask; have OVR := Lib.hid ovr
              have hbW := P.bel
              obtain ⟨x1, z0, z1, z2, z3, z4, z5, z6, z7, z8, z9, z10, z11, z12, z13, _⟩ := keepS wz (Below.refl _ _)
              clear keepS ask ovr
              go_region_held3 (fun w' => w'.cell? ⟨o, 1, none⟩ = some (.int .i64 o2) ∧ w'.cell? ⟨gd, 0, none⟩ = some (.int .i64 1) ∧ w'.cell? ⟨gd, 1, none⟩ = some (.string id) ∧ w'.cell? ⟨gd, 2, none⟩ = some (.string tg) ∧ w'.cell? ⟨gd, 3, none⟩ = some (.string ac) ∧ w'.cell? ⟨gd, 4, none⟩ = some (.string sy) ∧ w'.cell? ⟨gd, 5, none⟩ = some (.int .i64 sd) ∧ w'.cell? ⟨gd, 6, none⟩ = some (.int .i64 q') ∧ w'.cell? ⟨gd, 7, none⟩ = some (.int .i64 p') ∧ w'.cell? ⟨gd, 8, none⟩ = some (.int .i64 al) ∧ w'.cell? ⟨gd, 9, none⟩ = some (.int .i64 st) ∧ w'.cell? ⟨gd, 10, none⟩ = some (.int .i64 en') ∧ w'.cell? ⟨gd, 11, none⟩ = some (.int .i64 rt) ∧ w'.cell? ⟨gd, 12, none⟩ = some (.int .i64 sh) ∧ w'.cell? ⟨gd, 13, none⟩ = some (.slice A l.length c) ∧ Below wz.heap.size wz w') (first | exact KS.out _ (by repeat (first | exact Below.refl _ _ | assumption | apply below_drew1 | apply pw_below_drewN | refine bt ?_ hb1 | refine bt ?_ hb2 | refine bt ?_ hb3))) (first | (go_at_call 18; (with_reducible refine (ASK.out _ (by repeat (first | exact Below.refl _ _ | assumption | apply below_drew1 | apply pw_below_drewN | refine bt ?_ hb1 | refine bt ?_ hb2 | refine bt ?_ hb3))).mono ?_); rintro e wa ⟨B2, d2, rfl, hd2, hC2, hb1⟩) | (go_at_call 11; (with_reducible refine (plain_walk 1 sd q' p' al st en' rt sh id tg ac sy B2 l.length d2 _).mono ?_); rintro e wb ⟨rfl, hb2⟩) | (go_at_call 17; (with_reducible refine (both_eq (sd := sd) (q := q') (p := p') (en := en') (id := id) (tg := tg) (ac := ac) (sy := sy) F B2 d2 hd2 _ (bt hbW (by repeat (first | exact Below.refl _ _ | assumption | apply below_drew1 | apply pw_below_drewN | refine bt ?_ hb1 | refine bt ?_ hb2 | refine bt ?_ hb3))) (Kd.C_below hC2 (by repeat (first | exact Below.refl _ _ | assumption | apply below_drew1 | refine bt ?_ hb2)))).mono ?_); rintro e wc ⟨rfl, hb3⟩) | (go_at_call 19; (with_reducible refine (OVR.out _ (by repeat (first | exact Below.refl _ _ | assumption | apply below_drew1 | apply pw_below_drewN | refine bt ?_ hb1 | refine bt ?_ hb2 | refine bt ?_ hb3))).mono ?_); rintro e wd ⟨rfl, rfl⟩))
              have P := P.on (w' := wd) (by repeat (first | exact Below.refl _ _ | assumption | apply below_drew1 | apply pw_below_drewN | refine bt ?_ hb1 | refine bt ?_ hb2 | refine bt ?_ hb3))
              go_wp2_with fail
              go_roundw
              case rel => exact ⟨j + 1, _, _, _, by omega, by go_num, P⟩
              case measure => simp only [intOf]; omega
            · have k1b : (o1 == 1) = false := beq_eq_false_iff_ne.2 k1
              have t1 := starget_all F P o2 o3 o4
              have t2 := fun w' (h : Below w8.heap.size w8 w') => dtarget_all F (P.on h) o2 o3 o4
              have t3 := fun w' (h : Below w8.heap.size w8 w') => goal2 gs 1 sd q' p' al st en' rt sh v o2 o3 o4 o5 _ _ id tg ac sy _ _ hin w' (P.on h).S (starget_all F (P.on h) o2 o3 o4)
              have t4 := fun w' (h : Below w8.heap.size w8 w') => dgoal2 gd 1 sd q' p' al st en' rt sh v o2 o3 o4 o5 _ _ id tg ac sy _ hin w' (P.on h).D (dtarget_all F (P.on h) o2 o3 o4)
              generalize (tgA al q' st en' rt sh l v o2 o3 o4).1 = r1 at *
              generalize (tgA al q' st en' rt sh l v o2 o3 o4).2 = r2 at *
              generalize (if r2 = 0 then (goalS r1 o5 q').1 else 0) = r3 at *
              generalize (if r2 = 0 then (goalS r1 o5 q').2 else r2) = r4 at *
              have T1 := Lib.hid t1; have T2 := Lib.hid t2; have T3 := Lib.hid t3; have T4 := Lib.hid t4
              clear t1 t2 t3 t4
              go_wp2_with fail
              refine T1.out.mono ?_
              rintro e w9 ⟨rfl, hb⟩
              have hbs := hb
              have hO1 := hO.on hbs
              clear hb T1 x0 x1 x2 x3 x4
              have x0 := hO1.cell 0; have x1 := hO1.cell 1; have x2 := hO1.cell 2; have x3 := hO1.cell 3; have x4 := hO1.cell 4
              simp at x0 x1 x2 x3 x4
              go_wp2_with fail
              refine (T2.out _ hbs).mono ?_
              rintro e w10 ⟨rfl, hb⟩
              have hbs := bt hbs hb
              have hO1 := hO.on hbs
              clear hb T2 x0 x1 x2 x3 x4
              have x0 := hO1.cell 0; have x1 := hO1.cell 1; have x2 := hO1.cell 2; have x3 := hO1.cell 3; have x4 := hO1.cell 4
              simp at x0 x1 x2 x3 x4
              go_wp2_with fail
              refine (T3.out _ hbs).mono ?_
              rintro e w11 ⟨rfl, hb⟩
              have hbs := bt hbs hb
              have hO1 := hO.on hbs
              clear hb T3 x0 x1 x2 x3 x4
              have x0 := hO1.cell 0; have x1 := hO1.cell 1; have x2 := hO1.cell 2; have x3 := hO1.cell 3; have x4 := hO1.cell 4
              simp at x0 x1 x2 x3 x4
              go_wp2_with fail
              refine (T4.out _ hbs).mono ?_
              rintro e w12 ⟨rfl, hb⟩
              have hbs := bt hbs hb
              have P := P.on hbs
              have hO := hO.on hbs
              clear hb T4 x0 x1 x2 x3 x4 hO1 hbs
              go_upto_region 23 with (fail)
              -- both say what they are
              have keepS : ∀ w', Below w12.heap.size w12 w' → w'.cell? ⟨o, 1, none⟩ = some (.int .i64 o2) ∧ w'.cell? ⟨gd, 0, none⟩ = some (.int .i64 1) ∧ w'.cell? ⟨gd, 1, none⟩ = some (.string id) ∧ w'.cell? ⟨gd, 2, none⟩ = some (.string tg) ∧ w'.cell? ⟨gd, 3, none⟩ = some (.string ac) ∧ w'.cell? ⟨gd, 4, none⟩ = some (.string sy) ∧ w'.cell? ⟨gd, 5, none⟩ = some (.int .i64 sd) ∧ w'.cell? ⟨gd, 6, none⟩ = some (.int .i64 q') ∧ w'.cell? ⟨gd, 7, none⟩ = some (.int .i64 p') ∧ w'.cell? ⟨gd, 8, none⟩ = some (.int .i64 al) ∧ w'.cell? ⟨gd, 9, none⟩ = some (.int .i64 st) ∧ w'.cell? ⟨gd, 10, none⟩ = some (.int .i64 en') ∧ w'.cell? ⟨gd, 11, none⟩ = some (.int .i64 rt) ∧ w'.cell? ⟨gd, 12, none⟩ = some (.int .i64 sh) ∧ w'.cell? ⟨gd, 13, none⟩ = some (.slice A l.length c) ∧ Below w12.heap.size w12 w' := fun w' h => ⟨(hO.on h).cell 1, (P.D.on h).cell 0, (P.D.on h).cell 1, (P.D.on h).cell 2, (P.D.on h).cell 3, (P.D.on h).cell 4, (P.D.on h).cell 5, (P.D.on h).cell 6, (P.D.on h).cell 7, (P.D.on h).cell 8, (P.D.on h).cell 9, (P.D.on h).cell 10, (P.D.on h).cell 11, (P.D.on h).cell 12, (P.D.on h).cell 13, h⟩
              have KS := Lib.hid keepS
              have ask := fun w' (h : Below w12.heap.size w12 w') => both_same F (P.on h)
              have ovr := fun w' (h : Below w12.heap.size w12 w') => sover (P.on h) o2
              have ASK := Lib.hid ask; have OVR := Lib.hid ovr
              have hbW := P.bel
              obtain ⟨x1, z0, z1, z2, z3, z4, z5, z6, z7, z8, z9, z10, z11, z12, z13, _⟩ := keepS w12 (Below.refl _ _)
              clear keepS ask ovr
              go_region_held3 (fun w' => w'.cell? ⟨o, 1, none⟩ = some (.int .i64 o2) ∧ w'.cell? ⟨gd, 0, none⟩ = some (.int .i64 1) ∧ w'.cell? ⟨gd, 1, none⟩ = some (.string id) ∧ w'.cell? ⟨gd, 2, none⟩ = some (.string tg) ∧ w'.cell? ⟨gd, 3, none⟩ = some (.string ac) ∧ w'.cell? ⟨gd, 4, none⟩ = some (.string sy) ∧ w'.cell? ⟨gd, 5, none⟩ = some (.int .i64 sd) ∧ w'.cell? ⟨gd, 6, none⟩ = some (.int .i64 q') ∧ w'.cell? ⟨gd, 7, none⟩ = some (.int .i64 p') ∧ w'.cell? ⟨gd, 8, none⟩ = some (.int .i64 al) ∧ w'.cell? ⟨gd, 9, none⟩ = some (.int .i64 st) ∧ w'.cell? ⟨gd, 10, none⟩ = some (.int .i64 en') ∧ w'.cell? ⟨gd, 11, none⟩ = some (.int .i64 rt) ∧ w'.cell? ⟨gd, 12, none⟩ = some (.int .i64 sh) ∧ w'.cell? ⟨gd, 13, none⟩ = some (.slice A l.length c) ∧ Below w12.heap.size w12 w') (first | exact KS.out _ (by repeat (first | exact Below.refl _ _ | assumption | apply below_drew1 | apply pw_below_drewN | refine bt ?_ hb1 | refine bt ?_ hb2 | refine bt ?_ hb3))) (first | (go_at_call 18; (with_reducible refine (ASK.out _ (by repeat (first | exact Below.refl _ _ | assumption | apply below_drew1 | apply pw_below_drewN | refine bt ?_ hb1 | refine bt ?_ hb2 | refine bt ?_ hb3))).mono ?_); rintro e wa ⟨B2, d2, rfl, hd2, hC2, hb1⟩) | (go_at_call 11; (with_reducible refine (plain_walk 1 sd q' p' al st en' rt sh id tg ac sy B2 l.length d2 _).mono ?_); rintro e wb ⟨rfl, hb2⟩) | (go_at_call 17; (with_reducible refine (both_eq (sd := sd) (q := q') (p := p') (en := en') (id := id) (tg := tg) (ac := ac) (sy := sy) F B2 d2 hd2 _ (bt hbW (by repeat (first | exact Below.refl _ _ | assumption | apply below_drew1 | apply pw_below_drewN | refine bt ?_ hb1 | refine bt ?_ hb2 | refine bt ?_ hb3))) (Kd.C_below hC2 (by repeat (first | exact Below.refl _ _ | assumption | apply below_drew1 | refine bt ?_ hb2)))).mono ?_); rintro e wc ⟨rfl, hb3⟩) | (go_at_call 19; (with_reducible refine (OVR.out _ (by repeat (first | exact Below.refl _ _ | assumption | apply below_drew1 | apply pw_below_drewN | refine bt ?_ hb1 | refine bt ?_ hb2 | refine bt ?_ hb3))).mono ?_); rintro e wd ⟨rfl, rfl⟩))
              have P := P.on (w' := wd) (by repeat (first | exact Below.refl _ _ | assumption | apply below_drew1 | apply pw_below_drewN | refine bt ?_ hb1 | refine bt ?_ hb2 | refine bt ?_ hb3))
              go_wp2_with fail
              go_roundw
              case rel => exact ⟨j + 1, _, _, _, by omega, by go_num, P⟩
              case measure => simp only [intOf]; omega
          · clear Hops
            go_wp2_with fail
            go_ret
            exact ⟨rfl, P.bel⟩
      · have hn := new_bad k sd q p al st en rt sh v id tg ac sy A c l hc (by
          by_cases h1 : k = 1
          · by_cases h2 : (nameV id && freshS tg ac sy sd q p al st en rt sh l) = true
            · refine .inr (.inr fun h3 => hok ⟨h1, ?_⟩)
              rw [h2, decide_eq_true h3]; rfl
            · exact .inr (.inl (by simpa using h2))
          · exact .inl h1) w2 (Kd.C_below hl hB)
        have HN := Lib.hid hn
        clear hn
        go_wp2_with fail
        refine HN.out.mono ?_
        rintro e w3 ⟨rfl, b⟩
        have bX := bX.on b
        have hB := bt hB b
        clear b HN
        clear y0 y1 y2 y3 y4 y5 y6 y7 y8 y9 y10 y11 y12 y13
        have y0 := bX.cell 0; have y1 := bX.cell 1; have y2 := bX.cell 2; have y3 := bX.cell 3; have y4 := bX.cell 4; have y5 := bX.cell 5; have y6 := bX.cell 6; have y7 := bX.cell 7; have y8 := bX.cell 8; have y9 := bX.cell 9; have y10 := bX.cell 10; have y11 := bX.cell 11; have y12 := bX.cell 12; have y13 := bX.cell 13
        simp at y0 y1 y2 y3 y4 y5 y6 y7 y8 y9 y10 y11 y12 y13
        go_wp2_with fail
        refine (plain_walk k sd q p al st en rt sh id tg ac sy A l.length c w3).mono ?_
        rintro e w4 ⟨rfl, b⟩
        have bX := bX.on b
        have hB := bt hB b
        clear b
        clear y0 y1 y2 y3 y4 y5 y6 y7 y8 y9 y10 y11 y12 y13
        have y0 := bX.cell 0; have y1 := bX.cell 1; have y2 := bX.cell 2; have y3 := bX.cell 3; have y4 := bX.cell 4; have y5 := bX.cell 5; have y6 := bX.cell 6; have y7 := bX.cell 7; have y8 := bX.cell 8; have y9 := bX.cell 9; have y10 := bX.cell 10; have y11 := bX.cell 11; have y12 := bX.cell 12; have y13 := bX.cell 13
        simp at y0 y1 y2 y3 y4 y5 y6 y7 y8 y9 y10 y11 y12 y13
        go_wp2_with fail
        have hr : Calls Try.prog 10 #[.agg (askC k sd q p al st en rt sh id tg ac sy (.slice A l.length c)), .int .i64 v] w4 fun e w' => e = .returned (.bool false) ∧ Below w4.heap.size w4 w' := by
          by_cases h1 : k = 1
          · subst h1
            have hr := right27d_walk sd q p al st en rt sh v id tg ac sy A c l hc (by omega) (by omega) (by omega) (by omega) w4 (Kd.C_below hl hB)
            rw [show (nameV id && freshS tg ac sy sd q p al st en rt sh l && decide (0 ≤ v ∧ v ≤ 4611686018427387904)) = false from by rw [Bool.eq_false_iff]; exact fun h => hok ⟨rfl, h⟩] at hr
            exact hr
          · exact right27d_no k sd q p al st en rt sh v id tg ac sy A l.length c h1 w4
        refine hr.mono ?_
        rintro e w5 ⟨rfl, b⟩
        have hB := bt hB b
        clear b hr hok
        go_wp2_with fail
        go_ret
        exact ⟨rfl, hB⟩
    · have h60' : (60 : Int) < (ops.length : Int) := by omega
      go_wp2_with fail
      go_ret
      exact ⟨rfl, hB⟩
theorem SlicerPlays (a0_0 : Int) (a0_1 : ByteArray) (a0_2 : ByteArray) (a0_3 : ByteArray) (a0_4 : ByteArray) (a0_5 : Int) (a0_6 : Int) (a0_7 : Int) (a0_8 : Int) (a0_9 : Int) (a0_10 : Int) (a0_11 : Int) (a0_12 : Int) (A0_13 : Option Addr) (n0_13 k0_13 : Nat) (z0_13 : List Int) (a1 : Int) (A2 : Option Addr) (c2 : Nat) (l2 : List (Int × Int × Int × Int × Int)) (W : World) (w0_0 : (Lit.int .i64 a0_0).wf = true) (w0_1 : a0_1.size ≤ maxLen) (w0_2 : a0_2.size ≤ maxLen) (w0_3 : a0_3.size ≤ maxLen) (w0_4 : a0_4.size ≤ maxLen) (w0_5 : (Lit.int .i64 a0_5).wf = true) (w0_6 : (Lit.int .i64 a0_6).wf = true) (w0_7 : (Lit.int .i64 a0_7).wf = true) (w0_8 : (Lit.int .i64 a0_8).wf = true) (w0_9 : (Lit.int .i64 a0_9).wf = true) (w0_10 : (Lit.int .i64 a0_10).wf = true) (w0_11 : (Lit.int .i64 a0_11).wf = true) (w0_12 : (Lit.int .i64 a0_12).wf = true) (w0_13 : IntRow .i64 W A0_13 n0_13 k0_13 z0_13) (w1 : (Lit.int .i64 a1).wf = true) (w2 : (A2 = none ∧ c2 = 0 ∧ l2 = []) ∨ ∃ x, A2 = some x ∧ l2.length ≤ c2 ∧ c2 ≤ maxLen ∧ ∀ i (h : i < l2.length), W.cell? (x.add (i * 5 + 0)) = some (.int .i64 l2[i].1) ∧ W.cell? (x.add (i * 5 + 1)) = some (.int .i64 l2[i].2.1) ∧ W.cell? (x.add (i * 5 + 2)) = some (.int .i64 l2[i].2.2.1) ∧ W.cell? (x.add (i * 5 + 3)) = some (.int .i64 l2[i].2.2.2.1) ∧ W.cell? (x.add (i * 5 + 4)) = some (.int .i64 l2[i].2.2.2.2) ∧ (Lit.int .i64 l2[i].1).wf = true ∧ (Lit.int .i64 l2[i].2.1).wf = true ∧ (Lit.int .i64 l2[i].2.2.1).wf = true ∧ (Lit.int .i64 l2[i].2.2.2.1).wf = true ∧ (Lit.int .i64 l2[i].2.2.2.2).wf = true) :
    Calls Try.prog 4 #[.agg #[.int .i64 a0_0, .string a0_1, .string a0_2, .string a0_3, .string a0_4, .int .i64 a0_5, .int .i64 a0_6, .int .i64 a0_7, .int .i64 a0_8, .int .i64 a0_9, .int .i64 a0_10, .int .i64 a0_11, .int .i64 a0_12, .slice A0_13 n0_13 k0_13], .int .i64 a1, .slice A2 l2.length c2] W fun e W' => e = .returned (.bool true) ∧ Below W.heap.size W W' := by
  obtain ⟨l1, rfl, hr1, hm1, hw1, hc1⟩ := ReadsInt.ofRowC w0_13
  refine plays27 a0_0 a0_5 a0_6 a0_7 a0_8 a0_9 a0_10 a0_11 a0_12 a1 a0_1 a0_2 a0_3 a0_4 A0_13 k0_13 l1 hc1 A2 c2 l2 W (Kd.C_of_reads (d := (0 : Int)) (h1 := fun _ => rfl) hr1) fun i h => ?_
  rcases w2 with ⟨_, _, rfl⟩ | ⟨x, rfl, _, _, hf⟩
  · simp at h
  · obtain ⟨g0, g1, g2, g3, g4, _, _, _, _, w4⟩ := hf i h
    exact ⟨x, rfl, g0, g1, g2, g3, g4, in64_wf w4⟩
end Go.Proofs.Ytapfidpfjbacgaa.Walk
