/- RouterSplits: any slice is split over any offers as the document says, or refused; no condition. -/
import Derived.Test.YtadjadakncidgaaRou6
import Derived.WideLaws
set_option linter.unusedVariables false
set_option linter.unusedSimpArgs false
namespace Go.Proofs.Ytadjadakncidgaa.Walk
open Go Go.RowKit Go.Proofs.YtadjadakncidgaaW.PrintWords Go.Proofs.YtadjadakncidgaaW.PrintMore Go.Proofs.YtadjadakncidgaaW.PrintLast Go.Proofs.Ytadjadakncidgaa.RL Go.Proofs.Ytadjadakncidgaa.PL Go.Proofs.Ytadjadakncidgaa.St Go.Proofs.Ytadjadakncidgaa.U Go.Proofs.Ytadjadakncidgaa.Hand
theorem eqPid (d : Nat) (w : World) (x0 y0 : Int) (x1 y1 : Int) :
    (Op.equalIn (d + 2) 46 (.agg #[.int .i64 x0, .int .i64 x1]) (.agg #[.int .i64 y0, .int .i64 y1])).run Try.prog w = .ok (x0 == y0 && (x1 == y1)) w := by
  refine eqA_of Try.underlying46 (by kernel_rfl) ?_
  refine eqf_cons (by rfl) (by go_simp; rfl) (by go_simp; rfl) (by go_simp) ?_
  exact eqf_last (by rfl) (by go_simp; rfl) (by go_simp; rfl) (by go_simp)
attribute [local go_sem high] eqPid
theorem awake23w (w : World) : Calls Try.prog 8 #[] w fun e w' => e = .returned (.bool true) ∧ Below w.heap.size w w' := spigotlaw23_awake.calls true w awake23
set_option maxHeartbeats 4000000 in
set_option maxRecDepth 100000 in
theorem splits_ok (q lot : Int) (A : Option Addr) (c : Nat) (l : List Off) (h30 : l.length ≤ 30) (w : World) (hl : Kd.C k35 w A l.length l) (hc : l.length ≤ c) :
    Calls Try.prog 5 #[.int .i64 q, .int .i64 lot, .slice A l.length c] w fun e w' => e = .returned (.bool true) ∧ Below w.heap.size w w' := by
  have h1 := fun w1 (hb : Below w.heap.size w w1) => router_Split.calls q lot A c l (splitV q lot l).1 (splitV q lot l).2 w1 (Kd.C_below hl hb) hc (by unfold router_Split.f; rw [if_pos (by omega)])
  have h2 := fun w1 (hb : Below w.heap.size w w1) => spigotlaw23_plain.calls A c l (l.map cvO) w1 (Kd.C_below hl hb) hc (by unfold spigotlaw23_plain.f; rw [if_pos (by omega)])
  have h3 := fun (w1 : World) B c2 (hr : Kd.C k36 w1 B (l.map cvO).length (l.map cvO)) (hc2 : (l.map cvO).length ≤ c2) => spigotref23_Asked.calls _ q lot B c2 (l.map cvO) (askV q lot l) w1 hr hc2 (rasked_is q lot l (by omega) (l.length + 2) (Nat.le_refl _))
  have hlm : (l.map cvO).length = l.length := List.length_map _
  have h4 : askV q lot l = 0 → ∀ (w1 : World) B c2 (hr : Kd.C k36 w1 B (l.map cvO).length (l.map cvO)) (hc2 : (l.map cvO).length ≤ c2), Calls Try.prog 16 #[.int .i64 q, .int .i64 lot, .slice B (l.map cvO).length c2] w1 fun e w' => ∃ v0_ : Value, e = .returned v0_ ∧ Kd.R k46 46 w' w1.heap.size (fun _ => True) v0_ ((splitV q lot l).1.map cvP) ∧ Below w1.heap.size w1 w' := by
    intro h0 w1 B c2 hr hc2
    have e : (splitV q lot l).1 = splitS (isortB ahd l) ((isortB ahd l).map (stepO lot)) q := by unfold splitV; rw [if_pos h0]
    rw [e]
    exact spigotref23_Split.calls _ q lot B c2 (l.map cvO) _ w1 hr hc2 (rsplit_is q lot l h0 _ (Nat.le_refl _))
  have hv : askV q lot l = 0 ∧ (splitV q lot l).2 = 0 ∨ askV q lot l ≠ 0 ∧ (splitV q lot l).2 = askV q lot l ∧ (splitV q lot l).1 = [] := by
    unfold splitV
    by_cases h : askV q lot l = 0
    · rw [if_pos h]; exact .inl ⟨h, rfl⟩
    · rw [if_neg h]; exact .inr ⟨h, rfl, rfl⟩
  have haw := fun w => awake23w w
  generalize (splitV q lot l).1 = ps at *
  generalize (splitV q lot l).2 = e2 at *
  generalize askV q lot l = av at *
  have H1 := Lib.hid h1; have H2 := Lib.hid h2; have H3 := Lib.hid h3; have H4 := Lib.hid h4; have Haw := Lib.hid haw; have HLM := Lib.hid hlm
  clear h1 h2 h3 h4 haw hl hlm
  generalize l.map cvO = lm at *
  generalize l.length = n at *
  go_enter Try.func5, Try.ntmps5
  go_wp2_with fail
  refine (Haw.out _).mono ?_
  rintro e w1 ⟨rfl, b1⟩
  go_wp2_with fail
  refine (H1.out _ b1).mono ?_
  rintro e w2 ⟨v2, rfl, r2, b2⟩
  have B2 : Below w.heap.size w w2 := bt b1 b2
  obtain ⟨A2, c2, rfl⟩ := Kd.R_slice r2
  have R2 := Lib.hid r2
  clear r2 b2 b1 H1 Haw
  go_wp2_with fail
  refine (H2.out _ B2).mono ?_
  rintro e w3 ⟨v3, rfl, r3, b3⟩
  have B3 := bt B2 b3
  have R3 := Lib.hid (Kd.R_below R2.out b3)
  obtain ⟨A3, c3, rfl⟩ := Kd.R_slice r3
  have hr3 := (Kd.R_reads' r3).2
  have HR3 := Lib.hid hr3
  clear r3 hr3 b3 B2 R2
  go_wp2_with fail
  refine (H3.out w3 _ _ HR3.out.2 HR3.out.1).mono ?_
  rintro e w4 ⟨rfl, d4⟩
  have b4 := d4.below
  have B4 := bt B3 b4
  have R4 := Lib.hid (Kd.R_below R3.out b4)
  clear b4 d4 R3 HR3 B3 H3
  rcases hv with ⟨rfl, rfl⟩ | ⟨hne, rfl, rfl⟩
  · go_wp2_with fail
    refine (H2.out _ B4).mono ?_
    rintro e w5 ⟨v5, rfl, r5, b5⟩
    have B5 := bt B4 b5
    have R5 := Lib.hid (Kd.R_below R4.out b5)
    obtain ⟨A5, c5, rfl⟩ := Kd.R_slice r5
    have hr5 := (Kd.R_reads' r5).2
    have HR5 := Lib.hid hr5
    clear r5 hr5 b5 B4 R4
    go_wp2_with fail
    refine (H4.out trivial w5 _ _ HR5.out.2 HR5.out.1).mono ?_
    rintro e w6 ⟨v6, rfl, r6, b6⟩
    have B6 := bt B5 b6
    obtain ⟨A6, c6, rfl⟩ := Kd.R_slice r6
    rw [List.length_map] at r6 ⊢
    have hr6 := (Kd.R_reads' r6).2.2
    have hr2 := (Kd.R_reads' (Kd.R_below R5.out b6)).2.2
    rw [List.length_map] at hr6
    have C6 := Lib.hid hr6; have C2 := Lib.hid hr2; have B6 := Lib.hid B6
    clear r6 hr6 hr2 b6 B5 R5 HR5 H4 H2
    go_wp2_with fail
    go_loopw [56] (fun i wr => ∃ k : Nat, k ≤ ps.length ∧ i = .int .i64 k ∧ Hid (Kd.C k45 wr A2 ps.length ps ∧ Kd.C k46 wr A6 ps.length (ps.map cvP) ∧ Below w.heap.size w wr)) (fun i _ => ps.length - (intOf i).toNat)
    case atStart => exact ⟨0, Nat.zero_le _, rfl, Lib.hid ⟨C2.out, C6.out, B6.out⟩⟩
    case round =>
      clear C2 C6 B6
      obtain ⟨k, hk, rfl, H⟩ := hrel
      by_cases hlt : k < ps.length
      · obtain ⟨x2, x6, b⟩ := H.out
        have hps : ps.length ≤ 9223372036854775807 := x2.2.1
        obtain ⟨ad2, rfl, p0, p1⟩ := at_T45 x2 (k : Int) (by omega) (by omega)
        obtain ⟨ad6, rfl, q0, q1⟩ := at_T46 x6 (k : Int) (by omega) (by omega)
        have e2 : rd_T45 ps (k : Int) = ps[k] := by unfold rd_T45; simp [hlt]
        have e6 : rd_T46 (ps.map cvP) (k : Int) = cvP ps[k] := by unfold rd_T46; simp [hlt]
        rw [e2] at p0 p1
        rw [e6] at q0 q1
        simp only [Int.toNat_natCast, cvP] at p0 p1 q0 q1
        obtain ⟨y, hy⟩ : ∃ y, ps[k] = y := ⟨_, rfl⟩
        rw [hy] at p0 p1 q0 q1
        clear hy e2 e6
        have s2 : (ad2.add (k * 2)).block < wr.heap.size := World.block_lt_of_cell? wr _ p0
        have s6 : (ad6.add (k * 2)).block < wr.heap.size := World.block_lt_of_cell? wr _ q0
        have W5 := (Below.refl wr.heap.size wr).alloc (Nat.le_refl _) (.cells #[.int .i64 y.f0, .int .i64 y.f1] 45)
        have HF := Lib.hid (show Kd.C k45 _ (some ad2) ps.length ps ∧ Kd.C k46 _ (some ad6) ps.length (ps.map cvP) ∧ Below w.heap.size w ((wr.alloc (.cells #[.int .i64 y.f0, .int .i64 y.f1] 45)).drew) from ⟨Kd.C_below x2 (pw_below_drewN W5 1), Kd.C_below x6 (pw_below_drewN W5 1), pw_below_drewN (b.alloc b.size (.cells #[.int .i64 y.f0, .int .i64 y.f1] 45)) 1⟩)
        clear x2 x6 b H W5
        go_wp2_with fail
        go_region
        all_goals
          go_wp2_with fail
          go_roundw
          case rel => exact ⟨k + 1, by omega, by go_num, HF⟩
          case measure => simp [intOf]; omega
      · go_wp2_with fail
        go_ret
        exact ⟨rfl, H.out.2.2⟩
  · have hne' : (e2 == 0) = false := by simpa using hne
    go_wp2_with fail
    go_ret
    exact ⟨rfl, B4⟩
set_option maxHeartbeats 1000000 in
theorem splits_long (q lot : Int) (A : Option Addr) (c n : Nat) (h : 30 < n) (w : World) :
    Calls Try.prog 5 #[.int .i64 q, .int .i64 lot, .slice A n c] w fun e w' => e = .returned (.bool true) ∧ Below w.heap.size w w' := by
  have haw := fun w => awake23w w
  have Haw := Lib.hid haw
  clear haw
  go_enter Try.func5, Try.ntmps5
  go_wp2_with fail
  refine (Haw.out _).mono ?_
  rintro e w1 ⟨rfl, b1⟩
  go_wp2_with fail
  go_ret
  exact ⟨rfl, b1⟩
theorem RouterSplits (a0 : Int) (a1 : Int) (A2 : Option Addr) (c2 : Nat) (l2 : List (Int × Int × Int × Int × Bool)) (W : World) (w0 : (Lit.int .i64 a0).wf = true) (w1 : (Lit.int .i64 a1).wf = true) (w2 : (A2 = none ∧ c2 = 0 ∧ l2 = []) ∨ ∃ x, A2 = some x ∧ l2.length ≤ c2 ∧ c2 ≤ maxLen ∧ ∀ i (h : i < l2.length), W.cell? (x.add (i * 5 + 0)) = some (.int .i64 l2[i].1) ∧ W.cell? (x.add (i * 5 + 1)) = some (.int .i64 l2[i].2.1) ∧ W.cell? (x.add (i * 5 + 2)) = some (.int .i64 l2[i].2.2.1) ∧ W.cell? (x.add (i * 5 + 3)) = some (.int .i64 l2[i].2.2.2.1) ∧ W.cell? (x.add (i * 5 + 4)) = some (.bool l2[i].2.2.2.2) ∧ (Lit.int .i64 l2[i].1).wf = true ∧ (Lit.int .i64 l2[i].2.1).wf = true ∧ (Lit.int .i64 l2[i].2.2.1).wf = true ∧ (Lit.int .i64 l2[i].2.2.2.1).wf = true) :
    Calls Try.prog 5 #[.int .i64 a0, .int .i64 a1, .slice A2 l2.length c2] W fun e W' => e = .returned (.bool true) ∧ Below W.heap.size W W' := by
  by_cases h : l2.length ≤ 30
  · have hl : l2.length = (l2.map mkO).length := by rw [List.length_map]
    rw [hl]
    refine splits_ok a0 a1 A2 c2 (l2.map mkO) (by rw [← hl]; exact h) W (offR_to (by rw [← hl]; omega) (offR_row W A2 c2 l2 w2)) ?_
    rw [← hl]
    rcases w2 with ⟨_, _, rfl⟩ | ⟨x, _, h1, _⟩
    · simp
    · exact h1
  · exact splits_long a0 a1 A2 c2 _ (by omega) W
end Go.Proofs.Ytadjadakncidgaa.Walk
