/- PositionPlays: every play of executions, and of those that are taken back, is the document's: what was bought, what was sold, what it was worth, what is refused; any numbers of accounts and symbols, any list of executions (more than 40 are let go by the statement itself); no condition. -/
import Derived.Test.YtenlifjfehnldaaPosP
import Derived.LoopTactic
import Derived.BigRegion
import Derived.Outline
set_option linter.unusedVariables false
set_option linter.unusedSimpArgs false
namespace Go.Proofs.Ytenlifjfehnldaa.Walk
open Go Go.RowKit Go.Proofs.YtenlifjfehnldaaW.PrintWords Go.Proofs.YtenlifjfehnldaaW.PrintMore Go.Proofs.Ytenlifjfehnldaa.Hand Go.Proofs.Ytenlifjfehnldaa.PL Go.Proofs.Ytenlifjfehnldaa.RL
theorem new_is (a s : Nat) (h1 : 1 ≤ a) (h2 : a ≤ 16) (h3 : 1 ≤ s) (h4 : s ≤ 16) (w : World) : Calls Try.prog 7 #[.int .i64 a, .int .i64 s] w fun e w' => e = .returned (.tuple #[.pointer (some ⟨w.heap.size + 1, 0, none⟩), .int .i64 0]) ∧ Blk w' (w.heap.size + 1) 48 (posC a s w.heap.size) ∧ Blk w' w.heap.size 71 (ints (List.replicate (a * s * 4) 0)) ∧ Below w.heap.size w w' := by
  refine (pnew_ok a s h1 h2 h3 h4 w).mono ?_
  rintro e w' ⟨rfl, rfl⟩
  have h1 := Blk.new (w.alloc (.cells (ints (List.replicate (a * s * 4) 0)) 71)) 48 (posC a s w.heap.size)
  simp only [World.size_alloc] at h1
  exact ⟨rfl, h1, (Blk.new w 71 (ints (List.replicate (a * s * 4) 0))).alloc _, ((Below.refl _ w).alloc (Nat.le_refl _) _).alloc (by simp) _⟩
theorem kE_moved {g : Nat} {L L' : List Int} {W W' : World} (hg : Blk W g 71 (ints L)) (hm : Moved g L' W W') {A : Option Addr} {n : Nat} {xs : List Ex} (h : Kd.C kE W A n xs) : Kd.C kE W' A n xs := by
  refine ⟨h.1, h.2.1, fun hn => ?_⟩
  obtain ⟨ad, e, hc⟩ := h.2.2 hn
  refine ⟨ad, e, fun j p hj => ?_⟩
  obtain ⟨cs, hs, hr, hcell⟩ := hc j p hj
  have hr2 := kE_open hr
  subst hr2
  have hbk : ∀ k, (ad.add k).block = ad.block := fun k => by unfold Addr.add; first | rfl | (split <;> rfl)
  have hne : ad.block ≠ g := by
    intro hq
    have h5 := hcell 5 (.bool p.2.2.2.2.2) rfl
    unfold World.cell? at h5
    unfold Blk at hg
    rw [show (ad.add (j * kE.sz + 5)).block = g from (hbk _).trans hq, hg] at h5
    dsimp only at h5
    split at h5
    · cases h5
    · by_cases hk : (ad.add (j * kE.sz + 5)).off < L.length
      · rw [ints_at L _ hk] at h5; cases h5
      · rw [Array.getElem?_eq_none (by simp [ints]; omega)] at h5; cases h5
  refine ⟨cE p, hs, kE_mk _ _, fun i u hu => ?_⟩
  have h6 := hcell i u hu
  have hlt : ad.block < W.heap.size := by rw [← hbk (j * kE.sz + i)]; exact World.block_lt_of_cell? W _ h6
  have he := hm.2.2.1 ad.block hlt hne
  unfold World.cell? at h6 ⊢
  rw [hbk] at h6 ⊢
  rw [he]; exact h6
/-- How far the play is. -/
structure PlayI (g p a s : Nat) (W wr : World) (k : Nat) (A : Option Addr) (c : Nat) (M : List Ex) (L : List Int) : Prop where
  tie : Tie a s L M
  len : M.length ≤ k
  row : Kd.C kE wr A M.length M
  cap : M.length ≤ c
  P : Blk wr p 48 (posC a s g)
  G : Blk wr g 71 (ints L)
  bel : Below W.heap.size W wr
theorem PlayI.on {g p a s : Nat} {W wr w' : World} {k : Nat} {A : Option Addr} {c : Nat} {M : List Ex} {L : List Int} (h : PlayI g p a s W wr k A c M L) (hb : Below wr.heap.size wr w') : PlayI g p a s W w' k A c M L :=
  ⟨h.tie, h.len, Kd.C_below h.row hb, h.cap, h.P.below hb h.P.lt, h.G.below hb h.G.lt, bt h.bel hb⟩
theorem new_no (a s : Int) (h : a < 1 ∨ 16 < a ∨ s < 1 ∨ 16 < s) (w : World) : Calls Try.prog 7 #[.int .i64 a, .int .i64 s] w fun e w' => e = .returned (.tuple #[.pointer none, .int .i64 2]) ∧ Below w.heap.size w w' := by
  by_cases h1 : a < 1 ∨ 16 < a
  · have hx := fun w => pw_no a 1 16 (by omega) w
    have Hx := Lib.hid hx
    clear hx h
    go_enter Try.func7, Try.ntmps7
    go_wp2_with (go_at_call 18; refine (Hx.out _).mono ?_; rintro e w' ⟨rfl, rfl⟩)
    exact bodyPost_ret (v := .tuple #[.pointer none, .int .i64 2]) (by simp [results, Try.results7, go_sem]) rfl ⟨rfl, Below.refl _ _⟩
  · have hx := fun w => pw_yes a 1 16 (by omega) (by omega) w
    have hy := fun w => pw_no s 1 16 (by omega) w
    have Hx := Lib.hid hx
    have Hy := Lib.hid hy
    clear hx hy h
    go_enter Try.func7, Try.ntmps7
    go_wp2_with (go_at_call 18; first | ((with_reducible refine (Hx.out _).mono ?_); rintro e w' ⟨rfl, rfl⟩) | ((with_reducible refine (Hy.out _).mono ?_); rintro e w' ⟨rfl, rfl⟩))
    exact bodyPost_ret (v := .tuple #[.pointer none, .int .i64 2]) (by simp [results, Try.results7, go_sem]) rfl ⟨rfl, Below.refl _ _⟩
theorem plays_long (A : Option Addr) (c n : Nat) (h : 40 < n) (a s : Int) (W : World) :
    Calls Try.prog 3 #[.int .i64 a, .int .i64 s, .slice A n c] W fun e W' => e = .returned (.bool true) ∧ Below W.heap.size W W' := by
  have haw := fun w => awake18 w
  have Haw := Lib.hid haw
  clear haw
  go_enter Try.func3, Try.ntmps3
  go_wp2_with fail
  refine (Haw.out _).mono ?_
  rintro e w1 ⟨rfl, hb1⟩
  go_wp2_with fail
  go_ret
  exact ⟨rfl, hb1⟩
set_option maxHeartbeats 8000000 in
set_option maxRecDepth 100000 in
theorem plays_out (A : Option Addr) (c n : Nat) (h : n ≤ 40) (a s : Int) (ha : a < 1 ∨ 16 < a ∨ s < 1 ∨ 16 < s) (W : World) :
    Calls Try.prog 3 #[.int .i64 a, .int .i64 s, .slice A n c] W fun e W' => e = .returned (.bool true) ∧ Below W.heap.size W W' := by
  have haw := fun w => awake18 w
  have Haw := Lib.hid haw
  have hnw := fun w => new_no a s ha w
  have Hnw := Lib.hid hnw
  clear haw hnw
  go_enter Try.func3, Try.ntmps3
  go_wp2_with fail
  refine (Haw.out _).mono ?_
  rintro e w1 ⟨rfl, hb1⟩
  go_wp2_with fail
  refine (Hnw.out _).mono ?_
  rintro e w2 ⟨rfl, hb2⟩
  have hb2 := bt hb1 hb2
  have ha' : a < 1 ∨ (1 ≤ a ∧ 16 < a) ∨ (1 ≤ a ∧ a ≤ 16 ∧ s < 1) ∨ (1 ≤ a ∧ a ≤ 16 ∧ 1 ≤ s ∧ 16 < s) := by omega
  clear ha
  rcases ha' with h1 | ⟨h1, h2⟩ | ⟨h1, h2, h3⟩ | ⟨h1, h2, h3, h4⟩
  all_goals
    go_wp2_with fail
    go_ret
    exact ⟨rfl, hb2⟩
set_option maxHeartbeats 8000000 in
set_option maxRecDepth 100000 in
theorem plays_in (A : Option Addr) (c : Nat) (l : List Ex) (hl : l.length ≤ 40) (a s : Nat) (h1 : 1 ≤ a) (h2 : a ≤ 16) (h3 : 1 ≤ s) (h4 : s ≤ 16) (W : World)
    (hc : ∀ i (h : i < l.length), ∃ x, A = some x ∧ W.cell? (x.add (i * 6)) = some (.int .i64 l[i].1) ∧ W.cell? (x.add (i * 6 + 1)) = some (.int .i64 l[i].2.1) ∧ W.cell? (x.add (i * 6 + 2)) = some (.int .i64 l[i].2.2.1) ∧ W.cell? (x.add (i * 6 + 3)) = some (.int .i64 l[i].2.2.2.1) ∧ W.cell? (x.add (i * 6 + 4)) = some (.int .i64 l[i].2.2.2.2.1) ∧ W.cell? (x.add (i * 6 + 5)) = some (.bool l[i].2.2.2.2.2)) :
    Calls Try.prog 3 #[.int .i64 a, .int .i64 s, .slice A l.length c] W fun e W' => e = .returned (.bool true) ∧ Below W.heap.size W W' := by
  have haw := fun w => awake18 w
  have Haw := Lib.hid haw
  have Hc := Lib.hid hc
  have hnw := fun w => new_is a s h1 h2 h3 h4 w
  have Hnw := Lib.hid hnw
  clear haw hc hnw
  go_enter Try.func3, Try.ntmps3
  go_wp2_with fail
  refine (Haw.out _).mono ?_
  rintro e w1 ⟨rfl, hb1⟩
  go_wp2_with fail
  refine (Hnw.out _).mono ?_
  rintro e w2 ⟨rfl, p2, g2, hb2⟩
  have hs1 : W.heap.size ≤ w1.heap.size := hb1.size
  have hb2 := bt hb1 hb2
  go_wp2_with fail
  have hst : PlayI w1.heap.size (w1.heap.size + 1) a s W w2 0 none 0 [] (List.replicate (a * s * 4) 0) := ⟨tie_zero a s, Nat.le_refl _, Kd.C_nil _ _, Nat.le_refl _, p2, g2, hb2⟩
  clear hb1 hb2 p2 g2 Haw Hnw
  generalize w1.heap.size = g at *
  go_loopw [9, 52] (fun v i wr => ∃ (k : Nat) (A : Option Addr) (c : Nat) (M : List Ex) (L : List Int), k ≤ l.length ∧ i = .int .i64 k ∧ v = .slice A M.length c ∧ PlayI g (g + 1) a s W wr k A c M L) (fun _ i _ => l.length - (intOf i).toNat)
  case atStart => exact ⟨0, none, 0, [], _, Nat.zero_le _, rfl, rfl, hst⟩
  case round =>
    clear hst
    obtain ⟨k, A9, c9, M, L, hk, rfl, rfl, H⟩ := hrel
    by_cases hlt : k < l.length
    · obtain ⟨x, rfl, e0, e1, e2, e3, e4, e5⟩ := Hc.out k hlt
      have old : ∀ {a : Addr} {v : Value}, W.cell? a = some v → wr.cell? a = some v := fun h => (H.bel.cell (World.block_lt_of_cell? W _ h)).trans h
      have a0 := old e0; have a1 := old e1; have a2 := old e2; have a3 := old e3; have a4 := old e4; have a5 := old e5
      rw [add_field _ _ _ (by omega)] at a1 a2 a3 a4 a5
      clear e0 e1 e2 e3 e4 e5 old
      generalize l[k] = X at *
      obtain ⟨xi, xj, xs, xq, xp, xb⟩ := X
      dsimp only at a0 a1 a2 a3 a4 a5
      have hW5 : Below wr.heap.size wr (wr.alloc (.cells #[.int .i64 xi, .int .i64 xj, .int .i64 xs, .int .i64 xq, .int .i64 xp, .bool xb] 30)) := (Below.refl _ _).alloc (Nat.le_refl _) _
      have hO := Blk.new wr 30 #[.int .i64 xi, .int .i64 xj, .int .i64 xs, .int .i64 xq, .int .i64 xp, .bool xb]
      have H5 := H.on hW5
      have HO := Lib.hid hO
      have HH := Lib.hid H5
      have ob := Nat.le_trans H.bel.size (Nat.le_refl wr.heap.size)
      have glt := H.G.lt
      have plt := H.P.lt
      clear hW5 hO H5 H
      go_upto_region 3 with (fail)
      generalize (wr.alloc (.cells #[.int .i64 xi, .int .i64 xj, .int .i64 xs, .int .i64 xq, .int .i64 xp, .bool xb] 30)) = W5 at *
      generalize wr.heap.size = o at *
      clear a0 a1 a2 a3 a4 a5
      have x0 : W5.cell? ⟨o, 0, none⟩ = some (.int .i64 xi) := HO.out.cell 0
      have x1 : W5.cell? ⟨o, 1, none⟩ = some (.int .i64 xj) := HO.out.cell 1
      have x2 : W5.cell? ⟨o, 2, none⟩ = some (.int .i64 xs) := HO.out.cell 2
      have x3 : W5.cell? ⟨o, 3, none⟩ = some (.int .i64 xq) := HO.out.cell 3
      have x4 : W5.cell? ⟨o, 4, none⟩ = some (.int .i64 xp) := HO.out.cell 4
      have x5 : W5.cell? ⟨o, 5, none⟩ = some (.bool xb) := HO.out.cell 5
      go_upto_region 3 with (fail)
      have hMv := tie_step HH.out.tie (xi, xj, xs, xq, xp, xb)
      have hln : (rmv a s M (xi, xj, xs, xq, xp, xb)).1.length ≤ k + 1 := by
        have := HH.out.len
        unfold rmv moveR
        split
        · split <;> simp <;> omega
        · dsimp only; omega
      obtain ⟨⟨M', f⟩, hMf⟩ : ∃ r, rmv a s M (xi, xj, xs, xq, xp, xb) = r := ⟨_, rfl⟩
      rw [hMf] at hMv hln
      dsimp only at hMv hln
      refine (rmove_is a s (xi, xj, xs, xq, xp, xb) A9 c9 M.length M M' f hMf rfl (by have := HH.out.len; omega) (tie_rng HH.out.tie) W5 HH.out.row HH.out.cap).mono ?_
      rintro e w6 ⟨A6, c6, rfl, row6, cap6, b6⟩
      have O6 := HO.out.on b6
      have P6 := HH.out.P.on b6
      have G6 := HH.out.G.on b6
      have B6 := bt HH.out.bel b6
      have L6 := HH.out.tie.len
      have I6 := HH.out.tie.pos
      have x0 : w6.cell? ⟨o, 0, none⟩ = some (.int .i64 xi) := O6.cell 0
      have x1 : w6.cell? ⟨o, 1, none⟩ = some (.int .i64 xj) := O6.cell 1
      have x2 : w6.cell? ⟨o, 2, none⟩ = some (.int .i64 xs) := O6.cell 2
      have x3 : w6.cell? ⟨o, 3, none⟩ = some (.int .i64 xq) := O6.cell 3
      have x4 : w6.cell? ⟨o, 4, none⟩ = some (.int .i64 xp) := O6.cell 4
      have x5 : w6.cell? ⟨o, 5, none⟩ = some (.bool xb) := O6.cell 5
      clear HH HO
      go_upto_region 3 with (fail)
      have hm := lmove_is (g + 1) g a s L xi xj xs xq xp xb w6 h1 h2 h3 h4 L6 I6 P6 G6 (by omega)
      rw [hMv.1] at hm
      obtain ⟨L', hL'⟩ : ∃ r, (mvx a s L (xi, xj, xs, xq, xp, xb)).2 = r := ⟨_, rfl⟩
      rw [hL'] at hm hMv
      refine hm.mono ?_
      rintro e w7 ⟨rfl, m7⟩
      have row7 := kE_moved G6 m7 row6
      have O7 := m7.blk O6 (by omega)
      have P7 := m7.blk P6 (by omega)
      have G7 := m7.1
      have B7 := B6.trans (m7.2.2.2 _ (by omega))
      have T7 := hMv.2
      clear hm m7 row6 O6 P6 G6 B6 L6 I6 hMv hL' hMf x0 x1 x2 x3 x4 x5 b6
      have x0 : w7.cell? ⟨o, 0, none⟩ = some (.int .i64 xi) := O7.cell 0
      have x1 : w7.cell? ⟨o, 1, none⟩ = some (.int .i64 xj) := O7.cell 1
      go_wp2_with fail
      refine (told_is (g + 1) g a s L' M' xi xj A6 c6 M'.length rfl (by omega) h2 h4 T7 w7 row7 cap6 P7 G7).mono ?_
      rintro e w8 ⟨rfl, b8⟩
      have h8 : PlayI g (g + 1) a s W w8 (k + 1) A6 c6 M' L' := PlayI.on ⟨T7, hln, row7, cap6, P7, G7, B7⟩ b8
      clear T7 row7 P7 G7 B7 O7 x0 x1 b8
      go_wp2_with fail
      go_roundw
      case rel => exact ⟨k + 1, A6, c6, M', L', by omega, by go_num, rfl, h8⟩
      case measure => simp [intOf]; omega
    · go_wp2_with fail
      refine (told_is (g + 1) g a s L M 0 0 A9 c9 M.length rfl (by have := H.len; omega) h2 h4 H.tie wr H.row H.cap H.P H.G).mono ?_
      rintro e w9 ⟨rfl, b9⟩
      go_wp2_with fail
      go_ret
      exact ⟨rfl, bt H.bel b9⟩
theorem PositionPlays (a0 : Int) (a1 : Int) (A2 : Option Addr) (c2 : Nat) (l2 : List (Int × Int × Int × Int × Int × Bool)) (W : World) (w0 : (Lit.int .i64 a0).wf = true) (w1 : (Lit.int .i64 a1).wf = true) (w2 : (A2 = none ∧ c2 = 0 ∧ l2 = []) ∨ ∃ x, A2 = some x ∧ l2.length ≤ c2 ∧ c2 ≤ maxLen ∧ ∀ i (h : i < l2.length), W.cell? (x.add (i * 6 + 0)) = some (.int .i64 l2[i].1) ∧ W.cell? (x.add (i * 6 + 1)) = some (.int .i64 l2[i].2.1) ∧ W.cell? (x.add (i * 6 + 2)) = some (.int .i64 l2[i].2.2.1) ∧ W.cell? (x.add (i * 6 + 3)) = some (.int .i64 l2[i].2.2.2.1) ∧ W.cell? (x.add (i * 6 + 4)) = some (.int .i64 l2[i].2.2.2.2.1) ∧ W.cell? (x.add (i * 6 + 5)) = some (.bool l2[i].2.2.2.2.2) ∧ (Lit.int .i64 l2[i].1).wf = true ∧ (Lit.int .i64 l2[i].2.1).wf = true ∧ (Lit.int .i64 l2[i].2.2.1).wf = true ∧ (Lit.int .i64 l2[i].2.2.2.1).wf = true ∧ (Lit.int .i64 l2[i].2.2.2.2.1).wf = true) :
    Calls Try.prog 3 #[.int .i64 a0, .int .i64 a1, .slice A2 l2.length c2] W fun e W' => e = .returned (.bool true) ∧ Below W.heap.size W W' := by
  by_cases hl : l2.length ≤ 40
  · by_cases ho : a0 < 1 ∨ 16 < a0 ∨ a1 < 1 ∨ 16 < a1
    · exact plays_out A2 c2 l2.length hl a0 a1 ho W
    · obtain ⟨a, rfl⟩ := Int.eq_ofNat_of_zero_le (show 0 ≤ a0 by omega)
      obtain ⟨s, rfl⟩ := Int.eq_ofNat_of_zero_le (show 0 ≤ a1 by omega)
      refine plays_in A2 c2 l2 hl a s (by omega) (by omega) (by omega) (by omega) W fun i h => ?_
      rcases w2 with ⟨_, _, rfl⟩ | ⟨x, rfl, _, _, hf⟩
      · simp at h
      · obtain ⟨f0, f1, f2, f3, f4, f5, _⟩ := hf i h
        exact ⟨x, rfl, f0, f1, f2, f3, f4, f5⟩
  · exact plays_long A2 c2 _ (by omega) a0 a1 W
end Go.Proofs.Ytenlifjfehnldaa.Walk
