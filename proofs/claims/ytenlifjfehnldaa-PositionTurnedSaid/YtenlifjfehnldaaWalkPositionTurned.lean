/- PositionTurned: fills may come in any order, and one that is taken back leaves what was; any list of executions (more than 60 are let go by the statement itself); no condition. -/
import Derived.Test.YtenlifjfehnldaaPos8
import Derived.LoopTactic
import Derived.BigRegion
import Derived.Outline
set_option linter.unusedVariables false
set_option linter.unusedSimpArgs false
namespace Go.Proofs.Ytenlifjfehnldaa.Walk
open Go Go.RowKit Go.Proofs.YtenlifjfehnldaaW.PrintWords Go.Proofs.YtenlifjfehnldaaW.PrintMore Go.Proofs.Ytenlifjfehnldaa.Hand Go.Proofs.Ytenlifjfehnldaa.PL Go.Proofs.Ytenlifjfehnldaa.RL
theorem drawn_bel {B : Nat} {w0 w w' : World} (h : Drawn0 w w') (hb : Below B w0 w) : Below B w0 w' := by obtain ⟨⟨n, rfl⟩⟩ := h; exact pw_below_drewN hb n
/-- A counter that has come to n at most. -/
def UpTo (n : Nat) (i : Value) : Prop := ∃ j : Nat, j ≤ n ∧ i = .int .i64 j
theorem new22 (w : World) : Calls Try.prog 7 #[.int .i64 2, .int .i64 2] w fun e w' => e = .returned (.tuple #[.pointer (some ⟨w.heap.size + 1, 0, none⟩), .int .i64 0]) ∧ Blk w' (w.heap.size + 1) 48 (posC 2 2 w.heap.size) ∧ Blk w' w.heap.size 71 (ints (List.replicate 16 0)) ∧ Below w.heap.size w w' ∧ w'.heap.size = w.heap.size + 2 := by
  refine (pnew_ok 2 2 (by omega) (by omega) (by omega) (by omega) w).mono ?_
  rintro e w' ⟨rfl, rfl⟩
  have h1 := Blk.new (w.alloc (.cells (ints (List.replicate (2 * 2 * 4) 0)) 71)) 48 (posC 2 2 w.heap.size)
  simp only [World.size_alloc] at h1
  exact ⟨rfl, h1, (Blk.new w 71 (ints (List.replicate (2 * 2 * 4) 0))).alloc _, ((Below.refl _ w).alloc (Nat.le_refl _) _).alloc (by simp) _, by simp⟩
set_option maxHeartbeats 8000000 in
set_option maxRecDepth 100000 in
theorem turned_ok (A : Option Addr) (c : Nat) (l : List Ex) (hl : l.length ≤ 60) (o : Ex) (W : World)
    (hc : ∀ i (h : i < l.length), ∃ x, A = some x ∧ W.cell? (x.add (i * 6)) = some (.int .i64 l[i].1) ∧ W.cell? (x.add (i * 6 + 1)) = some (.int .i64 l[i].2.1) ∧ W.cell? (x.add (i * 6 + 2)) = some (.int .i64 l[i].2.2.1) ∧ W.cell? (x.add (i * 6 + 3)) = some (.int .i64 l[i].2.2.2.1) ∧ W.cell? (x.add (i * 6 + 4)) = some (.int .i64 l[i].2.2.2.2.1) ∧ W.cell? (x.add (i * 6 + 5)) = some (.bool l[i].2.2.2.2.2)) :
    Calls Try.prog 4 #[.slice A l.length c, opV o] W fun e W' => e = .returned (.bool true) ∧ Below W.heap.size W W' := by
  obtain ⟨o1, o2, o3, o4, o5, o6⟩ := o
  unfold opV
  simp only
  have haw := fun w => awake18 w
  have Haw := Lib.hid haw
  have Hc := Lib.hid hc
  have hO := Lib.hid (Blk.new W 30 #[.int .i64 o1, .int .i64 o2, .int .i64 o3, .int .i64 o4, .int .i64 o5, .bool o6])
  clear haw hc
  go_enter Try.func4, Try.ntmps4
  go_wp2_with fail
  refine (Haw.out _).mono ?_
  rintro e w1 ⟨rfl, hb1⟩
  have O1 := Blk.below hO.out hb1 hO.out.lt
  have hB1 : Below W.heap.size W w1 := bt ((Below.refl W.heap.size W).alloc (Nat.le_refl _) _) hb1
  have hs1 : W.heap.size < w1.heap.size := Nat.lt_of_lt_of_le (by simp) hb1.size
  clear hb1 Haw hO
  go_wp2_with fail
  refine (new22 _).mono ?_
  rintro e w2 ⟨rfl, p2, g2, hb2, hz2⟩
  have O2 := O1.below hb2 O1.lt
  have hB2 : Below W.heap.size W w2 := bt hB1 hb2
  clear O1 hB1 hb2
  generalize w1.heap.size = s at *
  go_wp2_with fail
  refine (new22 _).mono ?_
  rintro e w3 ⟨rfl, q3, h3, hb3, hz3⟩
  have O3 := O2.below hb3 O2.lt
  have p3 := p2.below hb3 p2.lt
  have g3 := g2.below hb3 g2.lt
  have hB3 : Below W.heap.size W w3 := bt hB2 hb3
  clear O2 hB2 hb3 p2 g2 hz3
  rw [hz2] at q3 h3 ⊢
  clear hz2
  go_wp2_with fail
  have Zl : (List.replicate 16 (0 : Int)).length = 2 * 2 * 4 := rfl
  have Zb : bndP 0 (List.replicate 16 (0 : Int)) := fun y hy => by rw [List.eq_of_mem_replicate hy]; omega
  generalize hob : W.heap.size = ob at *
  go_loopw [44] (fun i wr => ∃ (k : Nat) (L M : List Int), k ≤ l.length ∧ i = .int .i64 k ∧ Blk wr (s + 1) 48 (posC 2 2 s) ∧ Blk wr (s + 2 + 1) 48 (posC 2 2 (s + 2)) ∧ Blk wr s 71 (ints L) ∧ Blk wr (s + 2) 71 (ints M)
      ∧ Blk wr ob 30 #[.int .i64 o1, .int .i64 o2, .int .i64 o3, .int .i64 o4, .int .i64 o5, .bool o6] ∧ Below ob W wr ∧ Hid (L = (l.take k).foldl (mvF 2 2) (List.replicate 16 0) ∧ M = (l.reverse.take k).foldl (mvF 2 2) (List.replicate 16 0) ∧ (∀ x ∈ l.take k, tame x) ∧ ∀ x ∈ l.reverse.take k, tame x)) (fun i _ => l.length - (intOf i).toNat)
  case atStart => exact ⟨0, _, _, Nat.zero_le _, rfl, p3, q3, g3, h3, O3, hB3, Lib.hid ⟨rfl, rfl, fun x hx => by simp at hx, fun x hx => by simp at hx⟩⟩
  case round =>
    clear p3 q3 g3 h3 O3 hB3
    obtain ⟨k, L, M, hk, rfl, hp, hq, hg, hh, hO, hB, H⟩ := hrel
    by_cases hlt : k < l.length
    · obtain ⟨x, rfl, e0, e1, e2, e3, e4, e5⟩ := Hc.out k hlt
      obtain ⟨x', hx', f0, f1, f2, f3, f4, f5⟩ := Hc.out (l.length - 1 - k) (by omega)
      obtain rfl : x = x' := by injection hx'
      have hn1 : ((l.length : Int) - 1 - (k : Int)).toNat = l.length - 1 - k := by omega
      have hn2 : 0 ≤ (l.length : Int) - 1 - (k : Int) := by omega
      have old : ∀ {a : Addr} {v : Value}, W.cell? a = some v → wr.cell? a = some v := fun h => (hB.cell (hob ▸ World.block_lt_of_cell? W _ h)).trans h
      have a0 := old e0; have a1 := old e1; have a2 := old e2; have a3 := old e3; have a4 := old e4; have a5 := old e5
      have b0 := old f0; have b1 := old f1; have b2 := old f2; have b3 := old f3; have b4 := old f4; have b5 := old f5
      have c1 := a1; have c2 := a2; have c3 := a3; have c4 := a4; have c5 := a5
      have d1 := b1; have d2 := b2; have d3 := b3; have d4 := b4; have d5 := b5
      rw [add_field _ _ _ (by omega)] at c1 c2 c3 c4 c5 d1 d2 d3 d4 d5
      clear e0 e1 e2 e3 e4 e5 f0 f1 f2 f3 f4 f5 hx' old
      obtain ⟨X, hX⟩ : ∃ X : Ex, l[k] = X := ⟨_, rfl⟩
      obtain ⟨Y, hY⟩ : ∃ Y : Ex, l[l.length - 1 - k]'(by omega) = Y := ⟨_, rfl⟩
      rw [hX] at a0 a1 a2 a3 a4 a5 c1 c2 c3 c4 c5
      rw [hY] at b0 b1 b2 b3 b4 b5 d1 d2 d3 d4 d5
      have q0 : (x.add (k * 6)).block < wr.heap.size := World.block_lt_of_cell? wr _ a0
      have q1 : (x.add ((l.length - 1 - k) * 6)).block < wr.heap.size := World.block_lt_of_cell? wr _ b0
      have HXY := Lib.hid (show l[k] = X ∧ l[l.length - 1 - k]'(by omega) = Y from ⟨hX, hY⟩)
      clear hX hY
      obtain ⟨x1, x2, x3, x4, x5, x6⟩ := X
      obtain ⟨y1, y2, y3, y4, y5, y6⟩ := Y
      simp only at a0 a1 a2 a3 a4 a5 b0 b1 b2 b3 b4 b5 c1 c2 c3 c4 c5 d1 d2 d3 d4 d5
      have ht0 := H.out
      go_wp2_with fail
      go_region
      · have kA : Blk ((wr.alloc (.cells #[.int .i64 x1, .int .i64 x2, .int .i64 x3, .int .i64 x4, .int .i64 x5, .bool x6] 30)).alloc (.cells #[.int .i64 y1, .int .i64 y2, .int .i64 y3, .int .i64 y4, .int .i64 y5, .bool y6] 30)).drew wr.heap.size 30 #[.int .i64 x1, .int .i64 x2, .int .i64 x3, .int .i64 x4, .int .i64 x5, .bool x6] := (Blk.new wr 30 #[.int .i64 x1, .int .i64 x2, .int .i64 x3, .int .i64 x4, .int .i64 x5, .bool x6]).alloc (.cells #[.int .i64 y1, .int .i64 y2, .int .i64 y3, .int .i64 y4, .int .i64 y5, .bool y6] 30)
        have kB : Blk ((wr.alloc (.cells #[.int .i64 x1, .int .i64 x2, .int .i64 x3, .int .i64 x4, .int .i64 x5, .bool x6] 30)).alloc (.cells #[.int .i64 y1, .int .i64 y2, .int .i64 y3, .int .i64 y4, .int .i64 y5, .bool y6] 30)).drew (wr.heap.size + 1) 30 #[.int .i64 y1, .int .i64 y2, .int .i64 y3, .int .i64 y4, .int .i64 y5, .bool y6] := by have := Blk.new (wr.alloc (.cells #[.int .i64 x1, .int .i64 x2, .int .i64 x3, .int .i64 x4, .int .i64 x5, .bool x6] 30)) 30 #[.int .i64 y1, .int .i64 y2, .int .i64 y3, .int .i64 y4, .int .i64 y5, .bool y6]; rw [World.size_alloc] at this; exact this
        have p6 : Blk ((wr.alloc (.cells #[.int .i64 x1, .int .i64 x2, .int .i64 x3, .int .i64 x4, .int .i64 x5, .bool x6] 30)).alloc (.cells #[.int .i64 y1, .int .i64 y2, .int .i64 y3, .int .i64 y4, .int .i64 y5, .bool y6] 30)).drew (s + 1) _ _ := (hp.alloc (.cells #[.int .i64 x1, .int .i64 x2, .int .i64 x3, .int .i64 x4, .int .i64 x5, .bool x6] 30)).alloc (.cells #[.int .i64 y1, .int .i64 y2, .int .i64 y3, .int .i64 y4, .int .i64 y5, .bool y6] 30)
        have q6 : Blk ((wr.alloc (.cells #[.int .i64 x1, .int .i64 x2, .int .i64 x3, .int .i64 x4, .int .i64 x5, .bool x6] 30)).alloc (.cells #[.int .i64 y1, .int .i64 y2, .int .i64 y3, .int .i64 y4, .int .i64 y5, .bool y6] 30)).drew (s + 2 + 1) _ _ := (hq.alloc (.cells #[.int .i64 x1, .int .i64 x2, .int .i64 x3, .int .i64 x4, .int .i64 x5, .bool x6] 30)).alloc (.cells #[.int .i64 y1, .int .i64 y2, .int .i64 y3, .int .i64 y4, .int .i64 y5, .bool y6] 30)
        have g6 : Blk ((wr.alloc (.cells #[.int .i64 x1, .int .i64 x2, .int .i64 x3, .int .i64 x4, .int .i64 x5, .bool x6] 30)).alloc (.cells #[.int .i64 y1, .int .i64 y2, .int .i64 y3, .int .i64 y4, .int .i64 y5, .bool y6] 30)).drew s _ _ := (hg.alloc (.cells #[.int .i64 x1, .int .i64 x2, .int .i64 x3, .int .i64 x4, .int .i64 x5, .bool x6] 30)).alloc (.cells #[.int .i64 y1, .int .i64 y2, .int .i64 y3, .int .i64 y4, .int .i64 y5, .bool y6] 30)
        have h6 : Blk ((wr.alloc (.cells #[.int .i64 x1, .int .i64 x2, .int .i64 x3, .int .i64 x4, .int .i64 x5, .bool x6] 30)).alloc (.cells #[.int .i64 y1, .int .i64 y2, .int .i64 y3, .int .i64 y4, .int .i64 y5, .bool y6] 30)).drew (s + 2) _ _ := (hh.alloc (.cells #[.int .i64 x1, .int .i64 x2, .int .i64 x3, .int .i64 x4, .int .i64 x5, .bool x6] 30)).alloc (.cells #[.int .i64 y1, .int .i64 y2, .int .i64 y3, .int .i64 y4, .int .i64 y5, .bool y6] 30)
        have O6 : Blk ((wr.alloc (.cells #[.int .i64 x1, .int .i64 x2, .int .i64 x3, .int .i64 x4, .int .i64 x5, .bool x6] 30)).alloc (.cells #[.int .i64 y1, .int .i64 y2, .int .i64 y3, .int .i64 y4, .int .i64 y5, .bool y6] 30)).drew ob _ _ := (hO.alloc (.cells #[.int .i64 x1, .int .i64 x2, .int .i64 x3, .int .i64 x4, .int .i64 x5, .bool x6] 30)).alloc (.cells #[.int .i64 y1, .int .i64 y2, .int .i64 y3, .int .i64 y4, .int .i64 y5, .bool y6] 30)
        have B6 : Below ob W ((wr.alloc (.cells #[.int .i64 x1, .int .i64 x2, .int .i64 x3, .int .i64 x4, .int .i64 x5, .bool x6] 30)).alloc (.cells #[.int .i64 y1, .int .i64 y2, .int .i64 y3, .int .i64 y4, .int .i64 y5, .bool y6] 30)).drew := pw_below_drewN ((hB.alloc (Nat.le_of_lt (hob ▸ hO.lt)) (.cells #[.int .i64 x1, .int .i64 x2, .int .i64 x3, .int .i64 x4, .int .i64 x5, .bool x6] 30)).alloc (by simp; have := hO.lt; omega) (.cells #[.int .i64 y1, .int .i64 y2, .int .i64 y3, .int .i64 y4, .int .i64 y5, .bool y6] 30)) 1
        have n1 := hp.lt; have n2 := hq.lt; have n3 := hg.lt; have n4 := hh.lt; have n5 := hO.lt
        clear a0 a1 a2 a3 a4 a5 b0 b1 b2 b3 b4 b5 c1 c2 c3 c4 c5 d1 d2 d3 d4 d5 q0 q1 hp hq hg hh hO hB hn1 hn2
        generalize ((wr.alloc (.cells #[.int .i64 x1, .int .i64 x2, .int .i64 x3, .int .i64 x4, .int .i64 x5, .bool x6] 30)).alloc (.cells #[.int .i64 y1, .int .i64 y2, .int .i64 y3, .int .i64 y4, .int .i64 y5, .bool y6] 30)).drew = W6 at *
        generalize hbz : wr.heap.size = bz at *
        have s6 : ob ≤ s := by omega
        have u0 := kA.cell 0; have u1 := kA.cell 1; have u2 := kA.cell 2; have u3 := kA.cell 3; have u4 := kA.cell 4; have u5 := kA.cell 5
        have v3 := kB.cell 3; have v4 := kB.cell 4; have v5 := kB.cell 5
        simp at u0 u1 u2 u3 u4 u5 v3 v4 v5
        by_cases ht : tame (x1, x2, x3, x4, x5, x6) ∧ tame (y1, y2, y3, y4, y5, y6)
        · obtain ⟨⟨t1, t2, t3⟩, t4, t5, t6⟩ := ht
          simp only at t1 t2 t3 t4 t5 t6
          subst t1; subst t4
          obtain ⟨e1, e2, e3, e4⟩ := H.out
          have l1 : L.length = 2 * 2 * 4 := by rw [e1, foldF_len]; exact Zl
          have l2 : M.length = 2 * 2 * 4 := by rw [e2, foldF_len]; exact Zl
          have bd1 : bndP ((k : Int)) L := by have := fold_bnd 2 2 (l.take k) 0 _ e3 Zl Zb (by omega) (by simp; omega); rw [e1]; rwa [List.length_take, Nat.min_eq_left hk, Int.zero_add] at this
          have bd2 : bndP ((k : Int)) M := by have := fold_bnd 2 2 (l.reverse.take k) 0 _ e4 Zl Zb (by omega) (by simp; omega); rw [e2]; rwa [List.length_take, List.length_reverse, Nat.min_eq_left hk, Int.zero_add] at this
          have mX := mv_tame (x := (x1, x2, x3, x4, x5, false)) ⟨rfl, t2, t3⟩ l1 bd1 (by omega) (by omega)
          have mY := mv_tame (x := (y1, y2, y3, y4, y5, false)) ⟨rfl, t5, t6⟩ l2 bd2 (by omega) (by omega)
          have r1 := lmove_is (s + 1) s 2 2 L x1 x2 x3 x4 x5 false W6 (by omega) (by omega) (by omega) (by omega) l1 (bnd_in bd1 (by omega)) p6 g6 (by omega)
          have r2 := fun W7 hp hg => lmove_is (s + 2 + 1) (s + 2) 2 2 M y1 y2 y3 y4 y5 false W7 (by omega) (by omega) (by omega) (by omega) l2 (bnd_in bd2 (by omega)) hp hg (by omega)
          simp only [mX.1] at r1
          simp only [mY.1] at r2
          generalize (if okx 2 2 (x1, x2, x3, x4, x5, false) then (0 : Int) else 2) = rv1 at r1
          generalize (if okx 2 2 (y1, y2, y3, y4, y5, false) then (0 : Int) else 2) = rv2 at r2
          have HN : Hid (mvF 2 2 L (x1, x2, x3, x4, x5, false) = (l.take (k + 1)).foldl (mvF 2 2) (List.replicate 16 0) ∧ mvF 2 2 M (y1, y2, y3, y4, y5, false) = (l.reverse.take (k + 1)).foldl (mvF 2 2) (List.replicate 16 0) ∧ (∀ x ∈ l.take (k + 1), tame x) ∧ ∀ x ∈ l.reverse.take (k + 1), tame x) := by
            obtain ⟨hX, hY⟩ := HXY.out
            have hr : l.reverse[k]'(by simp; omega) = (y1, y2, y3, y4, y5, false) := by rw [List.getElem_reverse]; exact hY
            refine Lib.hid ⟨?_, ?_, ?_, ?_⟩
            · rw [List.take_succ_eq_append_getElem hlt, List.foldl_append, ← e1, hX]; rfl
            · rw [List.take_succ_eq_append_getElem (by simp; omega), List.foldl_append, ← e2, hr]; rfl
            · rw [List.take_succ_eq_append_getElem hlt, hX]
              intro x hx
              rcases List.mem_append.1 hx with hx | hx
              · exact e3 x hx
              · rw [List.mem_singleton.1 hx]; exact ⟨rfl, t2, t3⟩
            · rw [List.take_succ_eq_append_getElem (by simp; omega), hr]
              intro x hx
              rcases List.mem_append.1 hx with hx | hx
              · exact e4 x hx
              · rw [List.mem_singleton.1 hx]; exact ⟨rfl, t5, t6⟩
          clear e1 e2 e3 e4 mX mY l1 l2 bd1 bd2 H HXY
          generalize mvF 2 2 L (x1, x2, x3, x4, x5, false) = L' at *
          generalize mvF 2 2 M (y1, y2, y3, y4, y5, false) = M' at *
          have R1 := Lib.hid r1
          have R2 := Lib.hid r2
          clear r1 r2
          go_wp2_with fail
          refine (R1.out).mono ?_
          rintro e w7 ⟨rfl, m7⟩
          have kB7 := m7.blk kB (by omega)
          have w0 := kB7.cell 0; have w1 := kB7.cell 1; have w2 := kB7.cell 2; have w3 := kB7.cell 3; have w4 := kB7.cell 4; have w5 := kB7.cell 5
          simp at w0 w1 w2 w3 w4 w5
          have p7 := m7.blk p6 (by omega)
          have q7 := m7.blk q6 (by omega)
          have h7 := m7.blk h6 (by omega)
          have O7 := m7.blk O6 (by omega)
          have g7 := m7.1
          have B7 : Below ob W w7 := B6.trans (m7.2.2.2 ob s6)
          go_wp2_with fail
          refine (R2.out w7 q7 h7).mono ?_
          rintro e w8 ⟨rfl, m8⟩
          have p8 := m8.blk p7 (by omega)
          have q8 := m8.blk q7 (by omega)
          have g8 := m8.blk g7 (by omega)
          have O8 := m8.blk O7 (by omega)
          have h8 := m8.1
          have B8 : Below ob W w8 := B7.trans (m8.2.2.2 ob (by omega))
          go_wp2_with fail
          go_roundw
          case rel => exact ⟨k + 1, L', M', by omega, by go_num, p8, q8, g8, h8, O8, B8, HN⟩
          case measure => simp [intOf]; omega
        · have hw : x6 = true ∨ (x6 = false ∧ y6 = true) ∨ (x6 = false ∧ y6 = false ∧ 1048576 < x4) ∨ (x6 = false ∧ y6 = false ∧ x4 ≤ 1048576 ∧ 1048576 < y4) ∨ (x6 = false ∧ y6 = false ∧ x4 ≤ 1048576 ∧ y4 ≤ 1048576 ∧ 1048576 < x5) ∨ (x6 = false ∧ y6 = false ∧ x4 ≤ 1048576 ∧ y4 ≤ 1048576 ∧ x5 ≤ 1048576 ∧ 1048576 < y5) := by
            unfold tame at ht
            simp only at ht
            cases x6 <;> cases y6 <;> simp at ht ⊢ <;> omega
          clear ht
          rcases hw with rfl | ⟨rfl, rfl⟩ | ⟨rfl, rfl, z1⟩ | ⟨rfl, rfl, z1, z2⟩ | ⟨rfl, rfl, z1, z2, z3⟩ | ⟨rfl, rfl, z1, z2, z3, z4⟩
          all_goals
            go_wp2_with fail
            go_ret
            exact ⟨rfl, hob ▸ B6⟩
      · have kA : Blk ((wr.alloc (.cells #[.int .i64 y1, .int .i64 y2, .int .i64 y3, .int .i64 y4, .int .i64 y5, .bool y6] 30)).alloc (.cells #[.int .i64 x1, .int .i64 x2, .int .i64 x3, .int .i64 x4, .int .i64 x5, .bool x6] 30)).drew wr.heap.size 30 #[.int .i64 y1, .int .i64 y2, .int .i64 y3, .int .i64 y4, .int .i64 y5, .bool y6] := (Blk.new wr 30 #[.int .i64 y1, .int .i64 y2, .int .i64 y3, .int .i64 y4, .int .i64 y5, .bool y6]).alloc (.cells #[.int .i64 x1, .int .i64 x2, .int .i64 x3, .int .i64 x4, .int .i64 x5, .bool x6] 30)
        have kB : Blk ((wr.alloc (.cells #[.int .i64 y1, .int .i64 y2, .int .i64 y3, .int .i64 y4, .int .i64 y5, .bool y6] 30)).alloc (.cells #[.int .i64 x1, .int .i64 x2, .int .i64 x3, .int .i64 x4, .int .i64 x5, .bool x6] 30)).drew (wr.heap.size + 1) 30 #[.int .i64 x1, .int .i64 x2, .int .i64 x3, .int .i64 x4, .int .i64 x5, .bool x6] := by have := Blk.new (wr.alloc (.cells #[.int .i64 y1, .int .i64 y2, .int .i64 y3, .int .i64 y4, .int .i64 y5, .bool y6] 30)) 30 #[.int .i64 x1, .int .i64 x2, .int .i64 x3, .int .i64 x4, .int .i64 x5, .bool x6]; rw [World.size_alloc] at this; exact this
        have p6 : Blk ((wr.alloc (.cells #[.int .i64 y1, .int .i64 y2, .int .i64 y3, .int .i64 y4, .int .i64 y5, .bool y6] 30)).alloc (.cells #[.int .i64 x1, .int .i64 x2, .int .i64 x3, .int .i64 x4, .int .i64 x5, .bool x6] 30)).drew (s + 1) _ _ := (hp.alloc (.cells #[.int .i64 y1, .int .i64 y2, .int .i64 y3, .int .i64 y4, .int .i64 y5, .bool y6] 30)).alloc (.cells #[.int .i64 x1, .int .i64 x2, .int .i64 x3, .int .i64 x4, .int .i64 x5, .bool x6] 30)
        have q6 : Blk ((wr.alloc (.cells #[.int .i64 y1, .int .i64 y2, .int .i64 y3, .int .i64 y4, .int .i64 y5, .bool y6] 30)).alloc (.cells #[.int .i64 x1, .int .i64 x2, .int .i64 x3, .int .i64 x4, .int .i64 x5, .bool x6] 30)).drew (s + 2 + 1) _ _ := (hq.alloc (.cells #[.int .i64 y1, .int .i64 y2, .int .i64 y3, .int .i64 y4, .int .i64 y5, .bool y6] 30)).alloc (.cells #[.int .i64 x1, .int .i64 x2, .int .i64 x3, .int .i64 x4, .int .i64 x5, .bool x6] 30)
        have g6 : Blk ((wr.alloc (.cells #[.int .i64 y1, .int .i64 y2, .int .i64 y3, .int .i64 y4, .int .i64 y5, .bool y6] 30)).alloc (.cells #[.int .i64 x1, .int .i64 x2, .int .i64 x3, .int .i64 x4, .int .i64 x5, .bool x6] 30)).drew s _ _ := (hg.alloc (.cells #[.int .i64 y1, .int .i64 y2, .int .i64 y3, .int .i64 y4, .int .i64 y5, .bool y6] 30)).alloc (.cells #[.int .i64 x1, .int .i64 x2, .int .i64 x3, .int .i64 x4, .int .i64 x5, .bool x6] 30)
        have h6 : Blk ((wr.alloc (.cells #[.int .i64 y1, .int .i64 y2, .int .i64 y3, .int .i64 y4, .int .i64 y5, .bool y6] 30)).alloc (.cells #[.int .i64 x1, .int .i64 x2, .int .i64 x3, .int .i64 x4, .int .i64 x5, .bool x6] 30)).drew (s + 2) _ _ := (hh.alloc (.cells #[.int .i64 y1, .int .i64 y2, .int .i64 y3, .int .i64 y4, .int .i64 y5, .bool y6] 30)).alloc (.cells #[.int .i64 x1, .int .i64 x2, .int .i64 x3, .int .i64 x4, .int .i64 x5, .bool x6] 30)
        have O6 : Blk ((wr.alloc (.cells #[.int .i64 y1, .int .i64 y2, .int .i64 y3, .int .i64 y4, .int .i64 y5, .bool y6] 30)).alloc (.cells #[.int .i64 x1, .int .i64 x2, .int .i64 x3, .int .i64 x4, .int .i64 x5, .bool x6] 30)).drew ob _ _ := (hO.alloc (.cells #[.int .i64 y1, .int .i64 y2, .int .i64 y3, .int .i64 y4, .int .i64 y5, .bool y6] 30)).alloc (.cells #[.int .i64 x1, .int .i64 x2, .int .i64 x3, .int .i64 x4, .int .i64 x5, .bool x6] 30)
        have B6 : Below ob W ((wr.alloc (.cells #[.int .i64 y1, .int .i64 y2, .int .i64 y3, .int .i64 y4, .int .i64 y5, .bool y6] 30)).alloc (.cells #[.int .i64 x1, .int .i64 x2, .int .i64 x3, .int .i64 x4, .int .i64 x5, .bool x6] 30)).drew := pw_below_drewN ((hB.alloc (Nat.le_of_lt (hob ▸ hO.lt)) (.cells #[.int .i64 y1, .int .i64 y2, .int .i64 y3, .int .i64 y4, .int .i64 y5, .bool y6] 30)).alloc (by simp; have := hO.lt; omega) (.cells #[.int .i64 x1, .int .i64 x2, .int .i64 x3, .int .i64 x4, .int .i64 x5, .bool x6] 30)) 1
        have n1 := hp.lt; have n2 := hq.lt; have n3 := hg.lt; have n4 := hh.lt; have n5 := hO.lt
        clear a0 a1 a2 a3 a4 a5 b0 b1 b2 b3 b4 b5 c1 c2 c3 c4 c5 d1 d2 d3 d4 d5 q0 q1 hp hq hg hh hO hB hn1 hn2
        generalize ((wr.alloc (.cells #[.int .i64 y1, .int .i64 y2, .int .i64 y3, .int .i64 y4, .int .i64 y5, .bool y6] 30)).alloc (.cells #[.int .i64 x1, .int .i64 x2, .int .i64 x3, .int .i64 x4, .int .i64 x5, .bool x6] 30)).drew = W6 at *
        generalize hbz : wr.heap.size = bz at *
        have s6 : ob ≤ s := by omega
        have u0 := kB.cell 0; have u1 := kB.cell 1; have u2 := kB.cell 2; have u3 := kB.cell 3; have u4 := kB.cell 4; have u5 := kB.cell 5
        have v3 := kA.cell 3; have v4 := kA.cell 4; have v5 := kA.cell 5
        simp at u0 u1 u2 u3 u4 u5 v3 v4 v5
        by_cases ht : tame (x1, x2, x3, x4, x5, x6) ∧ tame (y1, y2, y3, y4, y5, y6)
        · obtain ⟨⟨t1, t2, t3⟩, t4, t5, t6⟩ := ht
          simp only at t1 t2 t3 t4 t5 t6
          subst t1; subst t4
          obtain ⟨e1, e2, e3, e4⟩ := H.out
          have l1 : L.length = 2 * 2 * 4 := by rw [e1, foldF_len]; exact Zl
          have l2 : M.length = 2 * 2 * 4 := by rw [e2, foldF_len]; exact Zl
          have bd1 : bndP ((k : Int)) L := by have := fold_bnd 2 2 (l.take k) 0 _ e3 Zl Zb (by omega) (by simp; omega); rw [e1]; rwa [List.length_take, Nat.min_eq_left hk, Int.zero_add] at this
          have bd2 : bndP ((k : Int)) M := by have := fold_bnd 2 2 (l.reverse.take k) 0 _ e4 Zl Zb (by omega) (by simp; omega); rw [e2]; rwa [List.length_take, List.length_reverse, Nat.min_eq_left hk, Int.zero_add] at this
          have mX := mv_tame (x := (x1, x2, x3, x4, x5, false)) ⟨rfl, t2, t3⟩ l1 bd1 (by omega) (by omega)
          have mY := mv_tame (x := (y1, y2, y3, y4, y5, false)) ⟨rfl, t5, t6⟩ l2 bd2 (by omega) (by omega)
          have r1 := lmove_is (s + 1) s 2 2 L x1 x2 x3 x4 x5 false W6 (by omega) (by omega) (by omega) (by omega) l1 (bnd_in bd1 (by omega)) p6 g6 (by omega)
          have r2 := fun W7 hp hg => lmove_is (s + 2 + 1) (s + 2) 2 2 M y1 y2 y3 y4 y5 false W7 (by omega) (by omega) (by omega) (by omega) l2 (bnd_in bd2 (by omega)) hp hg (by omega)
          simp only [mX.1] at r1
          simp only [mY.1] at r2
          generalize (if okx 2 2 (x1, x2, x3, x4, x5, false) then (0 : Int) else 2) = rv1 at r1
          generalize (if okx 2 2 (y1, y2, y3, y4, y5, false) then (0 : Int) else 2) = rv2 at r2
          have HN : Hid (mvF 2 2 L (x1, x2, x3, x4, x5, false) = (l.take (k + 1)).foldl (mvF 2 2) (List.replicate 16 0) ∧ mvF 2 2 M (y1, y2, y3, y4, y5, false) = (l.reverse.take (k + 1)).foldl (mvF 2 2) (List.replicate 16 0) ∧ (∀ x ∈ l.take (k + 1), tame x) ∧ ∀ x ∈ l.reverse.take (k + 1), tame x) := by
            obtain ⟨hX, hY⟩ := HXY.out
            have hr : l.reverse[k]'(by simp; omega) = (y1, y2, y3, y4, y5, false) := by rw [List.getElem_reverse]; exact hY
            refine Lib.hid ⟨?_, ?_, ?_, ?_⟩
            · rw [List.take_succ_eq_append_getElem hlt, List.foldl_append, ← e1, hX]; rfl
            · rw [List.take_succ_eq_append_getElem (by simp; omega), List.foldl_append, ← e2, hr]; rfl
            · rw [List.take_succ_eq_append_getElem hlt, hX]
              intro x hx
              rcases List.mem_append.1 hx with hx | hx
              · exact e3 x hx
              · rw [List.mem_singleton.1 hx]; exact ⟨rfl, t2, t3⟩
            · rw [List.take_succ_eq_append_getElem (by simp; omega), hr]
              intro x hx
              rcases List.mem_append.1 hx with hx | hx
              · exact e4 x hx
              · rw [List.mem_singleton.1 hx]; exact ⟨rfl, t5, t6⟩
          clear e1 e2 e3 e4 mX mY l1 l2 bd1 bd2 H HXY
          generalize mvF 2 2 L (x1, x2, x3, x4, x5, false) = L' at *
          generalize mvF 2 2 M (y1, y2, y3, y4, y5, false) = M' at *
          have R1 := Lib.hid r1
          have R2 := Lib.hid r2
          clear r1 r2
          go_wp2_with fail
          refine (R1.out).mono ?_
          rintro e w7 ⟨rfl, m7⟩
          have kB7 := m7.blk kA (by omega)
          have w0 := kB7.cell 0; have w1 := kB7.cell 1; have w2 := kB7.cell 2; have w3 := kB7.cell 3; have w4 := kB7.cell 4; have w5 := kB7.cell 5
          simp at w0 w1 w2 w3 w4 w5
          have p7 := m7.blk p6 (by omega)
          have q7 := m7.blk q6 (by omega)
          have h7 := m7.blk h6 (by omega)
          have O7 := m7.blk O6 (by omega)
          have g7 := m7.1
          have B7 : Below ob W w7 := B6.trans (m7.2.2.2 ob s6)
          go_wp2_with fail
          refine (R2.out w7 q7 h7).mono ?_
          rintro e w8 ⟨rfl, m8⟩
          have p8 := m8.blk p7 (by omega)
          have q8 := m8.blk q7 (by omega)
          have g8 := m8.blk g7 (by omega)
          have O8 := m8.blk O7 (by omega)
          have h8 := m8.1
          have B8 : Below ob W w8 := B7.trans (m8.2.2.2 ob (by omega))
          go_wp2_with fail
          go_roundw
          case rel => exact ⟨k + 1, L', M', by omega, by go_num, p8, q8, g8, h8, O8, B8, HN⟩
          case measure => simp [intOf]; omega
        · have hw : x6 = true ∨ (x6 = false ∧ y6 = true) ∨ (x6 = false ∧ y6 = false ∧ 1048576 < x4) ∨ (x6 = false ∧ y6 = false ∧ x4 ≤ 1048576 ∧ 1048576 < y4) ∨ (x6 = false ∧ y6 = false ∧ x4 ≤ 1048576 ∧ y4 ≤ 1048576 ∧ 1048576 < x5) ∨ (x6 = false ∧ y6 = false ∧ x4 ≤ 1048576 ∧ y4 ≤ 1048576 ∧ x5 ≤ 1048576 ∧ 1048576 < y5) := by
            unfold tame at ht
            simp only at ht
            cases x6 <;> cases y6 <;> simp at ht ⊢ <;> omega
          clear ht
          rcases hw with rfl | ⟨rfl, rfl⟩ | ⟨rfl, rfl, z1⟩ | ⟨rfl, rfl, z1, z2⟩ | ⟨rfl, rfl, z1, z2, z3⟩ | ⟨rfl, rfl, z1, z2, z3, z4⟩
          all_goals
            go_wp2_with fail
            go_ret
            exact ⟨rfl, hob ▸ B6⟩
    · obtain rfl : k = l.length := by omega
      obtain ⟨e1, e2, e3, e4⟩ := H.out
      rw [List.take_of_length_le (by simp)] at e1 e2 e3 e4
      have hLM : M = L := by rw [e1, e2]; exact fold_rev 2 2 l _ Zl
      subst hLM
      clear e2 e4
      have l1 : M.length = 2 * 2 * 4 := by rw [e1, foldF_len]; exact Zl
      have bd1 : bndP ((l.length : Int)) M := by have := fold_bnd 2 2 l 0 _ e3 Zl Zb (by omega) (by omega); rw [e1]; rwa [Int.zero_add] at this
      clear e1 e3 H Zl Zb Hc hk
      have n1 := hp.lt; have n2 := hq.lt; have n3 := hg.lt; have n4 := hh.lt; have n5 := hO.lt
      have u3 := hO.cell 3; have u4 := hO.cell 4; have u5 := hO.cell 5
      simp at u3 u4 u5
      have fz5 := hO.frozen 5
      have k0 := hO.put 5 (.bool false)
      have p0 := hp.far (p := ⟨ob, 5, none⟩) (show s + 1 ≠ ob by omega) (.bool false)
      have q0 := hq.far (p := ⟨ob, 5, none⟩) (show s + 2 + 1 ≠ ob by omega) (.bool false)
      have g0 := hg.far (p := ⟨ob, 5, none⟩) (show s ≠ ob by omega) (.bool false)
      have h0 := hh.far (p := ⟨ob, 5, none⟩) (show s + 2 ≠ ob by omega) (.bool false)
      have b0 := hB.setCell (p := ⟨ob, 5, none⟩) (Nat.le_refl _) (.bool false)
      have x0 := k0.cell 0; have x1 := k0.cell 1; have x2 := k0.cell 2; have x3 := k0.cell 3; have x4 := k0.cell 4; have x5 := k0.cell 5
      simp at x0 x1 x2 x3 x4 x5 k0
      clear hp hq hg hh hO hB u3 u4
      by_cases hz : o4 ≤ 1048576 ∧ o5 ≤ 1048576
      · obtain ⟨z4, z5⟩ := hz
        have mO := mv_tame (x := (o1, o2, o3, o4, o5, false)) ⟨rfl, z4, z5⟩ l1 bd1 (by omega) (by omega)
        have r1 := lmove_is (s + 1) s 2 2 M o1 o2 o3 o4 o5 false (wr.setCell ⟨ob, 5, none⟩ (.bool false)) (by omega) (by omega) (by omega) (by omega) l1 (bnd_in bd1 (by omega)) p0 g0 (by omega)
        simp only [mO.1] at r1
        by_cases hok : okx 2 2 (o1, o2, o3, o4, o5, false)
        · have hl2 : (mvF 2 2 M (o1, o2, o3, o4, o5, false)).length = 2 * 2 * 4 := by rw [mvF_len]; exact l1
          have hi2 := bnd_in mO.2 (by omega)
          have hbk := mv_back (i := o1) (j := o2) (sd := o3) (q := o4) (p := o5) ⟨rfl, z4, z5⟩ l1 bd1 (by omega) (by omega) hok
          have r2 := fun w P G => lmove_is (s + 1) s 2 2 (mvF 2 2 M (o1, o2, o3, o4, o5, false)) o1 o2 o3 o4 o5 true w (by omega) (by omega) (by omega) (by omega) hl2 hi2 P G (by omega)
          simp only [hbk] at r2
          rw [if_pos hok] at r1
          have R1 := Lib.hid r1
          have R2 := Lib.hid r2
          clear r1 r2 hbk hi2 hl2 mO hok
          generalize mvF 2 2 M (o1, o2, o3, o4, o5, false) = M2 at *
          go_wp2_with fail
          refine (R1.out).mono ?_
          rintro e w7 ⟨rfl, m7⟩
          have O7 := m7.blk k0 (by omega)
          have p7 := m7.blk p0 (by omega)
          have q7 := m7.blk q0 (by omega)
          have h7 := m7.blk h0 (by omega)
          have g7 := m7.1
          have b7 := b0.trans (m7.2.2.2 ob (by omega))
          clear x0 x1 x2 x3 x4 x5 k0 p0 q0 g0 h0 m7 R1 fz5 u5
          have u5 := O7.cell 5
          simp at u5
          have fz5 := O7.frozen 5
          have k0 := O7.put 5 (.bool true)
          have x0 := k0.cell 0; have x1 := k0.cell 1; have x2 := k0.cell 2; have x3 := k0.cell 3; have x4 := k0.cell 4; have x5 := k0.cell 5
          simp at x0 x1 x2 x3 x4 x5
          have p8 := p7.far (p := ⟨ob, 5, none⟩) (show s + 1 ≠ ob by omega) (.bool true)
          have q8 := q7.far (p := ⟨ob, 5, none⟩) (show s + 2 + 1 ≠ ob by omega) (.bool true)
          have g8 := g7.far (p := ⟨ob, 5, none⟩) (show s ≠ ob by omega) (.bool true)
          have h8 := h7.far (p := ⟨ob, 5, none⟩) (show s + 2 ≠ ob by omega) (.bool true)
          have b8 := b7.setCell (p := ⟨ob, 5, none⟩) (Nat.le_refl _) (.bool true)
          go_wp2_with fail
          refine (R2.out _ p8 g8).mono ?_
          rintro e w9 ⟨rfl, m9⟩
          have P9 := m9.blk p8 (by omega)
          have Q9 := m9.blk q8 (by omega)
          have H9 := m9.blk h8 (by omega)
          have G9 := m9.1
          have Wz := b8.trans (m9.2.2.2 ob (by omega))
          clear x0 x1 x2 x3 x4 x5 k0 fz5 u5 p8 q8 g8 h8 b8 p7 q7 g7 h7 b7 O7 m9 R2 b0
          go_wp2_with fail
          go_loopw [113] (fun i wq => ∃ a : Nat, a ≤ 2 ∧ i = .int .i64 a ∧ Blk wq (s + 1) 48 (posC 2 2 s) ∧ Blk wq (s + 2 + 1) 48 (posC 2 2 (s + 2)) ∧ Blk wq s 71 (ints M) ∧ Blk wq (s + 2) 71 (ints M) ∧ Below ob W wq) (fun i _ => 2 - (intOf i).toNat)
          case atStart => exact ⟨0, by omega, rfl, P9, Q9, G9, H9, Wz⟩
          case round =>
            clear P9 Q9 G9 H9 Wz
            obtain ⟨a, ha, rfl, P, Q, G, H, B⟩ := hrel
            obtain ⟨wo, hwo⟩ : ∃ wo : World, wo = wr := ⟨_, rfl⟩
            rw [← hwo] at P Q G H B ⊢
            clear hwo
            by_cases hal : a < 2
            · have hal' : (a : Int) < 2 := by omega
              go_wp2_with fail
              go_loopw [116] (fun i wq => UpTo 2 i ∧ Blk wq (s + 1) 48 (posC 2 2 s) ∧ Blk wq (s + 2 + 1) 48 (posC 2 2 (s + 2)) ∧ Blk wq s 71 (ints M) ∧ Blk wq (s + 2) 71 (ints M) ∧ Below ob W wq) (fun i _ => 2 - (intOf i).toNat)
              case atStart => exact ⟨⟨0, by omega, rfl⟩, P, Q, G, H, B⟩
              case round =>
                clear P Q G H B
                obtain ⟨⟨j, hj, rfl⟩, P, Q, G, H, B⟩ := hrel
                by_cases hjl : j < 2
                · have hjl' : (j : Int) < 2 := by omega
                  have C1 := bought_tab (s + 1) s 2 2 a j M hal hjl (by omega) (by omega) l1 wr P G
                  have C2 := fun w P G => bought_tab (s + 2 + 1) (s + 2) 2 2 a j M hal hjl (by omega) (by omega) l1 w P G
                  have C3 := fun w P G => sold_tab (s + 1) s 2 2 a j M hal hjl (by omega) (by omega) l1 w P G
                  have C4 := fun w P G => sold_tab (s + 2 + 1) (s + 2) 2 2 a j M hal hjl (by omega) (by omega) l1 w P G
                  generalize M.getD ((a * 2 + j) * 4) 0 = z0 at *
                  generalize M.getD ((a * 2 + j) * 4 + 1) 0 = z1 at *
                  generalize M.getD ((a * 2 + j) * 4 + 2) 0 = z2 at *
                  generalize M.getD ((a * 2 + j) * 4 + 3) 0 = z3 at *
                  have K1 := Lib.hid C1; have K2 := Lib.hid C2; have K3 := Lib.hid C3; have K4 := Lib.hid C4
                  clear C1 C2 C3 C4
                  go_wp2_with fail
                  refine (K1.out).mono ?_; rintro e y1 ⟨rfl, d1⟩
                  go_wp2_with fail
                  refine (K2.out y1 (drawn_blk d1 Q) (drawn_blk d1 H)).mono ?_; rintro e y2 ⟨rfl, d2⟩
                  go_wp2_with fail
                  refine (K3.out y2 (drawn_blk d2 (drawn_blk d1 P)) (drawn_blk d2 (drawn_blk d1 G))).mono ?_; rintro e y3 ⟨rfl, d3⟩
                  go_wp2_with fail
                  refine (K4.out y3 (drawn_blk d3 (drawn_blk d2 (drawn_blk d1 Q))) (drawn_blk d3 (drawn_blk d2 (drawn_blk d1 H)))).mono ?_; rintro e y4 ⟨rfl, d4⟩
                  go_wp2_with fail
                  go_roundw
                  case rel => exact ⟨⟨j + 1, by omega, by go_num⟩, drawn_blk d4 (drawn_blk d3 (drawn_blk d2 (drawn_blk d1 P))), drawn_blk d4 (drawn_blk d3 (drawn_blk d2 (drawn_blk d1 Q))), drawn_blk d4 (drawn_blk d3 (drawn_blk d2 (drawn_blk d1 G))), drawn_blk d4 (drawn_blk d3 (drawn_blk d2 (drawn_blk d1 H))), drawn_bel d4 (drawn_bel d3 (drawn_bel d2 (drawn_bel d1 B)))⟩
                  case measure => simp [intOf]; omega
                · go_wp2_with fail
                  go_roundw
                  case rel => exact ⟨a + 1, by omega, by go_num, P, Q, G, H, B⟩
                  case measure => simp [intOf]; omega
            · go_wp2_with fail
              go_ret
              exact ⟨rfl, hob ▸ B⟩
        · rw [if_neg hok] at r1
          have hF : mvF 2 2 M (o1, o2, o3, o4, o5, false) = M := by unfold mvF; rw [if_neg hok]
          rw [hF] at r1
          have R1 := Lib.hid r1
          clear r1 hF mO hok
          go_wp2_with fail
          refine (R1.out).mono ?_
          rintro e w7 ⟨rfl, m7⟩
          have O7 := m7.blk k0 (by omega)
          have p7 := m7.blk p0 (by omega)
          have q7 := m7.blk q0 (by omega)
          have h7 := m7.blk h0 (by omega)
          have g7 := m7.1
          have b7 := b0.trans (m7.2.2.2 ob (by omega))
          clear x0 x1 x2 x3 x4 x5 k0 p0 q0 g0 h0 m7 R1 fz5 u5
          have u5 := O7.cell 5
          simp at u5
          have fz5 := O7.frozen 5
          have P9 := p7.far (p := ⟨ob, 5, none⟩) (show s + 1 ≠ ob by omega) (.bool true)
          have Q9 := q7.far (p := ⟨ob, 5, none⟩) (show s + 2 + 1 ≠ ob by omega) (.bool true)
          have G9 := g7.far (p := ⟨ob, 5, none⟩) (show s ≠ ob by omega) (.bool true)
          have H9 := h7.far (p := ⟨ob, 5, none⟩) (show s + 2 ≠ ob by omega) (.bool true)
          have Wz := b7.setCell (p := ⟨ob, 5, none⟩) (Nat.le_refl _) (.bool true)
          go_wp2_with fail
          clear fz5 u5 p7 q7 g7 h7 b7 O7 b0
          go_loopw [113] (fun i wq => ∃ a : Nat, a ≤ 2 ∧ i = .int .i64 a ∧ Blk wq (s + 1) 48 (posC 2 2 s) ∧ Blk wq (s + 2 + 1) 48 (posC 2 2 (s + 2)) ∧ Blk wq s 71 (ints M) ∧ Blk wq (s + 2) 71 (ints M) ∧ Below ob W wq) (fun i _ => 2 - (intOf i).toNat)
          case atStart => exact ⟨0, by omega, rfl, P9, Q9, G9, H9, Wz⟩
          case round =>
            clear P9 Q9 G9 H9 Wz
            obtain ⟨a, ha, rfl, P, Q, G, H, B⟩ := hrel
            obtain ⟨wo, hwo⟩ : ∃ wo : World, wo = wr := ⟨_, rfl⟩
            rw [← hwo] at P Q G H B ⊢
            clear hwo
            by_cases hal : a < 2
            · have hal' : (a : Int) < 2 := by omega
              go_wp2_with fail
              go_loopw [116] (fun i wq => UpTo 2 i ∧ Blk wq (s + 1) 48 (posC 2 2 s) ∧ Blk wq (s + 2 + 1) 48 (posC 2 2 (s + 2)) ∧ Blk wq s 71 (ints M) ∧ Blk wq (s + 2) 71 (ints M) ∧ Below ob W wq) (fun i _ => 2 - (intOf i).toNat)
              case atStart => exact ⟨⟨0, by omega, rfl⟩, P, Q, G, H, B⟩
              case round =>
                clear P Q G H B
                obtain ⟨⟨j, hj, rfl⟩, P, Q, G, H, B⟩ := hrel
                by_cases hjl : j < 2
                · have hjl' : (j : Int) < 2 := by omega
                  have C1 := bought_tab (s + 1) s 2 2 a j M hal hjl (by omega) (by omega) l1 wr P G
                  have C2 := fun w P G => bought_tab (s + 2 + 1) (s + 2) 2 2 a j M hal hjl (by omega) (by omega) l1 w P G
                  have C3 := fun w P G => sold_tab (s + 1) s 2 2 a j M hal hjl (by omega) (by omega) l1 w P G
                  have C4 := fun w P G => sold_tab (s + 2 + 1) (s + 2) 2 2 a j M hal hjl (by omega) (by omega) l1 w P G
                  generalize M.getD ((a * 2 + j) * 4) 0 = z0 at *
                  generalize M.getD ((a * 2 + j) * 4 + 1) 0 = z1 at *
                  generalize M.getD ((a * 2 + j) * 4 + 2) 0 = z2 at *
                  generalize M.getD ((a * 2 + j) * 4 + 3) 0 = z3 at *
                  have K1 := Lib.hid C1; have K2 := Lib.hid C2; have K3 := Lib.hid C3; have K4 := Lib.hid C4
                  clear C1 C2 C3 C4
                  go_wp2_with fail
                  refine (K1.out).mono ?_; rintro e y1 ⟨rfl, d1⟩
                  go_wp2_with fail
                  refine (K2.out y1 (drawn_blk d1 Q) (drawn_blk d1 H)).mono ?_; rintro e y2 ⟨rfl, d2⟩
                  go_wp2_with fail
                  refine (K3.out y2 (drawn_blk d2 (drawn_blk d1 P)) (drawn_blk d2 (drawn_blk d1 G))).mono ?_; rintro e y3 ⟨rfl, d3⟩
                  go_wp2_with fail
                  refine (K4.out y3 (drawn_blk d3 (drawn_blk d2 (drawn_blk d1 Q))) (drawn_blk d3 (drawn_blk d2 (drawn_blk d1 H)))).mono ?_; rintro e y4 ⟨rfl, d4⟩
                  go_wp2_with fail
                  go_roundw
                  case rel => exact ⟨⟨j + 1, by omega, by go_num⟩, drawn_blk d4 (drawn_blk d3 (drawn_blk d2 (drawn_blk d1 P))), drawn_blk d4 (drawn_blk d3 (drawn_blk d2 (drawn_blk d1 Q))), drawn_blk d4 (drawn_blk d3 (drawn_blk d2 (drawn_blk d1 G))), drawn_blk d4 (drawn_blk d3 (drawn_blk d2 (drawn_blk d1 H))), drawn_bel d4 (drawn_bel d3 (drawn_bel d2 (drawn_bel d1 B)))⟩
                  case measure => simp [intOf]; omega
                · go_wp2_with fail
                  go_roundw
                  case rel => exact ⟨a + 1, by omega, by go_num, P, Q, G, H, B⟩
                  case measure => simp [intOf]; omega
            · go_wp2_with fail
              go_ret
              exact ⟨rfl, hob ▸ B⟩
      · have hw : 1048576 < o4 ∨ (o4 ≤ 1048576 ∧ 1048576 < o5) := by omega
        clear hz
        rcases hw with z1 | ⟨z1, z2⟩
        all_goals
          go_wp2_with fail
          go_ret
          exact ⟨rfl, hob ▸ b0⟩
set_option maxHeartbeats 4000000 in
set_option maxRecDepth 100000 in
theorem turned_long (A : Option Addr) (c n : Nat) (h : 60 < n) (o : Ex) (W : World) :
    Calls Try.prog 4 #[.slice A n c, opV o] W fun e W' => e = .returned (.bool true) ∧ Below W.heap.size W W' := by
  obtain ⟨o1, o2, o3, o4, o5, o6⟩ := o
  unfold opV
  simp only
  have haw := fun w => awake18 w
  have Haw := Lib.hid haw
  clear haw
  go_enter Try.func4, Try.ntmps4
  go_wp2_with fail
  refine (Haw.out _).mono ?_
  rintro e w1 ⟨rfl, hb1⟩
  go_wp2_with fail
  go_ret
  exact ⟨rfl, bt ((Below.refl W.heap.size W).alloc (Nat.le_refl _) _) hb1⟩
theorem PositionTurned (A0 : Option Addr) (c0 : Nat) (l0 : List (Int × Int × Int × Int × Int × Bool)) (a1_0 : Int) (a1_1 : Int) (a1_2 : Int) (a1_3 : Int) (a1_4 : Int) (a1_5 : Bool) (W : World) (w0 : (A0 = none ∧ c0 = 0 ∧ l0 = []) ∨ ∃ x, A0 = some x ∧ l0.length ≤ c0 ∧ c0 ≤ maxLen ∧ ∀ i (h : i < l0.length), W.cell? (x.add (i * 6 + 0)) = some (.int .i64 l0[i].1) ∧ W.cell? (x.add (i * 6 + 1)) = some (.int .i64 l0[i].2.1) ∧ W.cell? (x.add (i * 6 + 2)) = some (.int .i64 l0[i].2.2.1) ∧ W.cell? (x.add (i * 6 + 3)) = some (.int .i64 l0[i].2.2.2.1) ∧ W.cell? (x.add (i * 6 + 4)) = some (.int .i64 l0[i].2.2.2.2.1) ∧ W.cell? (x.add (i * 6 + 5)) = some (.bool l0[i].2.2.2.2.2) ∧ (Lit.int .i64 l0[i].1).wf = true ∧ (Lit.int .i64 l0[i].2.1).wf = true ∧ (Lit.int .i64 l0[i].2.2.1).wf = true ∧ (Lit.int .i64 l0[i].2.2.2.1).wf = true ∧ (Lit.int .i64 l0[i].2.2.2.2.1).wf = true) (w1_0 : (Lit.int .i64 a1_0).wf = true) (w1_1 : (Lit.int .i64 a1_1).wf = true) (w1_2 : (Lit.int .i64 a1_2).wf = true) (w1_3 : (Lit.int .i64 a1_3).wf = true) (w1_4 : (Lit.int .i64 a1_4).wf = true) :
    Calls Try.prog 4 #[.slice A0 l0.length c0, .agg #[.int .i64 a1_0, .int .i64 a1_1, .int .i64 a1_2, .int .i64 a1_3, .int .i64 a1_4, .bool a1_5]] W fun e W' => e = .returned (.bool true) ∧ Below W.heap.size W W' := by
  by_cases hl : l0.length ≤ 60
  · refine turned_ok A0 c0 l0 hl (a1_0, a1_1, a1_2, a1_3, a1_4, a1_5) W fun i h => ?_
    rcases w0 with ⟨_, _, rfl⟩ | ⟨x, rfl, _, _, hf⟩
    · simp at h
    · obtain ⟨f0, f1, f2, f3, f4, f5, _⟩ := hf i h
      exact ⟨x, rfl, f0, f1, f2, f3, f4, f5⟩
  · exact turned_long A0 c0 _ (by omega) (a1_0, a1_1, a1_2, a1_3, a1_4, a1_5) W
end Go.Proofs.Ytenlifjfehnldaa.Walk
