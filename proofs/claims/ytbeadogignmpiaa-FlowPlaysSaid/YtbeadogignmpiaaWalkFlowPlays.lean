/- FlowPlays: every play of what the market trades (any number of symbols, any list of trades; more than 200 are let go by the statement itself) has the document's totals, or is refused; no condition. -/
import Derived.Test.YtbeadogignmpiaaFlow2
import Derived.Test.YtbeadogignmpiaaPl25
import Derived.LoopTactic
import Derived.Deep.RegionHeld3
set_option linter.unusedVariables false
set_option linter.unusedSimpArgs false
namespace Go.Proofs.Ytbeadogignmpiaa.Walk
open Go Go.RowKit Go.Proofs.YtbeadogignmpiaaW.PrintWords Go.Proofs.YtbeadogignmpiaaW.PrintMore Go.Proofs.Ytbeadogignmpiaa.Hand Go.Proofs.Ytbeadogignmpiaa.PL Go.Proofs.Ytbeadogignmpiaa.F
set_option maxHeartbeats 8000000 in
set_option maxRecDepth 100000 in
theorem plays_ok (n : Nat) (h1 : 1 ≤ n) (h2 : n ≤ 16) (A : Option Addr) (c : Nat) (l : List (Int × Int)) (hl : l.length ≤ 200) (W : World)
    (hc : ∀ i (h : i < l.length), ∃ x, A = some x ∧ W.cell? (x.add (i * 2)) = some (.int .i64 l[i].1) ∧ W.cell? (x.add (i * 2 + 1)) = some (.int .i64 l[i].2) ∧ in64 l[i].1) :
    Calls Try.prog 13 #[.int .i64 n, .slice A l.length c] W fun e W' => e = .returned (.bool true) ∧ Below W.heap.size W W' := by
  have haw := fun w => spigotlaw25_awake.calls 2 true w (awake25 2 (by omega))
  have Haw := Lib.hid haw
  have Hc := Lib.hid hc
  clear haw hc
  have hm := fun w => make_ints n (by omega) w
  go_enter Try.func13, Try.ntmps13
  go_wp2_with fail
  refine (Haw.out _).mono ?_
  rintro e w1 ⟨rfl, hb1⟩
  go_wp2_with fail
  refine (new_ok n h1 h2 _).mono ?_
  rintro e w2 ⟨rfl, hw2⟩
  have Hw2 := Lib.hid hw2
  clear hw2
  go_wp2_with fail
  have hw2 := Hw2.out
  have z1 : w1.heap.size + 2 = w2.heap.size := by rw [hw2]; simp
  have t1 : Blk w2 (w1.heap.size + 1) 51 #[.slice (some ⟨w1.heap.size, 0, none⟩) n n] := by rw [hw2]; have := Blk.new (w1.alloc (.cells (ints (List.replicate n 0)) 3)) 51 #[.slice (some ⟨w1.heap.size, 0, none⟩) n n]; rwa [World.size_alloc] at this
  have t2 : Blk w2 w1.heap.size 3 (ints (List.replicate n 0)) := by rw [hw2]; exact (Blk.new _ _ _).alloc _
  have hBw : Below W.heap.size W w2 := by rw [hw2]; exact (hb1.alloc hb1.size _).alloc (by simp; have := hb1.size; omega) _
  have b1 := t1.alloc (.cells (ints (List.replicate n 0)) 3)
  have b2 := t2.alloc (.cells (ints (List.replicate n 0)) 3)
  have b3 := Blk.new w2 3 (ints (List.replicate n 0))
  have hB0 := hBw.alloc hBw.size (.cells (ints (List.replicate n 0)) 3)
  have n1 : w1.heap.size + 1 < w2.heap.size := by omega
  have n0 : W.heap.size ≤ w1.heap.size := hb1.size
  clear hw2 Hw2 z1 t1 t2 hBw hb1 Haw hm
  generalize w2.alloc (.cells (ints (List.replicate n 0)) 3) = Ws at *
  generalize w1.heap.size = g1 at *
  generalize w2.heap.size = g2 at *
  go_loopw [44] (fun i wr => ∃ (k : Nat) (T : List Int), k ≤ l.length ∧ i = .int .i64 k ∧ T.length = n ∧ inT T ∧ Blk wr (g1 + 1) 51 #[.slice (some ⟨g1, 0, none⟩) n n] ∧ Blk wr g1 3 (ints T) ∧ Blk wr g2 3 (ints T) ∧ Below W.heap.size W wr) (fun i _ => l.length - (intOf i).toNat)
  case atStart => exact ⟨0, List.replicate n 0, Nat.zero_le _, rfl, by simp, fun x hx => by rw [List.eq_of_mem_replicate hx]; omega, b1, b2, b3, hB0⟩
  case round =>
    obtain ⟨k, T, hk, rfl, hTn, hT, c1, c2, c3, hB⟩ := hrel
    have HTn := Lib.hid hTn
    have HT := Lib.hid hT
    clear hTn hT b1 b2 b3 hB0
    by_cases hlt : k < l.length
    · obtain ⟨x, rfl, e0, e1, hin⟩ := Hc.out k hlt
      have f0 : wr.cell? (x.add (k * 2)) = some (.int .i64 l[k].1) := (hB.cell (World.block_lt_of_cell? W _ e0)).trans e0
      have f1 : wr.cell? (x.add (k * 2 + 1)) = some (.int .i64 l[k].2) := (hB.cell (World.block_lt_of_cell? W _ e1)).trans e1
      have f2 := f1
      rw [add_field _ _ 1 (by omega)] at f2
      have Hin := Lib.hid hin
      clear e0 e1 hin Hc
      generalize l[k].1 = s at *
      generalize l[k].2 = q at *
      obtain ⟨r, T', hr⟩ : ∃ r T', prS T s q = (r, T') := ⟨_, _, rfl⟩
      have HT' : Hid (T'.length = n ∧ inT T') := by
        have h1 := prS_len T s q
        have h2 := prS_in (s := s) (q := q) HT.out
        rw [hr] at h1 h2
        exact Lib.hid ⟨h1.trans HTn.out, h2⟩
      have Hr := Lib.hid hr
      clear hr
      go_wp2_with fail
      have o3 := Blk.new wr 47 #[.int .i64 s, .int .i64 q]
      have k1 := c1.alloc (.cells #[.int .i64 s, .int .i64 q] 47)
      have k2 := c2.alloc (.cells #[.int .i64 s, .int .i64 q] 47)
      have k3 := c3.alloc (.cells #[.int .i64 s, .int .i64 q] 47)
      have hB3 := hB.alloc hB.size (.cells #[.int .i64 s, .int .i64 q] 47)
      have g1l := c2.lt
      have g2l := c3.lt
      have y0 := o3.cell 0
      have y1 := o3.cell 1
      clear f0 f1 f2 c1 c2 c3 hB
      have bheap : ∀ {w w' : World} {g : Nat} {t : TypeId} {cs : Array Value}, Blk w g t cs → w'.heap = w.heap → Blk w' g t cs := fun h e => by unfold Blk at h ⊢; rw [e]; exact h
      generalize wr.alloc (.cells #[.int .i64 s, .int .i64 q] 47) = W3 at *
      generalize wr.heap.size = ob at *
      have hp1 : ∀ w, w.heap = W3.heap → Calls Try.prog 34 #[.pointer (some ⟨g1 + 1, 0, none⟩), .int .i64 s, .int .i64 q] w fun e W' => e = .returned (.int .i64 r) ∧ Blk W' g1 3 (ints T') ∧ Turned g1 w W' := fun w e => print_n (g1 + 1) g1 n T s q w HTn.out r T' Hr.out (bheap k1 e) (bheap k2 e) h1 h2 HT.out Hin.out
      have hp2 : ∀ w, Blk w g2 3 (ints T) → Calls Try.prog 37 #[.slice (some ⟨g2, 0, none⟩) n n, .int .i64 s, .int .i64 q] w fun e W' => e = .returned (.int .i64 r) ∧ Blk W' g2 3 (ints T') ∧ Turned g2 w W' := fun w e => rprint_n g2 n T s q w HTn.out r T' Hr.out e h1 h2 HT.out Hin.out
      have Hp1 := Lib.hid hp1
      have Hp2 := Lib.hid hp2
      clear hp1 hp2
      go_region_held3 (fun w' => w'.cell? ⟨ob, 0, none⟩ = some (.int .i64 s) ∧ w'.cell? ⟨ob, 1, none⟩ = some (.int .i64 q))
        (first
          | exact ⟨y0, y1⟩
          | exact ⟨o5.cell 0, o5.cell 1⟩
          | exact ⟨o4.cell 0, o4.cell 1⟩)
        (first
          | (go_at_call 34; refine (Hp1.out _ (by exact rfl)).mono ?_; rintro e w4 ⟨rfl, p2, tt1⟩; have o4 := tt1.blk (bheap o3 rfl) (Nat.ne_of_gt g1l); have p1 := tt1.blk (bheap k1 rfl) (Nat.succ_ne_self _); have p3 := tt1.blk (bheap k3 rfl) (Nat.ne_of_gt (Nat.lt_of_succ_lt n1)))
          | (go_at_call 37; refine (Hp2.out _ p3).mono ?_; rintro e w5 ⟨rfl, r3, tt2⟩; have o5 := tt2.blk o4 (Nat.ne_of_gt g2l); have r1 := tt2.blk p1 (Nat.ne_of_lt n1); have r2 := tt2.blk p2 (Nat.ne_of_lt (Nat.lt_of_succ_lt n1))))
      have hB5 : Below W.heap.size W w5 := tt2.below (tt1.below (pw_below_drewN hB3 1) n0) (by omega)
      have hT'n := HT'.out.1
      have HTi := Lib.hid HT'.out.2
      have HTn' := Lib.hid hT'n
      clear hT'n k1 k2 k3 o3 o4 p1 p2 p3 tt1 tt2 Hp1 Hp2 y0 y1 HT' Hr hB3 HT HTn Hin bheap g1l g2l o5
      have c0 : w5.cell? ⟨g1 + 1, 0, none⟩ = some (.slice (some ⟨g1, 0, none⟩) n n) := r1.cell 0
      have R1 := Lib.hid r1
      have R2 := Lib.hid r2
      have R3 := Lib.hid r3
      clear r1 r2 r3
      go_wp2_with fail
      go_loop [63] (fun i => ∃ j : Nat, j ≤ n ∧ i = .int .i64 j) (fun i => n - (intOf i).toNat)
      case atStart => exact ⟨0, Nat.zero_le _, rfl⟩
      case round =>
        obtain ⟨j, hj, rfl⟩ := hrel
        by_cases hjl : j < n
        · have hjl' : j < T'.length := by rw [HTn'.out]; exact hjl
          have x1 : w5.cell? ⟨g1, j, none⟩ = some (.int .i64 (T'.getD j 0)) := by rw [R2.out.cell j, ints_at T' j hjl']; simp [hjl']
          have x3 : w5.cell? ⟨g2, j, none⟩ = some (.int .i64 (T'.getD j 0)) := by rw [R3.out.cell j, ints_at T' j hjl']; simp [hjl']
          clear hjl'
          generalize T'.getD j 0 = y at *
          go_wp2_with (go_at_call 35; refine (total_in (g1 + 1) g1 n n T' j hjl (by omega) _ c0 y x1).mono ?_; rintro e w' ⟨rfl, rfl⟩)
          go_round
          case rel => exact ⟨j + 1, by omega, by go_num⟩
          case measure => simp [intOf]; omega
        · go_wp2_with fail
          go_roundw
          case rel => exact ⟨k + 1, T', by omega, by go_num, HTn'.out, HTi.out, R1.out, R2.out, R3.out, hB5⟩
          case measure => simp [intOf]; omega
    · have c0 : wr.cell? ⟨g1 + 1, 0, none⟩ = some (.slice (some ⟨g1, 0, none⟩) n n) := c1.cell 0
      clear c1 c2 c3 HT HTn Hc
      go_wp2_with (go_at_call 35; first | ((with_reducible refine (total_out (g1 + 1) n _ n (-1) (by omega) (by omega) _ c0).mono ?_); rintro e w' ⟨rfl, rfl⟩) | ((with_reducible refine (total_out (g1 + 1) n _ n (n : Int) (by omega) (by omega) _ c0).mono ?_); rintro e w' ⟨rfl, rfl⟩))
      go_ret
      exact ⟨rfl, hB⟩
set_option maxHeartbeats 4000000 in
theorem plays_long (s : Int) (A : Option Addr) (c n : Nat) (h : 200 < n) (W : World) :
    Calls Try.prog 13 #[.int .i64 s, .slice A n c] W fun e W' => e = .returned (.bool true) ∧ Below W.heap.size W W' := by
  have haw := fun w => spigotlaw25_awake.calls 2 true w (awake25 2 (by omega))
  have Haw := Lib.hid haw
  clear haw
  go_enter Try.func13, Try.ntmps13
  go_wp2_with fail
  refine (Haw.out _).mono ?_
  rintro e w1 ⟨rfl, hb1⟩
  go_wp2_with fail
  go_ret
  exact ⟨rfl, hb1⟩
set_option maxHeartbeats 4000000 in
theorem plays_few (s : Int) (A : Option Addr) (c n : Nat) (h : n ≤ 200) (hs : s < 1 ∨ 16 < s) (W : World) :
    Calls Try.prog 13 #[.int .i64 s, .slice A n c] W fun e W' => e = .returned (.bool true) ∧ Below W.heap.size W W' := by
  have haw := fun w => spigotlaw25_awake.calls 2 true w (awake25 2 (by omega))
  have hnw : ∀ w, Calls Try.prog 36 #[.int .i64 s] w fun e w' => e = .returned (.tuple #[.pointer none, .int .i64 2]) ∧ w = w' := by
    intro w
    rcases hs with h | h
    · exact new_no1 s h w
    · exact new_no2 s h w
  have Haw := Lib.hid haw
  have Hnw := Lib.hid hnw
  clear haw hnw
  rcases hs with hs | hs
  · go_enter Try.func13, Try.ntmps13
    go_wp2_with fail
    refine (Haw.out _).mono ?_
    rintro e w1 ⟨rfl, hb1⟩
    go_wp2_with fail
    refine (Hnw.out _).mono ?_
    rintro e w2 ⟨rfl, rfl⟩
    go_wp2_with fail
    go_ret
    exact ⟨rfl, hb1⟩
  · have hs2 : 1 ≤ s := by omega
    go_enter Try.func13, Try.ntmps13
    go_wp2_with fail
    refine (Haw.out _).mono ?_
    rintro e w1 ⟨rfl, hb1⟩
    go_wp2_with fail
    refine (Hnw.out _).mono ?_
    rintro e w2 ⟨rfl, rfl⟩
    go_wp2_with fail
    go_ret
    exact ⟨rfl, hb1⟩
theorem FlowPlays (a0 : Int) (A1 : Option Addr) (c1 : Nat) (l1 : List (Int × Int)) (W : World) (w0 : (Lit.int .i64 a0).wf = true) (w1 : (A1 = none ∧ c1 = 0 ∧ l1 = []) ∨ ∃ x, A1 = some x ∧ l1.length ≤ c1 ∧ c1 ≤ maxLen ∧ ∀ i (h : i < l1.length), W.cell? (x.add (i * 2 + 0)) = some (.int .i64 l1[i].1) ∧ W.cell? (x.add (i * 2 + 1)) = some (.int .i64 l1[i].2) ∧ (Lit.int .i64 l1[i].1).wf = true ∧ (Lit.int .i64 l1[i].2).wf = true) :
    Calls Try.prog 13 #[.int .i64 a0, .slice A1 l1.length c1] W fun e W' => e = .returned (.bool true) ∧ Below W.heap.size W W' := by
  by_cases hl : l1.length ≤ 200
  · by_cases hs : a0 < 1 ∨ 16 < a0
    · exact plays_few a0 A1 c1 _ hl hs W
    · obtain ⟨n, rfl⟩ := Int.eq_ofNat_of_zero_le (show 0 ≤ a0 by omega)
      refine plays_ok n (by omega) (by omega) A1 c1 l1 hl W fun i h => ?_
      rcases w1 with ⟨_, _, rfl⟩ | ⟨x, rfl, _, _, hf⟩
      · simp at h
      · obtain ⟨f0, f1, f2, _⟩ := hf i h
        exact ⟨x, rfl, f0, f1, in64_wf f2⟩
  · exact plays_long a0 A1 c1 _ (by omega) W
end Go.Proofs.Ytbeadogignmpiaa.Walk
