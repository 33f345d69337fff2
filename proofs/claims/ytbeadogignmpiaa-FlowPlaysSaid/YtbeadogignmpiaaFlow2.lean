/- flow: a tape of some symbols, printed on; the document's list of totals, printed on; walked. -/
import Derived.Test.YtbeadogignmpiaaFlow
import Derived.Laws.MakeOwn
import Derived.Laws.OwnMore
set_option linter.unusedVariables false
set_option linter.unusedSimpArgs false
namespace Go.Proofs.Ytbeadogignmpiaa.Hand
open Go Go.RowKit Go.Proofs.YtbeadogignmpiaaW.PrintWords Go.Proofs.YtbeadogignmpiaaW.PrintMore
/-- A world in which one cell of block g was written, if any. -/
def Turned (g : Nat) (w w' : World) : Prop := w' = w ∨ ∃ j u, w' = w.setCell ⟨g, j, none⟩ u
theorem Turned.blk {g g' : Nat} {w w' : World} {t : TypeId} {cs : Array Value} (h : Turned g w w') (hb : Blk w g' t cs) (hg : g' ≠ g) : Blk w' g' t cs := by
  rcases h with rfl | ⟨j, u, rfl⟩
  · exact hb
  · exact hb.far hg u
theorem Turned.below {g B : Nat} {w w' w0 : World} (h : Turned g w w') (hb : Below B w0 w) (hg : B ≤ g) : Below B w0 w' := by
  rcases h with rfl | ⟨j, u, rfl⟩
  · exact hb
  · exact hb.setCell hg u
theorem Turned.size {g : Nat} {w w' : World} (h : Turned g w w') : w'.heap.size = w.heap.size := by
  rcases h with rfl | ⟨j, u, rfl⟩
  · rfl
  · simp [World.setCell]
/-- A trade on a list of totals: an error's number, the list behind it. -/
def prS (T : List Int) (s q : Int) : Int × List Int :=
  if (0 ≤ s ∧ s < T.length) ∧ (1 ≤ q ∧ q ≤ 1099511627776) then (if T.getD s.toNat 0 > 4611686018427387904 - q then (10, T) else (0, T.set s.toNat (T.getD s.toNat 0 + q))) else (2, T)
def inT (T : List Int) : Prop := ∀ x ∈ T, 0 ≤ x ∧ x ≤ 4611686018427387904
theorem prS_len (T : List Int) (s q : Int) : (prS T s q).2.length = T.length := by unfold prS; split; split <;> simp; rfl
theorem prS_in {T : List Int} {s q : Int} (h : inT T) : inT (prS T s q).2 := by
  unfold prS
  split
  · rename_i c
    split
    · exact h
    · rename_i d
      intro x hx
      have hlt : s.toNat < T.length := by omega
      rcases List.mem_or_eq_of_mem_set hx with hx | rfl
      · exact h x hx
      · have hm : T.getD s.toNat 0 ∈ T := by simp [hlt]
        have := h _ hm
        omega
  · exact h
theorem make_ints (n : Nat) (hn : n ≤ 1000) (w : World) : (Instr.makeSlice 49 (.int .i64 n) (.int .i64 n)).run Try.prog w = .ok (.slice (some ⟨w.heap.size, 0, none⟩) n n) (w.alloc (.cells (ints (List.replicate n 0)) 3)) := by
  have info : (Try.prog.info? 3).map (fun i => (i.zero, i.size, i.bytes)) = some (some (.int .i64 0), 1, 8) := by kernel_rfl
  obtain ⟨i0, hi, hz0, hz1, hz2⟩ := info_parts info
  have := run_makeSlice (P := Try.prog) (w := w) 49 3 i0 (.int .i64 0) Try.underlying49 hi hz0 .i64 .i64 (n : Int) (n : Int) (by omega) (Int.le_refl _) (by rw [hz1]; omega) (by rw [hz2]; omega) (by omega)
  rw [this, hz1]
  have e : madeCells (Value.int .i64 0).cells (Int.toNat n * 1) = ints (List.replicate n 0) := by
    unfold ints
    apply Array.ext'
    rw [show (Value.int .i64 0).cells = #[.int .i64 0] from rfl, toList_madeCells_one]
    simp
  rw [e]
  rfl
set_option maxHeartbeats 1000000 in
theorem new_ok (n : Nat) (h1 : 1 ≤ n) (h2 : n ≤ 16) (w : World) :
    Calls Try.prog 36 #[.int .i64 n] w fun e w' => e = .returned (.tuple #[.pointer (some ⟨w.heap.size + 1, 0, none⟩), .int .i64 0]) ∧ w' = (w.alloc (.cells (ints (List.replicate n 0)) 3)).alloc (.cells #[.slice (some ⟨w.heap.size, 0, none⟩) n n] 51) := by
  have hb := fun w => between_yes (n : Int) 1 16 (by omega) (by omega) w
  have hm := fun w => make_ints n (by omega) w
  have Hb := Lib.hid hb
  clear hb
  go_enter Try.func36, Try.ntmps36
  go_wp2_with (go_at_call 46; refine (Hb.out _).mono ?_; rintro e w' ⟨rfl, rfl⟩)
  go_ret2
  exact ⟨rfl, rfl⟩
theorem new_no1 (n : Int) (h : n < 1) (w : World) : Calls Try.prog 36 #[.int .i64 n] w fun e w' => e = .returned (.tuple #[.pointer none, .int .i64 2]) ∧ w = w' := by
  have hb := fun w => between_no1 n 1 16 h w
  have Hb := Lib.hid hb
  clear hb
  go_enter Try.func36, Try.ntmps36
  go_wp2_with (go_at_call 46; refine (Hb.out _).mono ?_; rintro e w' ⟨rfl, rfl⟩)
  go_ret2
  exact ⟨rfl, rfl⟩
theorem new_no2 (n : Int) (h : 16 < n) (w : World) : Calls Try.prog 36 #[.int .i64 n] w fun e w' => e = .returned (.tuple #[.pointer none, .int .i64 2]) ∧ w = w' := by
  have hb := fun w => between_no2 n 1 16 (by omega) h w
  have Hb := Lib.hid hb
  clear hb
  go_enter Try.func36, Try.ntmps36
  go_wp2_with (go_at_call 46; refine (Hb.out _).mono ?_; rintro e w' ⟨rfl, rfl⟩)
  go_ret2
  exact ⟨rfl, rfl⟩
set_option maxHeartbeats 4000000 in
theorem print_calls (b g : Nat) (T : List Int) (s q : Int) (W : World) (hb : Blk W b 51 #[.slice (some ⟨g, 0, none⟩) T.length T.length]) (hg : Blk W g 3 (ints T)) (h1 : 1 ≤ T.length) (h2 : T.length ≤ 16) (hT : inT T) (sw : -9223372036854775808 ≤ s ∧ s ≤ 9223372036854775807) :
    Calls Try.prog 34 #[.pointer (some ⟨b, 0, none⟩), .int .i64 s, .int .i64 q] W fun e W' => e = .returned (.int .i64 (prS T s q).1) ∧ Blk W' g 3 (ints (prS T s q).2) ∧ Turned g W W' := by
  have c0 : W.cell? ⟨b, 0, none⟩ = some (.slice (some ⟨g, 0, none⟩) T.length T.length) := hb.cell 0
  have Hg := Lib.hid hg
  by_cases hs : 0 ≤ s ∧ s < T.length
  · obtain ⟨s, rfl⟩ := Int.eq_ofNat_of_zero_le hs.1
    have hlt : s < T.length := by omega
    have hy := fun w => between_yes (s : Int) 0 ((T.length : Int) - 1) (by omega) (by omega) w
    have hx : W.cell? ⟨g, s, none⟩ = some (.int .i64 (T.getD s 0)) := by rw [hg.cell s, ints_at T s hlt]; simp [hlt]
    have hfz := hg.frozen s
    have hm : T.getD s 0 ∈ T := by simp [hlt]
    obtain ⟨x0, x1⟩ := hT _ hm
    have Hy := Lib.hid hy
    by_cases hq : 1 ≤ q ∧ q ≤ 1099511627776
    · have hz := fun w => between_yes q 1 1099511627776 hq.1 hq.2 w
      have Hz := Lib.hid hz
      obtain ⟨q0, q1⟩ := hq
      by_cases ho : T.getD s 0 > 4611686018427387904 - q
      · have e : prS T s q = (10, T) := by unfold prS; rw [if_pos ⟨hs, q0, q1⟩, if_pos (by simpa using ho)]
        rw [e]
        clear e hy hz hT hm hb hg hs sw
        generalize T.getD s 0 = x at *
        generalize T.length = n at *
        go_enter Try.func34, Try.ntmps34
        go_wp2_with (go_at_call 46; first | ((with_reducible refine (Hy.out _).mono ?_); rintro e w' ⟨rfl, rfl⟩) | ((with_reducible refine (Hz.out _).mono ?_); rintro e w' ⟨rfl, rfl⟩))
        go_ret
        exact ⟨rfl, Hg.out, .inl rfl⟩
      · have e : prS T s q = (0, T.set s (T.getD s 0 + q)) := by unfold prS; rw [if_pos ⟨hs, q0, q1⟩, if_neg (by simpa using ho)]; simp
        have hset := (hg.put s (.int .i64 (T.getD s 0 + q)))
        rw [ints_set] at hset
        have Hset := Lib.hid hset
        rw [e]
        clear e hy hz hT hm hb hg hs sw hset
        generalize T.set s (T.getD s 0 + q) = T2 at *
        generalize T.getD s 0 = x at *
        generalize T.length = n at *
        go_enter Try.func34, Try.ntmps34
        go_wp2_with (go_at_call 46; first | ((with_reducible refine (Hy.out _).mono ?_); rintro e w' ⟨rfl, rfl⟩) | ((with_reducible refine (Hz.out _).mono ?_); rintro e w' ⟨rfl, rfl⟩))
        go_ret
        exact ⟨rfl, Hset.out, .inr ⟨_, _, rfl⟩⟩
    · have hz : ∀ w, Calls Try.prog 46 #[.int .i64 q, .int .i64 1, .int .i64 1099511627776] w fun e w' => e = .returned (.bool false) ∧ w = w' := by
        intro w
        by_cases hq1 : q < 1
        · exact between_no1 q 1 _ hq1 w
        · exact between_no2 q 1 _ (by omega) (by omega) w
      have Hz := Lib.hid hz
      have e : prS T s q = (2, T) := by unfold prS; rw [if_neg (fun h => hq h.2)]
      rw [e]
      clear e hy hz hT hm hb hg hs sw hq
      generalize T.length = n at *
      go_enter Try.func34, Try.ntmps34
      go_wp2_with (go_at_call 46; first | ((with_reducible refine (Hy.out _).mono ?_); rintro e w' ⟨rfl, rfl⟩) | ((with_reducible refine (Hz.out _).mono ?_); rintro e w' ⟨rfl, rfl⟩))
      go_ret
      exact ⟨rfl, Hg.out, .inl rfl⟩
  · have hz : ∀ w, Calls Try.prog 46 #[.int .i64 s, .int .i64 0, .int .i64 ((T.length : Int) - 1)] w fun e w' => e = .returned (.bool false) ∧ w = w' := by
      intro w
      by_cases hq1 : s < 0
      · exact between_no1 s 0 _ hq1 w
      · exact between_no2 s 0 _ (by omega) (by omega) w
    have Hz := Lib.hid hz
    have e : prS T s q = (2, T) := by unfold prS; rw [if_neg (fun h => hs h.1)]
    rw [e]
    clear e hz hT hb hg hs sw
    generalize T.length = n at *
    go_enter Try.func34, Try.ntmps34
    go_wp2_with (go_at_call 46; refine (Hz.out _).mono ?_; rintro e w' ⟨rfl, rfl⟩)
    go_ret
    exact ⟨rfl, Hg.out, .inl rfl⟩
set_option maxHeartbeats 4000000 in
theorem rprint_calls (g : Nat) (T : List Int) (s q : Int) (W : World) (hg : Blk W g 3 (ints T)) (h1 : 1 ≤ T.length) (h2 : T.length ≤ 16) (hT : inT T) (sw : -9223372036854775808 ≤ s ∧ s ≤ 9223372036854775807) :
    Calls Try.prog 37 #[.slice (some ⟨g, 0, none⟩) T.length T.length, .int .i64 s, .int .i64 q] W fun e W' => e = .returned (.int .i64 (prS T s q).1) ∧ Blk W' g 3 (ints (prS T s q).2) ∧ Turned g W W' := by
  have Hg := Lib.hid hg
  by_cases hs : 0 ≤ s ∧ s < T.length
  · obtain ⟨s, rfl⟩ := Int.eq_ofNat_of_zero_le hs.1
    have hlt : s < T.length := by omega
    have hy := fun w => rin_yes (s : Int) 0 ((T.length : Int) - 1) (by omega) (by omega) w
    have hx : W.cell? ⟨g, s, none⟩ = some (.int .i64 (T.getD s 0)) := by rw [hg.cell s, ints_at T s hlt]; simp [hlt]
    have hfz := hg.frozen s
    have hm : T.getD s 0 ∈ T := by simp [hlt]
    obtain ⟨x0, x1⟩ := hT _ hm
    have Hy := Lib.hid hy
    by_cases hq : 1 ≤ q ∧ q ≤ 1099511627776
    · have hz := fun w => rin_yes q 1 1099511627776 hq.1 hq.2 w
      have Hz := Lib.hid hz
      obtain ⟨q0, q1⟩ := hq
      by_cases ho : T.getD s 0 > 4611686018427387904 - q
      · have e : prS T s q = (10, T) := by unfold prS; rw [if_pos ⟨hs, q0, q1⟩, if_pos (by simpa using ho)]
        have ho2 : 4611686018427387904 < T.getD s 0 + q := by omega
        rw [e]
        clear e hy hz hT hm hg hs sw ho
        generalize T.getD s 0 = x at *
        generalize T.length = n at *
        go_enter Try.func37, Try.ntmps37
        go_wp2_with (go_at_call 47; first | ((with_reducible refine (Hy.out _).mono ?_); rintro e w' ⟨rfl, rfl⟩) | ((with_reducible refine (Hz.out _).mono ?_); rintro e w' ⟨rfl, rfl⟩))
        go_ret
        exact ⟨rfl, Hg.out, .inl rfl⟩
      · have e : prS T s q = (0, T.set s (T.getD s 0 + q)) := by unfold prS; rw [if_pos ⟨hs, q0, q1⟩, if_neg (by simpa using ho)]; simp
        have ho2 : T.getD s 0 + q ≤ 4611686018427387904 := by omega
        have hset := (hg.put s (.int .i64 (T.getD s 0 + q)))
        rw [ints_set] at hset
        have Hset := Lib.hid hset
        rw [e]
        clear e hy hz hT hm hg hs sw hset ho
        generalize T.set s (T.getD s 0 + q) = T2 at *
        generalize T.getD s 0 = x at *
        generalize T.length = n at *
        go_enter Try.func37, Try.ntmps37
        go_wp2_with (go_at_call 47; first | ((with_reducible refine (Hy.out _).mono ?_); rintro e w' ⟨rfl, rfl⟩) | ((with_reducible refine (Hz.out _).mono ?_); rintro e w' ⟨rfl, rfl⟩))
        go_ret
        exact ⟨rfl, Hset.out, .inr ⟨_, _, rfl⟩⟩
    · have hz : ∀ w, Calls Try.prog 47 #[.int .i64 q, .int .i64 1, .int .i64 1099511627776] w fun e w' => e = .returned (.bool false) ∧ w = w' := by
        intro w
        by_cases hq1 : q < 1
        · exact rin_no1 q 1 _ hq1 w
        · exact rin_no2 q 1 _ (by omega) (by omega) w
      have Hz := Lib.hid hz
      have e : prS T s q = (2, T) := by unfold prS; rw [if_neg (fun h => hq h.2)]
      rw [e]
      clear e hy hz hT hm hg hs sw hq
      generalize T.length = n at *
      go_enter Try.func37, Try.ntmps37
      go_wp2_with (go_at_call 47; first | ((with_reducible refine (Hy.out _).mono ?_); rintro e w' ⟨rfl, rfl⟩) | ((with_reducible refine (Hz.out _).mono ?_); rintro e w' ⟨rfl, rfl⟩))
      go_ret
      exact ⟨rfl, Hg.out, .inl rfl⟩
  · have hz : ∀ w, Calls Try.prog 47 #[.int .i64 s, .int .i64 0, .int .i64 ((T.length : Int) - 1)] w fun e w' => e = .returned (.bool false) ∧ w = w' := by
      intro w
      by_cases hq1 : s < 0
      · exact rin_no1 s 0 _ hq1 w
      · exact rin_no2 s 0 _ (by omega) (by omega) w
    have Hz := Lib.hid hz
    have e : prS T s q = (2, T) := by unfold prS; rw [if_neg (fun h => hs h.1)]
    rw [e]
    clear e hz hT hg hs sw
    generalize T.length = n at *
    go_enter Try.func37, Try.ntmps37
    go_wp2_with (go_at_call 47; refine (Hz.out _).mono ?_; rintro e w' ⟨rfl, rfl⟩)
    go_ret
    exact ⟨rfl, Hg.out, .inl rfl⟩
theorem print_n (b g n : Nat) (T : List Int) (s q : Int) (W : World) (hn : T.length = n) (r : Int) (T' : List Int) (hr : prS T s q = (r, T')) (hb : Blk W b 51 #[.slice (some ⟨g, 0, none⟩) n n]) (hg : Blk W g 3 (ints T)) (h1 : 1 ≤ n) (h2 : n ≤ 16) (hT : inT T) (sw : -9223372036854775808 ≤ s ∧ s ≤ 9223372036854775807) :
    Calls Try.prog 34 #[.pointer (some ⟨b, 0, none⟩), .int .i64 s, .int .i64 q] W fun e W' => e = .returned (.int .i64 r) ∧ Blk W' g 3 (ints T') ∧ Turned g W W' := by
  subst hn
  have := print_calls b g T s q W hb hg h1 h2 hT sw
  rw [hr] at this
  exact this
theorem rprint_n (g n : Nat) (T : List Int) (s q : Int) (W : World) (hn : T.length = n) (r : Int) (T' : List Int) (hr : prS T s q = (r, T')) (hg : Blk W g 3 (ints T)) (h1 : 1 ≤ n) (h2 : n ≤ 16) (hT : inT T) (sw : -9223372036854775808 ≤ s ∧ s ≤ 9223372036854775807) :
    Calls Try.prog 37 #[.slice (some ⟨g, 0, none⟩) n n, .int .i64 s, .int .i64 q] W fun e W' => e = .returned (.int .i64 r) ∧ Blk W' g 3 (ints T') ∧ Turned g W W' := by
  subst hn
  have := rprint_calls g T s q W hg h1 h2 hT sw
  rw [hr] at this
  exact this
end Go.Proofs.Ytbeadogignmpiaa.Hand
