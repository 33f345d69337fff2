/- FlowNone: on a tape that is none, of any symbol and quantity (two numbers of 64 bits), nothing was traded and nothing can be; no condition. -/
import Derived.Test.YtbeadogignmpiaaFlow
import Derived.Test.YtbeadogignmpiaaPl25
import Derived.LoopTactic
set_option linter.unusedVariables false
set_option linter.unusedSimpArgs false
namespace Go.Proofs.Ytbeadogignmpiaa.Walk
open Go Go.RowKit Go.Proofs.YtbeadogignmpiaaW.PrintWords Go.Proofs.YtbeadogignmpiaaW.PrintMore Go.Proofs.Ytbeadogignmpiaa.Hand Go.Proofs.Ytbeadogignmpiaa.PL Go.Proofs.Ytbeadogignmpiaa.F
set_option maxHeartbeats 4000000 in
set_option maxRecDepth 100000 in
theorem FlowNone (a0_0 : Int) (a0_1 : Int) (W : World) (w0_0 : (Lit.int .i64 a0_0).wf = true) (w0_1 : (Lit.int .i64 a0_1).wf = true) :
    Calls Try.prog 12 #[.agg #[.int .i64 a0_0, .int .i64 a0_1]] W fun e W' => e = .returned (.bool true) ∧ Below W.heap.size W W' := by
  have haw := fun w => spigotlaw25_awake.calls 2 true w (awake25 2 (by omega))
  have Haw := Lib.hid haw
  clear haw w0_0 w0_1
  go_enter Try.func12, Try.ntmps12
  go_wp2_with fail
  refine (Haw.out _).mono ?_
  rintro e w1 ⟨rfl, hb1⟩
  go_wp2_with fail
  obtain ⟨hcell, hfroz⟩ := bcell hb1
  have z1 : W.heap.size < w1.heap.size := Nat.lt_of_lt_of_le (by simp) hb1.size
  have o0 : w1.cell? ⟨W.heap.size, 0, none⟩ = some (.int .i64 a0_0) := (hcell _ _ (by simp)).trans (by simp [go_sem])
  have o1 : w1.cell? ⟨W.heap.size, 1, none⟩ = some (.int .i64 a0_1) := (hcell _ _ (by simp)).trans (by simp [go_sem])
  have hB : Below W.heap.size W ((w1.alloc (.cells #[.slice none 0 0] 51)).alloc (.cells #[.pointer none, .pointer (some ⟨w1.heap.size, 0, none⟩)] 48)) :=
    ((((Below.refl W.heap.size W).alloc (Nat.le_refl _) _).trans (hb1.mono (by simp))).alloc (by omega) _).alloc (by simp; omega) _
  have q0 : ((w1.alloc (.cells #[.slice none 0 0] 51)).alloc (.cells #[.pointer none, .pointer (some ⟨w1.heap.size, 0, none⟩)] 48)).cell? ⟨W.heap.size, 0, none⟩ = some (.int .i64 a0_0) := by
    rw [World.cell?_alloc_past _ _ _ (by simp; omega), World.cell?_alloc_past _ _ _ z1]; exact o0
  have q1 : ((w1.alloc (.cells #[.slice none 0 0] 51)).alloc (.cells #[.pointer none, .pointer (some ⟨w1.heap.size, 0, none⟩)] 48)).cell? ⟨W.heap.size, 1, none⟩ = some (.int .i64 a0_1) := by
    rw [World.cell?_alloc_past _ _ _ (by simp; omega), World.cell?_alloc_past _ _ _ z1]; exact o1
  have t0 : ((w1.alloc (.cells #[.slice none 0 0] 51)).alloc (.cells #[.pointer none, .pointer (some ⟨w1.heap.size, 0, none⟩)] 48)).cell? ⟨w1.heap.size, 0, none⟩ = some (.slice none 0 0) := by simp [go_sem]
  have r0 : ((w1.alloc (.cells #[.slice none 0 0] 51)).alloc (.cells #[.pointer none, .pointer (some ⟨w1.heap.size, 0, none⟩)] 48)).cell? ⟨w1.heap.size + 1, 0, none⟩ = some (.pointer none) := by simp [go_sem]
  have r1 : ((w1.alloc (.cells #[.slice none 0 0] 51)).alloc (.cells #[.pointer none, .pointer (some ⟨w1.heap.size, 0, none⟩)] 48)).cell? ⟨w1.heap.size + 1, 1, none⟩ = some (.pointer (some ⟨w1.heap.size, 0, none⟩)) := by simp [go_sem]
  generalize (w1.alloc (.cells #[.slice none 0 0] 51)).alloc (.cells #[.pointer none, .pointer (some ⟨w1.heap.size, 0, none⟩)] 48) = W2 at *
  clear o0 o1 hcell hfroz hb1
  generalize w1.heap.size = g at *
  go_loop [13] (fun i => ∃ k : Nat, k ≤ 2 ∧ i = .int .i64 k) (fun i => 2 - (intOf i).toNat)
  case atStart => exact ⟨0, by omega, rfl⟩
  case round =>
    obtain ⟨k, hk, rfl⟩ := hrel
    have hk3 : k = 0 ∨ k = 1 ∨ k = 2 := by omega
    rcases hk3 with rfl | rfl | rfl
    · go_wp2_with (first | (go_at_call 34; refine (print_none _ _ _).mono ?_; rintro e w' ⟨rfl, rfl⟩) | (go_at_call 35; refine (total_none _ _).mono ?_; rintro e w' ⟨rfl, rfl⟩))
      go_round
      case rel => exact ⟨1, by omega, rfl⟩
      case measure => simp [intOf]
    · go_wp2_with (first | (go_at_call 34; refine (print_empty g _ _ _ t0).mono ?_; rintro e w' ⟨rfl, rfl⟩) | (go_at_call 35; refine (total_out g 0 none 0 _ (by omega) (by omega) _ t0).mono ?_; rintro e w' ⟨rfl, rfl⟩))
      go_round
      case rel => exact ⟨2, by omega, rfl⟩
      case measure => simp [intOf]
    · go_wp2
      go_ret
      exact ⟨rfl, hB⟩
end Go.Proofs.Ytbeadogignmpiaa.Walk
