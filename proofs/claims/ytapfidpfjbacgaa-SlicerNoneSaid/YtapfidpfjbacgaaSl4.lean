/- What a slicer that is none answers. -/
import Derived.Test.YtapfidpfjbacgaaSl3
import Derived.WalkLawsBesides
set_option linter.unusedVariables false
set_option linter.unusedSimpArgs false
namespace Go.Proofs.Ytapfidpfjbacgaa.Hand
open Go Go.RowKit Go.Proofs.YtapfidpfjbacgaaW.PrintWords Go.Proofs.YtapfidpfjbacgaaW.PrintMore Go.Proofs.Ytapfidpfjbacgaa.RL Go.Proofs.Ytapfidpfjbacgaa.PL
/-- A pointer to no slicer. -/
def NoSl (w : World) (P : Value) : Prop := P = .pointer none ∨ ∃ g, P = .pointer (some ⟨g, 0, none⟩) ∧ w.cell? ⟨g, 14, none⟩ = some .nilIface
theorem isno (P : Value) (w : World) (h : NoSl w P) : Calls Try.prog 23 #[P] w fun e w' => e = .returned (.bool false) ∧ w' = w := by
  rcases h with rfl | ⟨g, rfl, hc⟩
  · go_enter Try.func23, Try.ntmps23
    go_wp2_with fail
    go_ret
    exact ⟨rfl, rfl⟩
  · go_enter Try.func23, Try.ntmps23
    go_wp2_with fail
    go_ret
    exact ⟨rfl, rfl⟩
theorem target_no (P : Value) (a b c : Int) (w : World) (h : NoSl w P) : Calls Try.prog 9 #[P, .int .i64 a, .int .i64 b, .int .i64 c] w fun e w' => e = .returned (.tuple #[.int .i64 0, .int .i64 1]) ∧ w' = w := by
  have HI := Lib.hid (isno P w h)
  clear h
  go_enter Try.func9, Try.ntmps9
  go_wp2_with (go_at_call 23; (with_reducible refine HI.out.mono ?_); rintro e wi ⟨rfl, rfl⟩)
  exact bodyPost_ret (v := .tuple #[.int .i64 0, .int .i64 1]) (by simp [results, Try.results9, go_sem]) rfl ⟨rfl, rfl⟩
theorem goal_no (P : Value) (a b c d : Int) (w : World) (h : NoSl w P) : Calls Try.prog 15 #[P, .int .i64 a, .int .i64 b, .int .i64 c, .int .i64 d] w fun e w' => e = .returned (.tuple #[.int .i64 0, .int .i64 1]) ∧ w' = w := by
  have HI := Lib.hid (target_no P a b c w h)
  clear h
  go_enter Try.func15, Try.ntmps15
  go_wp2_with (go_at_call 9; (with_reducible refine HI.out.mono ?_); rintro e wi ⟨rfl, rfl⟩)
  exact bodyPost_ret (v := .tuple #[.int .i64 0, .int .i64 1]) (by simp [results, Try.results15, go_sem]) rfl ⟨rfl, rfl⟩
theorem amend_no (P : Value) (a b c : Int) (w : World) (h : NoSl w P) : Calls Try.prog 12 #[P, .int .i64 a, .int .i64 b, .int .i64 c] w fun e w' => e = .returned (.int .i64 1) ∧ w' = w := by
  have HI := Lib.hid (isno P w h)
  clear h
  go_enter Try.func12, Try.ntmps12
  go_wp2_with (go_at_call 23; (with_reducible refine HI.out.mono ?_); rintro e wi ⟨rfl, rfl⟩)
  go_ret
  exact ⟨rfl, rfl⟩
theorem over_no (P : Value) (a : Int) (w : World) (h : NoSl w P) : Calls Try.prog 19 #[P, .int .i64 a] w fun e w' => e = .returned (.bool false) ∧ w' = w := by
  have HI := Lib.hid (isno P w h)
  clear h
  go_enter Try.func19, Try.ntmps19
  go_wp2_with (go_at_call 23; (with_reducible refine HI.out.mono ?_); rintro e wi ⟨rfl, rfl⟩)
  go_ret
  exact ⟨rfl, rfl⟩
abbrev ask0 : Value := .agg #[.int .i64 0, .string ⟨#[]⟩, .string ⟨#[]⟩, .string ⟨#[]⟩, .string ⟨#[]⟩, .int .i64 0, .int .i64 0, .int .i64 0, .int .i64 0, .int .i64 0, .int .i64 0, .int .i64 0, .int .i64 0, .slice none 0 0]
set_option maxHeartbeats 2000000 in
set_option maxRecDepth 100000 in
theorem ask_no (P : Value) (w : World) (h : NoSl w P) : Calls Try.prog 18 #[P] w fun e w' => e = .returned ask0 ∧ Below w.heap.size w w' := by
  have HI := Lib.hid (fun w' (hb : Below w.heap.size w w') => isno P w' (by rcases h with h | ⟨g, h, hc⟩; exact .inl h; exact .inr ⟨g, h, (hb.cell (World.block_lt_of_cell? w _ hc)).trans hc⟩))
  clear h
  go_enter Try.func18, Try.ntmps18
  go_wp2_with (go_at_call 23; (with_reducible refine (HI.out _ (by repeat (first | exact Below.refl _ _ | refine Below.alloc ?_ (by simp <;> omega) _))).mono ?_); rintro e wi ⟨rfl, rfl⟩)
  exact bodyPost_ret (v := ask0) (by simp [results, Try.results18, go_sem]) rfl ⟨rfl, (Below.refl _ _).alloc (Nat.le_refl _) _⟩
set_option maxHeartbeats 2000000 in
set_option maxRecDepth 100000 in
theorem plain0 (w : World) : Calls Try.prog 11 #[ask0] w fun e w' => e = .returned ask0 ∧ Below w.heap.size w w' := by
  go_enter Try.func11, Try.ntmps11
  go_wp2_with fail
  exact bodyPost_ret (v := ask0) (by simp [results, Try.results11, go_sem]) rfl ⟨rfl, ((Below.refl _ _).alloc (Nat.le_refl _) _).alloc (by simp) _⟩
set_option maxHeartbeats 2000000 in
set_option maxRecDepth 100000 in
theorem same03 (w : World) : Calls Try.prog 37 #[.slice none 0 0, .slice none 0 0] w fun e w' => e = .returned (.bool true) ∧ w' = w := by
  go_enter Try.func37, Try.ntmps37
  go_wp2_with fail

  go_loopw [5] (fun i wr => i = .int .i64 0 ∧ wr = w) (fun _ _ => 0)
  case atStart => exact ⟨rfl, rfl⟩
  case round =>
    obtain ⟨rfl, rfl⟩ := hrel
    go_wp2_with fail
    go_ret
    exact ⟨rfl, rfl⟩
set_option maxHeartbeats 8000000 in
set_option maxRecDepth 100000 in
theorem same0 (w : World) : Calls Try.prog 17 #[ask0, ask0] w fun e w' => e = .returned (.bool true) ∧ Below w.heap.size w w' := by
  go_enter Try.func17, Try.ntmps17
  go_wp2_with (go_at_call 37; (with_reducible refine (same03 _).mono ?_); rintro e wi ⟨rfl, rfl⟩)
  go_ret
  exact ⟨rfl, ((Below.refl _ _).alloc (Nat.le_refl _) _).alloc (by simp) _⟩
end Go.Proofs.Ytapfidpfjbacgaa.Hand
