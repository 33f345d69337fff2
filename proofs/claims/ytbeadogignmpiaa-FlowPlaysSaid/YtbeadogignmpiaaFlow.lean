/- flow: a tape, printed on and asked for its totals; walked. -/
import Derived.Test.YtbeadogignmpiaaBlk
import Derived.Test.YtbeadogignmpiaaChk
import Derived.LoopTactic
import Derived.Outline
set_option linter.unusedVariables false
set_option linter.unusedSimpArgs false
namespace Go.Proofs.Ytbeadogignmpiaa.Hand
open Go Go.RowKit Go.Proofs.YtbeadogignmpiaaW.PrintWords Go.Proofs.YtbeadogignmpiaaW.PrintMore
theorem between_yes (n l h : Int) (h1 : l ≤ n) (h2 : n ≤ h) (w : World) : Calls Try.prog 46 #[.int .i64 n, .int .i64 l, .int .i64 h] w fun e w' => e = .returned (.bool true) ∧ w = w' := by
  go_enter Try.func46, Try.ntmps46
  go_wp2
  go_ret
  exact ⟨rfl, rfl⟩
theorem between_no1 (n l h : Int) (h1 : n < l) (w : World) : Calls Try.prog 46 #[.int .i64 n, .int .i64 l, .int .i64 h] w fun e w' => e = .returned (.bool false) ∧ w = w' := by
  go_enter Try.func46, Try.ntmps46
  go_wp2
  go_ret
  exact ⟨rfl, rfl⟩
theorem between_no2 (n l h : Int) (h1 : l ≤ n) (h2 : h < n) (w : World) : Calls Try.prog 46 #[.int .i64 n, .int .i64 l, .int .i64 h] w fun e w' => e = .returned (.bool false) ∧ w = w' := by
  go_enter Try.func46, Try.ntmps46
  go_wp2
  go_ret
  exact ⟨show Ending.returned (.bool (decide (n ≤ h))) = _ by rw [decide_eq_false (by omega)], rfl⟩
theorem rin_yes (n l h : Int) (h1 : l ≤ n) (h2 : n ≤ h) (w : World) : Calls Try.prog 47 #[.int .i64 n, .int .i64 l, .int .i64 h] w fun e w' => e = .returned (.bool true) ∧ w = w' := by
  go_enter Try.func47, Try.ntmps47
  go_wp2
  go_ret
  exact ⟨rfl, rfl⟩
theorem rin_no1 (n l h : Int) (h1 : n < l) (w : World) : Calls Try.prog 47 #[.int .i64 n, .int .i64 l, .int .i64 h] w fun e w' => e = .returned (.bool false) ∧ w = w' := by
  go_enter Try.func47, Try.ntmps47
  go_wp2
  go_ret
  exact ⟨rfl, rfl⟩
theorem rin_no2 (n l h : Int) (h1 : l ≤ n) (h2 : h < n) (w : World) : Calls Try.prog 47 #[.int .i64 n, .int .i64 l, .int .i64 h] w fun e w' => e = .returned (.bool false) ∧ w = w' := by
  go_enter Try.func47, Try.ntmps47
  go_wp2
  go_ret
  exact ⟨show Ending.returned (.bool (decide (n ≤ h))) = _ by rw [decide_eq_false (by omega)], rfl⟩
theorem print_none (s q : Int) (w : World) : Calls Try.prog 34 #[.pointer none, .int .i64 s, .int .i64 q] w fun e w' => e = .returned (.int .i64 1) ∧ w = w' := by
  go_enter Try.func34, Try.ntmps34
  go_wp2
  go_ret
  exact ⟨rfl, rfl⟩
theorem print_empty (b : Nat) (s q : Int) (w : World) (hc : w.cell? ⟨b, 0, none⟩ = some (.slice none 0 0)) : Calls Try.prog 34 #[.pointer (some ⟨b, 0, none⟩), .int .i64 s, .int .i64 q] w fun e w' => e = .returned (.int .i64 1) ∧ w = w' := by
  go_enter Try.func34, Try.ntmps34
  go_wp2
  go_ret
  exact ⟨rfl, rfl⟩
theorem total_none (s : Int) (w : World) : Calls Try.prog 35 #[.pointer none, .int .i64 s] w fun e w' => e = .returned (.int .i64 0) ∧ w = w' := by
  go_enter Try.func35, Try.ntmps35
  go_wp2
  go_ret
  exact ⟨rfl, rfl⟩
/-- Outside: nothing was traded. -/
theorem total_out (b n : Nat) (A : Option Addr) (c : Nat) (s : Int) (hs : s < 0 ∨ (n : Int) ≤ s) (hn : n ≤ 1000) (w : World) (hc : w.cell? ⟨b, 0, none⟩ = some (.slice A n c)) : Calls Try.prog 35 #[.pointer (some ⟨b, 0, none⟩), .int .i64 s] w fun e w' => e = .returned (.int .i64 0) ∧ w = w' := by
  have hb : ∀ w, Calls Try.prog 46 #[.int .i64 s, .int .i64 0, .int .i64 ((n : Int) - 1)] w fun e w' => e = .returned (.bool false) ∧ w = w' := by
    intro w
    by_cases h0 : s < 0
    · exact between_no1 s 0 _ h0 w
    · exact between_no2 s 0 _ (by omega) (by omega) w
  have Hb := Lib.hid hb
  clear hb
  go_enter Try.func35, Try.ntmps35
  go_wp2_with (go_at_call 46; refine (Hb.out _).mono ?_; rintro e w' ⟨rfl, rfl⟩)
  go_ret
  exact ⟨rfl, rfl⟩
theorem total_in (b g n c : Nat) (T : List Int) (s : Nat) (hs : s < n) (hn : n ≤ 1000) (w : World) (hc : w.cell? ⟨b, 0, none⟩ = some (.slice (some ⟨g, 0, none⟩) n c)) (x : Int) (hx : w.cell? ⟨g, s, none⟩ = some (.int .i64 x)) : Calls Try.prog 35 #[.pointer (some ⟨b, 0, none⟩), .int .i64 s] w fun e w' => e = .returned (.int .i64 x) ∧ w = w' := by
  have hb : ∀ w, Calls Try.prog 46 #[.int .i64 s, .int .i64 0, .int .i64 ((n : Int) - 1)] w fun e w' => e = .returned (.bool true) ∧ w = w' := by
    intro w
    exact between_yes s 0 _ (by omega) (by omega) w
  have Hb := Lib.hid hb
  clear hb
  go_enter Try.func35, Try.ntmps35
  go_wp2_with (go_at_call 46; refine (Hb.out _).mono ?_; rintro e w' ⟨rfl, rfl⟩)
  go_ret
  exact ⟨rfl, rfl⟩
end Go.Proofs.Ytbeadogignmpiaa.Hand
