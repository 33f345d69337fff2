/- curve.Done, as a plain function; curve.Spread, walked. -/
import Derived.Test.YtbkoahipcjknfaaCurveD
import Derived.Maps.AppendAt
import Derived.Test.YtbkoahipcjknfaaHandC
set_option linter.unusedVariables false
set_option linter.unusedSimpArgs false
namespace Go.Proofs.Ytbkoahipcjknfaa.Hand
open Go Go.RowKit Go.Shelf Go.Proofs.YtbkoahipcjknfaaW.PrintWords Go.Proofs.YtbkoahipcjknfaaW.PrintMore Go.Proofs.Ytbkoahipcjknfaa.RL
attribute [local go_sem] Oper.semAt_some
set_option maxHeartbeats 2000000 in
set_option maxRecDepth 100000 in
theorem done_no (A : Option Addr) (n cap : Nat) (t s : Int) (w : World)
    (hck : ∀ w', Below w.heap.size w w' → Calls Try.prog 18 #[.slice A n cap] w' fun e w'' => e = .returned (.int .i64 30) ∧ Drawn0 w' w'') :
    Calls Try.prog 20 #[.slice A n cap, .int .i64 t, .int .i64 s] w fun e W' => e = .returned (.tuple #[.int .i64 0, .int .i64 0, .int .i64 30]) ∧ Below w.heap.size w W' := by
  have hB0 : Below w.heap.size w (((w.alloc (.cells #[.int .i64 t] 3)).alloc (.cells #[.int .i64 s] 3)).alloc (.cells #[.int .i64 0] 3)) := (((Below.refl _ w).alloc (Nat.le_refl _) _).alloc (by simp) _).alloc (by simp; omega) _
  have l2 : w.heap.size + 1 + 1 < (((w.alloc (.cells #[.int .i64 t] 3)).alloc (.cells #[.int .i64 s] 3)).alloc (.cells #[.int .i64 0] 3)).heap.size := by simp
  have bN0 := Boxed.new ((w.alloc (.cells #[.int .i64 t] 3)).alloc (.cells #[.int .i64 s] 3)) 3 (.int .i64 0)
  simp only [World.size_alloc] at bN0
  have Hck := Lib.hid hck
  have HB0 := Lib.hid hB0
  have HN0 := Lib.hid bN0
  clear hck hB0 bN0
  go_enter Try.func20, Try.ntmps20
  go_wp2_with fail
  go_step3
  go_wp2_with (go_at_call 18; refine (Hck.out _ HB0.out).mono ?_; rintro e w1 ⟨rfl, hd⟩; have hb1 := hd.below; have cM := (boxed_below HN0.out hb1 l2).cell; have fM := (boxed_below HN0.out hb1 l2).frozen)
  try rw [Exit.noGoto_ret]
  exact bodyPost_ret (v := _) (by simp [results, Try.results20, go_sem, cM]) rfl ⟨rfl, (bt HB0.out hb1).setCell (by show w.heap.size ≤ w.heap.size + 1 + 1; omega) _⟩
set_option maxHeartbeats 4000000 in
set_option maxRecDepth 100000 in
theorem done_arg (A : Option Addr) (n cap : Nat) (t s : Int) (hn : n ≤ 64) (ht : -9223372036854775808 ≤ t ∧ t ≤ 9223372036854775807) (hs : -9223372036854775808 ≤ s ∧ s ≤ 9223372036854775807) (hb : s < 1 ∨ 1073741824 < s ∨ t < 0 ∨ s < t) (w : World)
    (hck : ∀ w', Below w.heap.size w w' → Calls Try.prog 18 #[.slice A n cap] w' fun e w'' => e = .returned (.int .i64 0) ∧ Drawn0 w' w'') :
    Calls Try.prog 20 #[.slice A n cap, .int .i64 t, .int .i64 s] w fun e W' => e = .returned (.tuple #[.int .i64 0, .int .i64 0, .int .i64 2]) ∧ Below w.heap.size w W' := by
  have hB0 : Below w.heap.size w (((w.alloc (.cells #[.int .i64 t] 3)).alloc (.cells #[.int .i64 s] 3)).alloc (.cells #[.int .i64 0] 3)) := (((Below.refl _ w).alloc (Nat.le_refl _) _).alloc (by simp) _).alloc (by simp; omega) _
  have l0 : w.heap.size < (((w.alloc (.cells #[.int .i64 t] 3)).alloc (.cells #[.int .i64 s] 3)).alloc (.cells #[.int .i64 0] 3)).heap.size := by simp; omega
  have l1 : w.heap.size + 1 < (((w.alloc (.cells #[.int .i64 t] 3)).alloc (.cells #[.int .i64 s] 3)).alloc (.cells #[.int .i64 0] 3)).heap.size := by simp
  have l2 : w.heap.size + 1 + 1 < (((w.alloc (.cells #[.int .i64 t] 3)).alloc (.cells #[.int .i64 s] 3)).alloc (.cells #[.int .i64 0] 3)).heap.size := by simp
  have bT0 := ((Boxed.new w 3 (.int .i64 t)).alloc (.cells #[.int .i64 s] 3)).alloc (.cells #[.int .i64 0] 3)
  have bS0 := (Boxed.new (w.alloc (.cells #[.int .i64 t] 3)) 3 (.int .i64 s)).alloc (.cells #[.int .i64 0] 3)
  have bN0 := Boxed.new ((w.alloc (.cells #[.int .i64 t] 3)).alloc (.cells #[.int .i64 s] 3)) 3 (.int .i64 0)
  simp only [World.size_alloc] at bS0 bN0
  have Hck := Lib.hid hck
  have HB0 := Lib.hid hB0
  have HN0 := Lib.hid bN0
  have HT0 := Lib.hid bT0
  have HS0 := Lib.hid bS0
  clear hck hB0 bN0 bT0 bS0
  have hb' : s < 1 ∨ (1 ≤ s ∧ 1073741824 < s) ∨ (1 ≤ s ∧ s ≤ 1073741824 ∧ t < 0) ∨ (1 ≤ s ∧ s ≤ 1073741824 ∧ 0 ≤ t ∧ s < t) := by omega
  clear hb
  rcases hb' with h | ⟨h1, h2⟩ | ⟨h1, h2, h3⟩ | ⟨h1, h2, h3, h4⟩
  all_goals
    go_enter Try.func20, Try.ntmps20
    go_wp2_with fail
    go_step3
    go_wp2_with (go_at_call 18; refine (Hck.out _ HB0.out).mono ?_; rintro e w1 ⟨rfl, hd⟩; have hb1 := hd.below; have cM := (boxed_below HN0.out hb1 l2).cell; have fM := (boxed_below HN0.out hb1 l2).frozen; have cT := (boxed_below HT0.out hb1 l0).cell; have cS := (boxed_below HS0.out hb1 l1).cell)
    try rw [Exit.noGoto_ret]
    exact bodyPost_ret (v := _) (by simp [results, Try.results20, go_sem, cM]) rfl ⟨rfl, (bt HB0.out hb1).setCell (by show w.heap.size ≤ w.heap.size + 1 + 1; omega) _⟩
/-- What is done of a curve at a time; or that there is none, or no such time. -/
def doneW (l : List Int) (t s : Int) : Int × Int × Int := if rightW l = true then (if 1 ≤ s ∧ s ≤ 1073741824 ∧ 0 ≤ t ∧ t ≤ s then (doneN l t s, s, 0) else (0, 0, 2)) else (0, 0, 30)
def curve_Done.f (l0 : List Int) (a1 a2 : Int) : Option (Int × Int × Int) := if in64 a1 ∧ in64 a2 then some (doneW l0 a1 a2) else none
theorem curve_Done.calls (A0 : Option Addr) (c0 : Nat) (l0 : List Int) (a1 a2 : Int) (r1 r2 r3 : Int) (w : World) (hr0 : Kd.C (Kd.int .i64) w A0 l0.length l0) (hc0 : l0.length ≤ c0) (h : curve_Done.f l0 a1 a2 = some (r1, r2, r3)) :
    Calls Try.prog 20 #[.slice A0 l0.length c0, .int .i64 a1, .int .i64 a2] w fun e w' => e = .returned (.tuple #[.int .i64 r1, .int .i64 r2, .int .i64 r3]) ∧ Below w.heap.size w w' := by
  unfold curve_Done.f at h
  by_cases ci : in64 a1 ∧ in64 a2
  · rw [if_pos ci] at h
    have h := Option.some.inj h
    unfold doneW at h
    by_cases c : rightW l0 = true
    · rw [if_pos c] at h
      obtain ⟨hz, hne⟩ := right_okZ c
      have hck : ∀ w', Below w.heap.size w w' → Calls Try.prog 18 #[.slice A0 l0.length c0] w' fun e w'' => e = .returned (.int .i64 0) ∧ Drawn0 w' w'' := fun w' hw => curve_Check.calls _ c0 l0 0 w' (Kd.C_below hr0 hw) hc0 (by unfold curve_Check.f; rw [if_pos c])
      by_cases d : 1 ≤ a2 ∧ a2 ≤ 1073741824 ∧ 0 ≤ a1 ∧ a1 ≤ a2
      · rw [if_pos d] at h
        cases h
        obtain ⟨ad, rfl, hcell⟩ := row_cells hr0 hne
        exact done_ok ad c0 l0 hz hne a1 a2 d.1 d.2.1 d.2.2.1 d.2.2.2 w hcell hck
      · rw [if_neg d] at h
        cases h
        exact done_arg A0 _ c0 a1 a2 hz.1 ci.1 ci.2 (by omega) w hck
    · rw [if_neg c] at h
      cases h
      exact done_no A0 _ c0 a1 a2 w fun w' hw => curve_Check.calls _ c0 l0 30 w' (Kd.C_below hr0 hw) hc0 (by unfold curve_Check.f; rw [if_neg c])
  · rw [if_neg ci] at h; exact absurd h (by simp)
end Go.Proofs.Ytbkoahipcjknfaa.Hand
