/- checked.Less, walked: whether one product is below another one. -/
import Derived.Test.YtbeadogignmpiaaChk
import Derived.Test.YtbeadogignmpiaaEqW
set_option linter.unusedVariables false
set_option linter.unusedSimpArgs false
namespace Go.Proofs.Ytbeadogignmpiaa.Hand
open Go Go.RowKit Go.Proofs.YtbeadogignmpiaaW.PrintWords Go.Proofs.YtbeadogignmpiaaW.PrintMore

/-- Whether one product is below another one, out of their signs, whether they are something, and their halves. -/
def lessR (sx sy zp zq : Bool) (ph pl qh ql : Int) : Bool := if (sx && zp) = (sy && zq) then (if (sx && zp) = true then wless qh ql ph pl else wless ph pl qh ql) else (sx && zp)
set_option maxHeartbeats 8000000 in
theorem less_walk (a b c d ph pl qh ql : Int) (sx sy zp zq : Bool) (w : World)
    (hsa : ∀ w, Calls Try.prog 42 #[.int .i64 a] w fun e w' => e = .returned (.int .u64 (ab a)) ∧ Drawn0 w w')
    (hsb : ∀ w, Calls Try.prog 42 #[.int .i64 b] w fun e w' => e = .returned (.int .u64 (ab b)) ∧ Drawn0 w w')
    (hsc : ∀ w, Calls Try.prog 42 #[.int .i64 c] w fun e w' => e = .returned (.int .u64 (ab c)) ∧ Drawn0 w w')
    (hsd : ∀ w, Calls Try.prog 42 #[.int .i64 d] w fun e w' => e = .returned (.int .u64 (ab d)) ∧ Drawn0 w w')
    (ht1 : ∀ w, Calls Try.prog 41 #[.int .u64 (ab a), .int .u64 (ab b)] w fun e w' => e = .returned (.agg #[.int .u64 ph, .int .u64 pl]) ∧ Below w.heap.size w w')
    (ht2 : ∀ w, Calls Try.prog 41 #[.int .u64 (ab c), .int .u64 (ab d)] w fun e w' => e = .returned (.agg #[.int .u64 qh, .int .u64 ql]) ∧ Below w.heap.size w w')
    (hs1 : (!decide (a < 0) == decide (b < 0)) = sx) (hs2 : (!decide (c < 0) == decide (d < 0)) = sy)
    (hnp : ∀ w, (binOp .neq 67 (.agg #[.int .u64 ph, .int .u64 pl]) (.agg #[.int .u64 0, .int .u64 0])).run Try.prog w = .ok (.bool zp) w)
    (hnq : ∀ w, (binOp .neq 67 (.agg #[.int .u64 qh, .int .u64 ql]) (.agg #[.int .u64 0, .int .u64 0])).run Try.prog w = .ok (.bool zq) w) :
    Calls Try.prog 32 #[.int .i64 a, .int .i64 b, .int .i64 c, .int .i64 d] w fun e w' => e = .returned (.bool (lessR sx sy zp zq ph pl qh ql)) ∧ Below w.heap.size w w' := by
  have Hsa := Lib.hid hsa; have Hsb := Lib.hid hsb; have Hsc := Lib.hid hsc; have Hsd := Lib.hid hsd; have Ht1 := Lib.hid ht1; have Ht2 := Lib.hid ht2
  clear hsa hsb hsc hsd ht1 ht2
  cases sx <;> cases sy <;> cases zp <;> cases zq
  all_goals
    go_enter Try.func32, Try.ntmps32
    go_wp2_with fail
    refine (Hsa.out _).mono ?_; rintro e w1 ⟨rfl, hd1⟩
    go_wp2_with fail
    refine (Hsb.out _).mono ?_; rintro e w2 ⟨rfl, hd2⟩
    go_wp2_with fail
    refine (Ht1.out _).mono ?_; rintro e w3 ⟨rfl, hb3⟩
    go_wp2_with fail
    refine (Hsc.out _).mono ?_; rintro e w4 ⟨rfl, hd4⟩
    go_wp2_with fail
    refine (Hsd.out _).mono ?_; rintro e w5 ⟨rfl, hd5⟩
    go_wp2_with fail
    refine (Ht2.out _).mono ?_; rintro e w6 ⟨rfl, hb6⟩
    go_wp2_with fail
    go_quiet (fail)
    go_wp2_with fail
    have B6 : Below w.heap.size w w6 := bt (bt (bt (bt (bt hd1.below hd2.below) hb3) hd4.below) hd5.below) hb6
    have B7 := bt B6 (pw_below_drewN (((Below.refl w6.heap.size w6).alloc (Nat.le_refl _) (.cells #[.int .u64 ph, .int .u64 pl] 67)).alloc (by simp) (.cells #[.int .u64 qh, .int .u64 ql] 67)) nq)
    first
      | (go_ret; exact ⟨rfl, B7⟩)
      | ((with_reducible refine (less_calls _ _ _ _ _).mono ?_); rintro e w8 ⟨rfl, hb8⟩; go_wp2_with fail; go_ret; exact ⟨rfl, bt B7 hb8⟩)
end Go.Proofs.Ytbeadogignmpiaa.Hand
