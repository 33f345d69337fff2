/- What a quantity is worth: grain.Worth, walked. -/
import Derived.Test.YtenlifjfehnldaaBlk
import Derived.Test.YtenlifjfehnldaaHandE
import Derived.Test.YtenlifjfehnldaaPl
set_option linter.unusedVariables false
set_option linter.unusedSimpArgs false
namespace Go.Proofs.Ytenlifjfehnldaa.Hand
open Go Go.RowKit Go.Proofs.YtenlifjfehnldaaW.PrintWords Go.Proofs.YtenlifjfehnldaaW.PrintMore Go.Proofs.Ytenlifjfehnldaa.RL Go.Proofs.Ytenlifjfehnldaa.PL
theorem gw_yes (n a b : Int) (h : a ≤ n) (h2 : n ≤ b) (w : World) : Calls Try.prog 29 #[.int .i64 n, .int .i64 a, .int .i64 b] w fun e w' => e = .returned (.bool true) ∧ w = w' := by
  go_enter Try.func29, Try.ntmps29
  go_wp2
  go_ret
  exact ⟨rfl, rfl⟩
set_option maxHeartbeats 1000000 in
theorem worth_in (q pr : Int) (hq : 0 ≤ q ∧ q ≤ 1099511627776) (hp : 0 ≤ pr ∧ pr ≤ 1099511627776) (w : World) :
    Calls Try.prog 14 #[.int .i64 q, .int .i64 pr] w fun e w' => e = .returned (.tuple #[.int .i64 (tell (q * pr)).1, .int .i64 (tell (q * pr)).2]) ∧ Below w.heap.size w w' := by
  have h1 := fun w => gw_yes q 0 1099511627776 hq.1 hq.2 w
  have h2 := fun w => gw_yes pr 0 1099511627776 hp.1 hp.2 w
  have h3 := fun w => checked_Mul.calls q pr (tell (q * pr)).1 (tell (q * pr)).2 w (mul_is q pr (by unfold in64; omega) (by unfold in64; omega))
  have H1 := Lib.hid h1
  have H2 := Lib.hid h2
  have H3 := Lib.hid h3
  clear h1 h2 h3 hq hp
  generalize (tell (q * pr)).1 = x at *
  generalize (tell (q * pr)).2 = y at *
  go_enter Try.func14, Try.ntmps14
  go_wp2_with (first
    | (go_at_call 29; first | ((with_reducible refine (H1.out _).mono ?_); rintro e w' ⟨rfl, rfl⟩) | ((with_reducible refine (H2.out _).mono ?_); rintro e w' ⟨rfl, rfl⟩))
    | (go_at_call 30; refine (H3.out _).mono ?_; rintro e w' ⟨rfl, hb⟩))
  go_ret2
  exact ⟨rfl, hb⟩
end Go.Proofs.Ytenlifjfehnldaa.Hand
