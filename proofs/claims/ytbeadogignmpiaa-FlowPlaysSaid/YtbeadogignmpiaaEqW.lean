/- '==' and '!=' of two arrays of two numbers. -/
import Derived.Test.YtbeadogignmpiaaProg
import Derived.Test.YtbeadogignmpiaaAid
set_option linter.unusedVariables false
set_option linter.unusedSimpArgs false
namespace Go.Proofs.Ytbeadogignmpiaa.Hand
open Go Go.RowKit Go.Proofs.YtbeadogignmpiaaW.PrintWords Go.Proofs.YtbeadogignmpiaaW.PrintMore
theorem equalIn_wide (d : Nat) (x0 x1 y0 y1 : Int) (w : World) :
    (Op.equalIn (d + 2) 67 (.agg #[.int .u64 x0, .int .u64 x1]) (.agg #[.int .u64 y0, .int .u64 y1])).run Try.prog w = .ok (x0 == y0 && x1 == y1) w := by
  unfold Op.equalIn
  simp [run_underlying Try.underlying67, go_sem]
  rw [show List.range' 0 2 = [0, 1] from rfl]
  have h0 : ∀ w, (Op.equalIn (d + 1) 65 (.int .u64 x0) (.int .u64 y0)).run Try.prog w = .ok (x0 == y0) w := fun w => by simp [Op.equalIn, run_underlying Try.underlying65]
  have h1 : ∀ w, (Op.equalIn (d + 1) 65 (.int .u64 x1) (.int .u64 y1)).run Try.prog w = .ok (x1 == y1) w := fun w => by simp [Op.equalIn, run_underlying Try.underlying65]
  have ha : ∀ w, (isAgg 65).run Try.prog w = .ok false w := fun w => by simp [go_sem]
  simp [ha, h0, h1]
  by_cases e0 : x0 = y0
  · rw [if_pos e0]
    by_cases e1 : x1 = y1
    · rw [if_pos e1]; simp [e0, e1]
    · rw [if_neg e1]; simp [e0, e1]
  · rw [if_neg e0]; simp [e0]
theorem neq_wide (x0 x1 y0 y1 : Int) (w : World) :
    (binOp .neq 67 (.agg #[.int .u64 x0, .int .u64 x1]) (.agg #[.int .u64 y0, .int .u64 y1])).run Try.prog w = .ok (.bool !(x0 == y0 && x1 == y1)) w := by
  simp only [binOp]
  simp [Op.equal, Op.maxDepth, equalIn_wide 9998 x0 x1 y0 y1 w]
end Go.Proofs.Ytbeadogignmpiaa.Hand
