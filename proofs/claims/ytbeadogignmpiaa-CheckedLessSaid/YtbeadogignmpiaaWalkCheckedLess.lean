/- CheckedLess: any two products of numbers of 64 bits are held against each other exactly; no condition. -/
import Derived.Test.YtbeadogignmpiaaPl
import Derived.Test.YtbeadogignmpiaaLx0
import Derived.Test.YtbeadogignmpiaaLx1
import Derived.Test.YtbeadogignmpiaaLx2
set_option linter.unusedVariables false
set_option linter.unusedSimpArgs false
namespace Go.Proofs.Ytbeadogignmpiaa.Walk
open Go Go.RowKit Go.Proofs.Ytbeadogignmpiaa.L Go.Proofs.Ytbeadogignmpiaa.PL Go.Proofs.Ytbeadogignmpiaa.Hand Go.Proofs.Ytbeadogignmpiaa.RL
namespace Less
theorem awake01 : spigotlaw01_awake.f = some true := by
  unfold spigotlaw01_awake.f
  rw [add_is _ _ (by decide) (by decide), down_is _ _ _ (by decide) (by decide) (by decide), up_is _ _ _ (by decide) (by decide) (by decide)]
  decide
theorem pure (a b c d : Int) (ha : in64 a) (hb : in64 b) (hc : in64 c) (hd : in64 d) : spigotlaw01_CheckedLess.f a b c d = some true := by
  have s1 : small (a * b) := small_le (in64_mul ha hb)
  have s2 : small (c * d) := small_le (in64_mul hc hd)
  unfold spigotlaw01_CheckedLess.f
  rw [awake01, Option.bind_some, if_pos rfl, of_is a ha, Option.bind_some, of_is b hb, Option.bind_some, rmul_is a b (small64 ha) (small64 hb), Option.bind_some,
    of_is c hc, Option.bind_some, of_is d hd, Option.bind_some, rmul_is c d (small64 hc) (small64 hd), Option.bind_some, less_is a b c d ha hb hc hd, Option.bind_some, below_is _ _ s1 s2, Option.bind_some]
  simp
end Less
theorem CheckedLess (a0_0 : Int) (a0_1 : Int) (a0_2 : Int) (a0_3 : Int) (W : World) (w0_0 : (Lit.int .i64 a0_0).wf = true) (w0_1 : (Lit.int .i64 a0_1).wf = true) (w0_2 : (Lit.int .i64 a0_2).wf = true) (w0_3 : (Lit.int .i64 a0_3).wf = true) :
    Calls Try.prog 10 #[.agg #[.int .i64 a0_0, .int .i64 a0_1, .int .i64 a0_2, .int .i64 a0_3]] W fun e W' => e = .returned (.bool true) ∧ Below W.heap.size W W' :=
  spigotlaw01_CheckedLess.calls a0_0 a0_1 a0_2 a0_3 true W (Less.pure _ _ _ _ (in64_wf w0_0) (in64_wf w0_1) (in64_wf w0_2) (in64_wf w0_3))
end Go.Proofs.Ytbeadogignmpiaa.Walk
