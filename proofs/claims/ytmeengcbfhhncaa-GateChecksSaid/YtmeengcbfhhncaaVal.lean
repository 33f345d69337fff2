/- The document's names: Valid walked. -/
import Derived.Test.YtmeengcbfhhncaaPl
import Derived.Test.YtmeengcbfhhncaaBlk
import Derived.Test.YtmeengcbfhhncaaHandE
import Derived.Laws.MakeOwn
import Derived.Laws.OwnMore
import Derived.LoopTactic
import Derived.BigRegion
import Derived.Outline
set_option linter.unusedVariables false
set_option linter.unusedSimpArgs false
namespace Go.Proofs.Ytmeengcbfhhncaa.Hand
open Go Go.RowKit Go.Proofs.YtmeengcbfhhncaaW.PrintWords Go.Proofs.YtmeengcbfhhncaaW.PrintMore Go.Proofs.Ytmeengcbfhhncaa.RL Go.Proofs.Ytmeengcbfhhncaa.PL
theorem runes_at (s : ByteArray) : ∀ (m i : Nat) (acc : Array Value), (∀ (j : Nat) (h : j < acc.size), ∃ c : Int, acc[j] = .int .i32 c) → ∀ (j : Nat) (h : j < (Conv.runesFrom s m i acc).size), ∃ c : Int, (Conv.runesFrom s m i acc)[j] = .int .i32 c
  | 0, i, acc, ha, j, h => by simp only [Conv.runesFrom] at h ⊢; exact ha j h
  | m + 1, i, acc, ha, j, h => by
    unfold Conv.runesFrom at h
    simp only [Conv.runesFrom]
    split at h
    · rename_i hc
      simp only [hc, if_true]
      refine runes_at s m _ _ ?_ j h
      intro k hk
      rw [Array.getElem_push]
      split
      · exact ha k _
      · exact ⟨_, rfl⟩
    · rename_i hc
      simp only [hc, if_false]
      exact ha j h
/-- A yes or no, and what was there is left. -/
def AnyB (w : World) (e : Ending) (w' : World) : Prop := ∃ b : Bool, e = .returned (.bool b) ∧ Below w.heap.size w w'
theorem AnyB.mk {w w' : World} (b : Bool) (h : Below w.heap.size w w') : AnyB w (.returned (.bool b)) w' := ⟨b, rfl, h⟩
set_option maxHeartbeats 2000000 in
set_option maxRecDepth 100000 in
theorem valid_walk (s : ByteArray) (hs : s.size ≤ 1000) (w : World) :
    Calls Try.prog 42 #[.string s] w (AnyB w) := by
  have hz := size_runesFrom s s.size 0 #[]
  have hat := runes_at s s.size 0 #[] (fun j h => absurd h (Nat.not_lt_zero _))
  have hconv := run_runes_of_string (P := Try.prog) w 9 93 21 s Try.underlying9 Try.underlying93 Try.underlying21 (by simp at hz; omega)
  generalize Conv.runesFrom s s.size 0 #[] = R at *
  have hat2 : ∀ j, j < R.size → ∃ c : Int, R[j]? = some (.int .i32 c) := fun j h => by obtain ⟨c, e⟩ := hat j h; exact ⟨c, by rw [Array.getElem?_eq_getElem h, e]⟩
  clear hat
  simp at hz
  generalize hn : R.size = n at *
  have hn' : n < 1 ∨ 20 < n ∨ (1 ≤ n ∧ n ≤ 20) := by omega
  generalize hcap : grownCap w n 0 21 = cap at *
  obtain ⟨cs, hcs⟩ : ∃ cs : Array Value, cs = R ++ Array.replicate (cap - n) (.int .i32 0) := ⟨_, rfl⟩
  have hB := Blk.new w.drew 21 cs
  have hb0 : Below w.heap.size w (w.drew.alloc (.cells cs 21)) := (below_drew1 (Below.refl _ _)).alloc (Nat.le_refl _) _
  rw [← hcs] at hconv
  have hc : ∀ j : Nat, j < n → ∃ c : Int, cs[j]? = some (.int .i32 c) := by
    intro j hj
    obtain ⟨c, h⟩ := hat2 j hj
    exact ⟨c, by rw [hcs, Array.getElem?_append_left (by omega), h]⟩
  clear hcs hat2 hn hcap
  generalize w.drew.alloc (.cells cs 21) = w1 at *
  rcases hn' with h | h | ⟨h, h2⟩
  · go_enter Try.func42, Try.ntmps42
    go_wp2_with fail
    go_ret
    exact AnyB.mk _ hb0
  · go_enter Try.func42, Try.ntmps42
    go_wp2_with fail
    go_ret
    exact AnyB.mk _ hb0
  · go_enter Try.func42, Try.ntmps42
    go_wp2_with fail
    go_loopw [4] (fun v wr => ∃ j : Nat, j ≤ n ∧ v = .int .i64 j ∧ wr = w1) (fun v _ => n - (intOf v).toNat)
    case atStart => exact ⟨0, Nat.zero_le _, rfl, rfl⟩
    case round =>
      obtain ⟨j, hj, rfl, rfl⟩ := hrel
      by_cases hlt : j < n
      · obtain ⟨c, hcj⟩ := hc j hlt
        have x0 : wr.cell? ⟨w.heap.size, j, none⟩ = some (.int .i32 c) := (hB.cell j).trans hcj
        by_cases g1 : c < 33
        · go_wp2_with fail
          go_ret
          exact AnyB.mk _ hb0
        · by_cases g2 : c = 127
          · go_wp2_with fail
            go_ret
            exact AnyB.mk _ hb0
          · by_cases g3 : c = 61
            · go_wp2_with fail
              go_ret
              exact AnyB.mk _ hb0
            · by_cases g4 : c = 65533
              · go_wp2_with fail
                go_ret
                exact AnyB.mk _ hb0
              · go_wp2_with fail
                all_goals first
                  | exact ⟨⟨j + 1, by omega, by go_num, trivial⟩, by simp only [intOf]; omega⟩
                  | (go_ret; exact AnyB.mk _ hb0)
      · go_wp2_with fail
        go_ret
        exact AnyB.mk _ hb0
end Go.Proofs.Ytmeengcbfhhncaa.Hand
