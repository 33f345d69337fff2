/- router: what holds one offer against another, and a sort of fewer than twenty offers; walked. -/
import Derived.Test.YtadjadakncidgaaStab
import Derived.Test.YtadjadakncidgaaUx0
import Derived.Test.YtadjadakncidgaaShelf
import Derived.Test.YtadjadakncidgaaBlk
import Derived.Shelf.SlSortCmp.KitK
import Derived.Laws.CopyRow
set_option linter.unusedVariables false
set_option linter.unusedSimpArgs false
namespace Go.Proofs.Ytadjadakncidgaa.Hand
open Go Go.RowKit Go.Lib Go.Sort Go.Shelf Go.Proofs.YtadjadakncidgaaW.PrintWords Go.Proofs.YtadjadakncidgaaW.PrintMore Go.Proofs.Ytadjadakncidgaa.St
/-- An offer: its place, its lot, its fee, what is shown, whether it is healthy. -/
abbrev Off := U.S35
instance : Inhabited Off := ⟨U.z35⟩
def encO (x : Off) : List Value := [.int .i64 x.f0, .int .i64 x.f1, .int .i64 x.f2, .int .i64 x.f3, .bool x.f4]
theorem encO_len (x : Off) : (encO x).length = 5 := rfl
theorem encO_one (x : Off) : ∀ v ∈ encO x, v.oneCell' = true := by
  intro v hv
  simp [encO] at hv
  rcases hv with rfl | rfl | rfl | rfl | rfl <;> rfl
def lessI (a b : Int) : Int := if a < b then -1 else if b < a then 1 else 0
def cfO (x y : Off) : Int := if lessI x.f2 y.f2 = 0 then (if lessI y.f3 x.f3 = 0 then lessI x.f0 y.f0 else lessI y.f3 x.f3) else lessI x.f2 y.f2
/-- Does one offer stand ahead of another? -/
def ahd (x y : Off) : Bool := ltOf cfO x y
theorem less_is (a b : Int) (w : World) : Calls Try.prog 25 #[.int .i64 a, .int .i64 b] w fun e w' => e = .returned (.int .i64 (lessI a b)) ∧ w = w' := by
  unfold lessI
  by_cases h1 : a < b
  · rw [if_pos h1]
    go_enter Try.func25, Try.ntmps25
    go_wp2
    go_ret
    exact ⟨rfl, rfl⟩
  · rw [if_neg h1]
    by_cases h2 : b < a
    · rw [if_pos h2]
      go_enter Try.func25, Try.ntmps25
      go_wp2
      go_ret
      exact ⟨rfl, rfl⟩
    · rw [if_neg h2]
      go_enter Try.func25, Try.ntmps25
      go_wp2
      go_ret
      exact ⟨rfl, rfl⟩
set_option maxHeartbeats 1000000 in
theorem rank_cmp (x y : Off) (W : World) : Calls Try.prog 24 #[.agg (encO x).toArray, .agg (encO y).toArray] W fun e w' => e = .returned (.int .i64 (cfO x y)) ∧ ∃ q os', w' = grow (W.drewN q) os' := by
  obtain ⟨x1, x2, x3, x4, x5⟩ := x
  obtain ⟨y1, y2, y3, y4, y5⟩ := y
  have h1 := fun w => less_is x3 y3 w
  have h2 := fun w => less_is y4 x4 w
  have h3 := fun w => less_is x1 y1 w
  show Calls Try.prog 24 #[.agg #[.int .i64 x1, .int .i64 x2, .int .i64 x3, .int .i64 x4, .bool x5], .agg #[.int .i64 y1, .int .i64 y2, .int .i64 y3, .int .i64 y4, .bool y5]] W _
  unfold cfO
  simp only
  generalize lessI x3 y3 = c1 at *
  generalize lessI y4 x4 = c2 at *
  generalize lessI x1 y1 = c3 at *
  have H1 := Lib.hid h1; have H2 := Lib.hid h2; have H3 := Lib.hid h3
  clear h1 h2 h3
  have gw : ∀ o1 o2 : Obj, ∃ q os', (W.alloc o1).alloc o2 = grow (W.drewN q) os' := fun o1 o2 => ⟨0, _, by rw [alloc_eq_grow, alloc_eq_grow, grow_grow]; rfl⟩
  have Gw := Lib.hid gw
  clear gw
  by_cases z1 : c1 = 0
  · subst z1
    rw [if_pos rfl]
    by_cases z2 : c2 = 0
    · subst z2
      rw [if_pos rfl]
      go_enter Try.func24, Try.ntmps24
      go_wp2_with fail
      refine (H1.out _).mono ?_; rintro e w' ⟨rfl, rfl⟩
      go_wp2_with fail
      refine (H2.out _).mono ?_; rintro e w' ⟨rfl, rfl⟩
      go_wp2_with fail
      refine (H3.out _).mono ?_; rintro e w' ⟨rfl, rfl⟩
      go_wp2_with fail
      go_ret
      exact ⟨rfl, Gw.out _ _⟩
    · rw [if_neg z2]
      have z2' : (c2 == 0) = false := by simpa using z2
      go_enter Try.func24, Try.ntmps24
      go_wp2_with fail
      refine (H1.out _).mono ?_; rintro e w' ⟨rfl, rfl⟩
      go_wp2_with fail
      refine (H2.out _).mono ?_; rintro e w' ⟨rfl, rfl⟩
      go_wp2_with fail
      go_ret
      exact ⟨rfl, Gw.out _ _⟩
  · rw [if_neg z1]
    have z1' : (c1 == 0) = false := by simpa using z1
    go_enter Try.func24, Try.ntmps24
    go_wp2_with fail
    refine (H1.out _).mono ?_; rintro e w' ⟨rfl, rfl⟩
    go_wp2_with fail
    go_ret
    exact ⟨rfl, Gw.out _ _⟩
theorem cmp_lays (blk off size : Nat) (w : World) : CmpLays Try.prog 24 #[] encO 5 cfO blk off size w := fun _ _ _ _ x y => rank_cmp x y _
theorem ins_calls (blk off cap n a b : Nat) (d : List Off) (hn : d.length = n) (w : World) (hH : HoldsK encO 5 w blk off d.toArray) (hblk : blk < w.heap.size) (hab : a ≤ b) (hb : b ≤ n) (hsz : n < 4611686018427387904) :
    Calls Try.prog 46 #[.slice (some ⟨blk, off, none⟩) n cap, .int .i64 a, .int .i64 b, .func (.func 24) #[] #[]] w fun e w' => e = .returned (.tuple #[]) ∧ ∃ m os, w' = sortWorldK encO 5 w blk off m (insertionSort ahd d.toArray a b) os := by
  have eg : ∀ args w, (callFunc 24 args).run Try.prog w = .ok (.enter 24 args) w := enters_of Try.func24 (by kernel_rfl) rfl
  have h := AnyQ.insertionSortCmpFunc Try.sortCells 5 Try.isAgg35 Try.sizeOf35 encO encO_len encO_one cfO 24 #[] blk off cap a b d.toArray w eg (cmp_lays blk off _ w) hH hblk hab (by simpa [hn] using hb) (by simpa [hn] using hsz)
  change Calls Try.prog 46 _ _ _ at h
  rw [List.size_toArray, hn] at h
  exact h
theorem ins_all (blk off cap n : Nat) (d : List Off) (hn : d.length = n) (w : World) (hH : HoldsK encO 5 w blk off d.toArray) (hblk : blk < w.heap.size) (hsz : n < 4611686018427387904) :
    Calls Try.prog 46 #[.slice (some ⟨blk, off, none⟩) n cap, .int .i64 0, .int .i64 n, .func (.func 24) #[] #[]] w fun e w' => e = .returned (.tuple #[]) ∧ SWK encO 5 w blk off (isortB ahd d).toArray w' := by
  refine (ins_calls blk off cap n 0 n d hn w hH hblk (Nat.zero_le _) (Nat.le_refl _) hsz).mono ?_
  rintro e w' ⟨rfl, m, os, rfl⟩
  have e := insertion_is ahd [] d []
  simp only [List.nil_append, List.append_nil, List.length_nil, Nat.zero_add] at e
  rw [hn] at e
  rw [e]
  exact ⟨rfl, m, os, rfl⟩
set_option maxHeartbeats 1000000 in
theorem stable_few (blk off cap n : Nat) (d : List Off) (hn : d.length = n) (h20 : n < 20) (w : World) (hH : HoldsK encO 5 w blk off d.toArray) (hblk : blk < w.heap.size) :
    Calls Try.prog 38 #[.slice (some ⟨blk, off, none⟩) n cap, .int .i64 n, .func (.func 24) #[] #[]] w fun e w' => e = .returned (.tuple #[]) ∧ SWK encO 5 w blk off (isortB ahd d).toArray w' := by
  have hi := ins_all blk off cap n d hn w hH hblk (by omega)
  have Hi := Lib.hid hi
  have k1 : (n : Int) < 20 := by omega
  have k2 : ¬ (20 : Int) ≤ n := by omega
  clear hi hH hn
  go_enter Try.func38, Try.ntmps38
  go_wp2_with fail
  go_loopw [7, 8] (fun i j wr => i = .int .i64 0 ∧ j = .int .i64 20 ∧ Hid (wr = w)) (fun _ _ _ => 0)
  case atStart => exact ⟨rfl, rfl, rfl⟩
  case round =>
    obtain ⟨rfl, rfl, hw⟩ := hrel
    obtain rfl : wr = w := hw.out
    clear hw
    go_wp2_with fail
    refine (Hi.out).mono ?_
    rintro e w1 ⟨rfl, S⟩
    have HS : Hid _ := S
    clear S
    go_wp2_with fail
    go_loopw [6] (fun i wq => i = .int .i64 20 ∧ Hid (SWK encO 5 wr blk off (isortB ahd d).toArray wq)) (fun _ _ => 0)
    case atStart => exact ⟨rfl, HS⟩
    case round =>
      obtain ⟨rfl, hs⟩ := hrel
      go_wp2_with fail
      go_end0
      exact ⟨rfl, hs.out⟩
theorem sort_few (blk off cap n : Nat) (d : List Off) (hn : d.length = n) (h20 : n < 20) (w : World) (hH : HoldsK encO 5 w blk off d.toArray) (hblk : blk < w.heap.size) :
    Calls Try.prog 23 #[.slice (some ⟨blk, off, none⟩) n cap, .func (.func 24) #[] #[]] w fun e w' => e = .returned (.tuple #[]) ∧ SWK encO 5 w blk off (isortB ahd d).toArray w' := by
  have hi := stable_few blk off cap n d hn h20 w hH hblk
  have Hi := Lib.hid hi
  clear hi hH hn
  go_enter Try.func23, Try.ntmps23
  go_wp2_with fail
  refine (Hi.out).mono ?_
  rintro e w1 ⟨rfl, S⟩
  go_wp2_with fail
  go_end0
  exact ⟨rfl, S⟩
end Go.Proofs.Ytadjadakncidgaa.Hand
