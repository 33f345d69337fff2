/- Package curve, walked: Check, the buckets' iterator, Total, Done, Spread. -/
import Derived.Test.YtapfidpfjbacgaaPl
import Derived.Test.YtapfidpfjbacgaaVx0
import Derived.RangeFuncNested
import Derived.RangeFuncBound
import Derived.RangeFuncCalls
import Derived.RangeFuncLeaves
import Derived.Shelf.Abstract
import Derived.Shelf.RegionOpen
import Derived.WalkKit
import Derived.OwnWalkIn
import Derived.TacticsInMore
import Derived.LoopNIn
import Derived.LoopIn
import Derived.Test.YtapfidpfjbacgaaBlk
import Derived.Outline
import Derived.RegionTactic
import Derived.WalkMore
import Derived.ScopeJumps
import Derived.Maps.AppendAt
import Derived.Test.YtapfidpfjbacgaaHandC
set_option linter.unusedVariables false
set_option linter.unusedSimpArgs false
namespace Go.Proofs.Ytapfidpfjbacgaa.Hand
open Go Go.RowKit Go.Proofs.YtapfidpfjbacgaaW.PrintWords Go.Proofs.YtapfidpfjbacgaaW.PrintMore Go.Proofs.Ytapfidpfjbacgaa.RL
def okW (x : Int) : Bool := decide (0 ≤ x ∧ x ≤ 1048576)
def posW (x : Int) : Bool := decide (0 < x)
/-- Are weights a curve? -/
def rightW (l : List Int) : Bool := decide (1 ≤ l.length ∧ l.length ≤ 64) && l.all okW && l.any posW
theorem check_l0 (l : List Int) (hl : l.length ≤ 64) : ∀ (d k i : Nat) (s : Bool), i + d = l.length → d < k →
    V.curve_Check.l0 k s l (l.length : Int) (i : Int) = some (if (l.drop i).all okW = true then (if (s || (l.drop i).any posW) = true then 0 else 30) else 30) := by
  intro d
  induction d with
  | zero =>
    intro k i s hi hk
    obtain ⟨k, rfl⟩ : ∃ m, k = m + 1 := ⟨k - 1, by omega⟩
    simp only [V.curve_Check.l0]
    rw [if_neg (by omega), List.drop_eq_nil_of_le (by omega)]
    cases s <;> rfl
  | succ d ih =>
    intro k i s hi hk
    obtain ⟨k, rfl⟩ : ∃ m, k = m + 1 := ⟨k - 1, by omega⟩
    have hlt : i < l.length := by omega
    have hx : rd l (i : Int) = l[i] := by simp [rd, hlt]
    have hd : l.drop i = l[i] :: l.drop (i + 1) := List.drop_eq_getElem_cons hlt
    simp only [V.curve_Check.l0]
    rw [if_pos (by omega), if_pos (by omega), if_pos (by omega), hx, hd]
    have hw : wrap64 ((i : Int) + 1) = ((i + 1 : Nat) : Int) := wsucc i (by omega)
    by_cases h1 : l[i] < 0
    · have e : okW l[i] = false := by unfold okW; rw [decide_eq_false_iff_not]; omega
      rw [if_pos h1, List.all_cons, e]; rfl
    · rw [if_neg h1]
      by_cases h2 : l[i] > 1048576
      · have e : okW l[i] = false := by unfold okW; rw [decide_eq_false_iff_not]; omega
        rw [if_pos h2, List.all_cons, e]; rfl
      · have e : okW l[i] = true := by unfold okW; rw [decide_eq_true_eq]; omega
        rw [if_neg h2, List.all_cons, e, Bool.true_and, List.any_cons, hw]
        cases s
        · rw [if_neg (by simp), ih k (i + 1) _ (by omega) (by omega)]
          show some (if (l.drop (i + 1)).all okW = true then (if (posW l[i] || (l.drop (i + 1)).any posW) = true then 0 else 30) else 30) = _
          rw [Bool.false_or]
        · rw [if_pos rfl, ih k (i + 1) true (by omega) (by omega)]
          simp
theorem check_is (l : List Int) : V.curve_Check.f 66 l = some (if rightW l = true then 0 else 30) := by
  have hj : V.curve_Check.j0 66 l true = some 30 := by simp [V.curve_Check.j0]
  unfold V.curve_Check.f rightW
  by_cases h1 : (l.length : Int) < 1
  · rw [if_pos h1, hj, decide_eq_false (by omega)]; simp
  · rw [if_neg h1]
    by_cases h2 : (l.length : Int) > 64
    · rw [if_pos h2, hj, decide_eq_false (by omega)]; simp
    · rw [if_neg h2, decide_eq_true (by omega)]
      simp only [V.curve_Check.j0, Bool.false_eq_true, if_false]
      have e0 := check_l0 l (by omega) l.length 65 0 false (by omega) (by omega)
      rw [List.drop_zero, Bool.false_or] at e0
      rw [show V.curve_Check.l0 65 false l (l.length : Int) 0 = _ from e0, Bool.true_and]
      by_cases h3 : l.all okW = true
      · rw [if_pos h3, h3, Bool.true_and]
      · rw [if_neg h3, if_neg (by simp [h3])]
def curve_Check.f (l0 : List Int) : Option Int := some (if rightW l0 = true then 0 else 30)
theorem curve_Check.calls (A0 : Option Addr) (c0 : Nat) (l0 : List Int) (r : Int) (w : World) (hr0 : Kd.C (Kd.int .i64) w A0 l0.length l0) (hc0 : l0.length ≤ c0) (h : curve_Check.f l0 = some r) :
    Calls Try.prog 44 #[.slice A0 l0.length c0] w fun e w' => e = .returned (.int .i64 r) ∧ Drawn0 w w' :=
  V.curve_Check.calls 66 A0 c0 l0 r w hr0 hc0 ((check_is l0).trans h)
/-- What a curve's weights are. -/
theorem right_open {l : List Int} (h : rightW l = true) : (1 ≤ l.length ∧ l.length ≤ 64) ∧ (∀ x ∈ l, 0 ≤ x ∧ x ≤ 1048576) ∧ ∃ x ∈ l, 0 < x := by
  unfold rightW at h
  simp only [Bool.and_eq_true, decide_eq_true_eq, List.all_eq_true, List.any_eq_true] at h
  refine ⟨h.1.1, fun x hx => ?_, ?_⟩
  · have := h.1.2 x hx; unfold okW at this; simpa using this
  · obtain ⟨x, hx, hp⟩ := h.2
    exact ⟨x, hx, by unfold posW at hp; simpa using hp⟩
end Go.Proofs.Ytapfidpfjbacgaa.Hand

set_option linter.unusedVariables false
set_option linter.unusedSimpArgs false
namespace Go.Proofs.Ytapfidpfjbacgaa.Hand
open Go Go.RowKit Go.Shelf
attribute [local go_sem] Oper.semAt_some
/-- What one bucket is: its place, the sum of the weights ahead of it, its weight. -/
abbrev Bkt := { x : Nat × Int × Int // x.1 < 64 ∧ (0 ≤ x.2.1 ∧ x.2.1 ≤ 67108864) ∧ 0 ≤ x.2.2 ∧ x.2.2 ≤ 1048576 }
def sumN (zs : List Int) (k : Nat) : Int := (zs.take k).sum
def okZ (zs : List Int) : Prop := zs.length ≤ 64 ∧ ∀ x ∈ zs, 0 ≤ x ∧ x ≤ 1048576
theorem sum_bd : ∀ (l : List Int), (∀ x ∈ l, 0 ≤ x ∧ x ≤ 1048576) → 0 ≤ l.sum ∧ l.sum ≤ l.length * 1048576
  | [], _ => by simp
  | a :: l, h => by
    have h1 := sum_bd l fun x hx => h x (by simp [hx])
    have h2 := h a (by simp)
    rw [List.sum_cons, List.length_cons]; omega
theorem sumN_bd {zs : List Int} (h : okZ zs) (k : Nat) : 0 ≤ sumN zs k ∧ sumN zs k ≤ 67108864 := by
  have h1 := sum_bd (zs.take k) fun x hx => h.2 x (List.mem_of_mem_take hx)
  have h2 : (zs.take k).length ≤ 64 := by have := h.1; simp; omega
  unfold sumN; omega
theorem getD_bd {zs : List Int} (h : okZ zs) (k : Nat) : 0 ≤ zs.getD k 0 ∧ zs.getD k 0 ≤ 1048576 := by
  by_cases hk : k < zs.length
  · have : zs.getD k 0 = zs[k] := by simp [hk]
    rw [this]; exact h.2 _ (List.getElem_mem hk)
  · have : zs.getD k 0 = 0 := by simp [hk]
    rw [this]; omega
theorem sumN_succ (zs : List Int) (k : Nat) : sumN zs (k + 1) = sumN zs k + zs.getD k 0 := by
  unfold sumN
  by_cases hk : k < zs.length
  · rw [List.take_succ_eq_append_getElem hk, List.sum_append]; simp [hk]
  · rw [List.take_of_length_le (by omega), List.take_of_length_le (by omega)]; simp [hk]
def bkt (zs : List Int) (h : okZ zs) (j : Nat) : Bkt := if hj : j < 64 then ⟨(j, sumN zs j, zs.getD j 0), hj, sumN_bd h j, getD_bd h j⟩ else ⟨(0, 0, 0), by decide, by decide, by decide⟩
theorem bkt_val (zs : List Int) (h : okZ zs) {j : Nat} (hj : j < 64) : (bkt zs h j).1 = (j, sumN zs j, zs.getD j 0) := by unfold bkt; rw [dif_pos hj]
def upto {α : Type} (f : Nat → α) (k : Nat) : List α := (List.range k).map f
theorem upto_succ {α : Type} (f : Nat → α) (k : Nat) : upto f (k + 1) = upto f k ++ [f k] := by simp [upto, List.range_succ]
theorem upto_length {α : Type} (f : Nat → α) (k : Nat) : (upto f k).length = k := by simp [upto]
set_option maxRecDepth 100000 in
set_option maxHeartbeats 4000000 in
/-- The closure of buckets: for every loop body that keeps what lay below n₀. -/
theorem bkt1_in (F : Fence) (n : Nat) (h7 : F.fn 91) (hro : F.round = none) (hn : 1 ≤ n) (l Bs n₀ : Nat) (ad : Addr) (cap : Nat) (zs : List Int) (hz : okZ zs) (hb : ∀ j, j < zs.length → (ad.add j).block < n₀) (J Jx : List Bkt → World → Prop)
    (hY : ∀ pre (x : Bkt) W, J pre W → pre.length < zs.length → YieldAt F (n - 1) Try.prog l #[.int .i64 (x.1.1 : Int), .agg #[.int .i64 x.1.2.1, .int .i64 x.1.2.2]] W fun e W' =>
      (e = .returned (.bool true) ∧ J (pre ++ [x]) W' ∧ Below n₀ W W') ∨ (e = .returned (.bool false) ∧ Jx (pre ++ [x]) W'))
    (W : World) (hBs : W.cell? ⟨Bs, 0, none⟩ = some (.slice (some ad) zs.length cap)) (hc : ∀ j, j < zs.length → W.cell? (ad.add j) = some (.int .i64 (zs.getD j 0))) (h0 : J [] W) :
    CallsIn F n Try.prog 91 #[.func (.yield l) #[] #[], .pointer (some ⟨Bs, 0, none⟩)] W fun e W' => (∃ v, e = .returned v) ∧
      ((∃ ys, ys = upto (bkt zs hz) zs.length ∧ J ys W') ∨ (∃ pre, (∃ k, k ≤ zs.length ∧ pre = upto (bkt zs hz) k) ∧ Jx pre W')) := by
  have hl := hz.1
  have Hc := Lib.hid hc
  have HY := Lib.hid hY
  clear hc hY
  refine callsIn_of_wp Try.func91 rfl h7 ?_ hro
  simp only [Try.ntmps91, List.size_toArray, List.length_cons, List.length_nil, Nat.reduceAdd, Nat.reduceSub, Array.replicate_succ, Array.replicate_zero, List.push_toArray, List.append_toArray, List.nil_append, List.cons_append]
  gi_wp2
  gi_loopw [3, 8] (fun s i wr => ∃ k : Nat, k ≤ zs.length ∧ i = .int .i64 k ∧ s = .int .i64 (sumN zs k) ∧ J (upto (bkt zs hz) k) wr ∧ Below n₀ W wr)
    (fun _ i _ => zs.length - (intOf i).toNat)
  case atStart => exact ⟨0, Nat.zero_le _, rfl, rfl, h0, Below.refl _ _⟩
  case round =>
    obtain ⟨k, hk, rfl, rfl, hJs, hnx⟩ := hrel
    by_cases hlt : k < zs.length
    · have hcx : wr.cell? (ad.add k) = some (.int .i64 (zs.getD k 0)) := (hnx.cell (hb k hlt)).trans (Hc.out k hlt)
      obtain ⟨fn, tmps, assign, body, hy, hR⟩ := HY.out _ (bkt zs hz k) wr hJs (by rw [upto_length]; exact hlt)
      rw [bkt_val zs hz (by omega)] at hy
      dsimp only at hy
      obtain ⟨s0, s1⟩ := sumN_bd hz k
      obtain ⟨x0, x1⟩ := getD_bd hz k
      have hsu := sumN_succ zs k
      have Hsu := Lib.hid hsu
      have HR := Lib.hid hR
      clear hsu hR
      generalize hS : sumN zs k = S at *
      generalize hX : zs.getD k 0 = x at *
      clear hS hX
      gi_wp2
      refine HR.out.mono ?_
      rintro e W3 (⟨rfl, hJ3, hk3⟩ | ⟨rfl, hJx3⟩)
      · gi_wp2
        go_roundw
        case rel => exact ⟨k + 1, by omega, by simp, by rw [Hsu.out], by rw [upto_succ]; exact hJ3, hnx.trans hk3⟩
        case measure => simp [intOf]; omega
      · gi_wp2
        refine bodyPost_ret (results_none rfl _ _ _) rfl ?_
        exact ⟨⟨_, rfl⟩, .inr ⟨_, ⟨k + 1, by omega, (upto_succ _ _).symm⟩, hJx3⟩⟩
    · obtain rfl : k = zs.length := by omega
      gi_wp2
      go_end0
      exact ⟨⟨_, rfl⟩, .inl ⟨_, rfl, hJs⟩⟩
set_option maxHeartbeats 1000000 in
/-- buckets(w): the slice value is boxed; the function value captures the box. -/
theorem buckets_in (F : Fence) (n : Nat) (h6 : F.fn 83) (hro : F.round = none) (A : Option Addr) (len cap : Nat) (w : World) :
    CallsIn F n Try.prog 83 #[.slice A len cap] w fun e w' => e = .returned (.func (.func 91) #[] #[.pointer (some ⟨w.heap.size, 0, none⟩)]) ∧ w' = w.alloc (.cells #[.slice A len cap] 22) := by
  refine callsIn_of_wp Try.func83 rfl h6 ?_ hro
  simp only [Try.ntmps83, List.size_toArray, List.length_cons, List.length_nil, Nat.reduceAdd, Nat.reduceSub, Array.replicate_succ, Array.replicate_zero, List.push_toArray, List.append_toArray, List.nil_append, List.cons_append]
  gi_wp2
  go_ret
  exact ⟨rfl, rfl⟩
/-- What buckets hands back gives all buckets, in order; or the first of them. -/
theorem bkt_stops (F : Fence) (n : Nat) (h7 : F.fn 91) (hro : F.round = none) (hn : 1 ≤ n) (Bs n₀ : Nat) (ad : Addr) (cap : Nat) (zs : List Int) (hz : okZ zs) (w : World) (hBs : Bs < w.heap.size) (hn₀ : n₀ ≤ w.heap.size)
    (hc : w.cell? ⟨Bs, 0, none⟩ = some (.slice (some ad) zs.length cap)) (hb : ∀ j, j < zs.length → (ad.add j).block < n₀) (hcell : ∀ j, j < zs.length → w.cell? (ad.add j) = some (.int .i64 (zs.getD j 0))) :
    SeqStopsK F n Try.prog 91 #[.pointer (some ⟨Bs, 0, none⟩)] (fun x : Bkt => #[Value.int .i64 (x.1.1 : Int), Value.agg #[.int .i64 x.1.2.1, .int .i64 x.1.2.2]]) (Below n₀) (fun ys => ys = upto (bkt zs hz) zs.length)
      (fun pre => ∃ k, k ≤ zs.length ∧ pre = upto (bkt zs hz) k) zs.length w := fun l J Jx W hW _ _ hY h0 =>
  bkt1_in F n h7 hro hn l Bs n₀ ad cap zs hz hb J Jx hY W ((hW.cell (p := ⟨Bs, 0, none⟩) hBs).trans hc) (fun j hj => (hW.cell (Nat.lt_of_lt_of_le (hb j hj) hn₀)).trans (hcell j hj)) h0
end Go.Proofs.Ytapfidpfjbacgaa.Hand

set_option linter.unusedVariables false
set_option linter.unusedSimpArgs false
namespace Go.Proofs.Ytapfidpfjbacgaa.Hand
open Go Go.RowKit Go.Shelf Go.Proofs.YtapfidpfjbacgaaW.PrintWords Go.Proofs.YtapfidpfjbacgaaW.PrintMore Go.Proofs.Ytapfidpfjbacgaa.RL
attribute [local go_sem] Oper.semAt_some
theorem blk_own {β : Type} (B : Nat) (t : TypeId) (cs : Array Value) : Own (fun (_ : β) W => Blk W B t cs) := fun s X Y row hs hg hrow =>
  (hg.block B hs.lt (fun e' => by obtain ⟨o, ho, hc⟩ := hrow B e'.symm; rw [show X.heap[B]? = _ from hs] at ho; cases ho; cases hc)).trans hs
/-- What the last bucket comes to. -/
def lastT (pre : List Bkt) : Int := (pre.getLast?.map fun p => p.1.2.1 + p.1.2.2).getD 0
theorem lastT_snoc (pre : List Bkt) (x : Bkt) : lastT (pre ++ [x]) = x.1.2.1 + x.1.2.2 := by simp [lastT]
theorem lastT_all (zs : List Int) (hz : okZ zs) (h : 1 ≤ zs.length) : lastT (upto (bkt zs hz) zs.length) = zs.sum := by
  obtain ⟨k, hk⟩ : ∃ k, zs.length = k + 1 := ⟨zs.length - 1, by omega⟩
  have := hz.1
  rw [hk, upto_succ, lastT_snoc, bkt_val zs hz (by omega)]
  show sumN zs k + zs.getD k 0 = _
  rw [← sumN_succ, ← hk]
  unfold sumN
  rw [List.take_length]
set_option maxRecDepth 100000 in
set_option maxHeartbeats 4000000 in
theorem total_ok (ad : Addr) (cap : Nat) (zs : List Int) (hz : okZ zs) (hne : 1 ≤ zs.length) (w : World) (hcell : ∀ j, j < zs.length → w.cell? (ad.add j) = some (.int .i64 (zs.getD j 0)))
    (hck : ∀ w', Drawn0 w w' → Calls Try.prog 44 #[.slice (some ad) zs.length cap] w' fun e w'' => e = .returned (.int .i64 0) ∧ Drawn0 w' w'') :
    Calls Try.prog 70 #[.slice (some ad) zs.length cap] w fun e W' => e = .returned (.tuple #[.int .i64 zs.sum, .int .i64 0]) ∧ Below w.heap.size w W' := by
  refine (callsIn_wide (n := 3)).1 ?_
  refine callsIn_of_wp_marks Try.func70 rfl trivial ?_ rfl
  simp only [Try.ntmps70, List.size_toArray, List.length_cons, List.length_nil, Nat.reduceAdd, Nat.reduceSub, Array.replicate_succ, Array.replicate_zero, List.push_toArray, List.append_toArray, List.nil_append, List.cons_append]
  have Hck := Lib.hid hck
  have Hcell := Lib.hid hcell
  clear hck hcell
  gi_wp2_with (refine ⟨trivial, ?_⟩; gi_at_call 44; refine (callsIn_wide.2 (Hck.out _ (Drawn0.refl _))).mono ?_; rintro e w1 ⟨rfl, hd⟩; have hb1 := hd.below; clear hd)
  gi_wp2_with (refine ⟨trivial, ?_⟩; gi_at_call 83; refine (buckets_in _ _ trivial rfl _ _ _ _).mono ?_; rintro e w2 ⟨rfl, hw2⟩)
  clear hw2 Hck
  have hcl := Hcell.out
  have hb : ∀ j, j < zs.length → (ad.add j).block < w1.heap.size := fun j hj => Nat.lt_of_lt_of_le (World.block_lt_of_cell? w _ (hcl j hj)) hb1.size
  have hB0 : Below w1.heap.size w1 ((w1.alloc (.cells #[.int .i64 0] 3)).alloc (.cells #[.slice (some ad) zs.length cap] 22)) := ((Below.refl _ w1).alloc (Nat.le_refl _) _).alloc (by simp) _
  have hc0 : ∀ j, j < zs.length → ((w1.alloc (.cells #[.int .i64 0] 3)).alloc (.cells #[.slice (some ad) zs.length cap] 22)).cell? (ad.add j) = some (.int .i64 (zs.getD j 0)) := fun j hj => (hB0.cell (hb j hj)).trans ((hb1.cell (World.block_lt_of_cell? w _ (hcl j hj))).trans (hcl j hj))
  have bS := (Boxed.new w1 3 (.int .i64 0)).alloc (.cells #[.slice (some ad) zs.length cap] 22)
  have bN := Boxed.new (w1.alloc (.cells #[.int .i64 0] 3)) 22 (.slice (some ad) zs.length cap)
  rw [World.size_alloc] at bN
  have hsz : ((w1.alloc (.cells #[.int .i64 0] 3)).alloc (.cells #[.slice (some ad) zs.length cap] 22)).heap.size = w1.heap.size + 2 := by simp
  clear hcl Hcell
  generalize (w1.alloc (.cells #[.int .i64 0] 3)).alloc (.cells #[.slice (some ad) zs.length cap] 22) = W0 at *
  refine wpIn_rangeFunc_ownH rfl (by omega) (gf := 91) (lb := #[.pointer (some ⟨w1.heap.size + 1, 0, none⟩)]) rfl trivial (enters_of Try.func91 (by kernel_rfl) rfl)
    (bkt_stops Fence.wide (3 - 1) trivial rfl (by omega) (w1.heap.size + 1) w1.heap.size ad cap zs hz W0 (by omega) (by omega) bN.cell hb hc0) belowK_t (belowK_b (by omega)) (Below.refl _ _) (fun _ => rfl)
    (fun pre W => Boxed W w1.heap.size 3 (.int .i64 (lastT pre)) ∧ Below w1.heap.size w1 W)
    (fun _ _ _ => False)
    (OwnFrom.and (Own.from (boxed_own _ _ _) _) (ownFrom_below (Nat.le_refl _) (by omega)))
    (fun _ _ _ _ _ hs _ _ => hs)
    ⟨bS, hB0⟩
    (fun x a' W => ∃ Bx, w1.heap.size < Bx ∧ Blk W Bx 112 #[.int .i64 x.1.2.1, .int .i64 x.1.2.2] ∧ a' = { tmps := #[.slice (some ad) zs.length cap, undef, .int .i64 0, .int .i64 0, .int .i64 0, .pointer (some ⟨w1.heap.size, 0, none⟩), undef, .pointer (some ⟨Bx, 0, none⟩), .slice (some ad) zs.length cap, .int .i64 0, .int .i64 0, .bool false, undef, .slice (some ad) zs.length cap, .func (.func 91) #[] #[.pointer (some ⟨w1.heap.size + 1, 0, none⟩)], .int .i64 (x.1.1 : Int), .agg #[.int .i64 x.1.2.1, .int .i64 x.1.2.2], undef, undef, undef, undef, undef, undef], defers := [] })
    (fun x a' _ X Y row hs hg hr => by obtain ⟨Bx, h1, h2, h3⟩ := hs; exact ⟨Bx, h1, blk_own Bx 112 _ () X Y row h2 hg (fun r e => (hr r e).2), h3⟩)
    ?assign ?body ?done ?stop
  case assign =>
    rintro l pre x W K ⟨bS1, hB1⟩ hK
    gi_wp2
    exact hK _ _ ((KeepsOthers.alloc _ _).from _) ((Below.refl _ W).alloc hB1.size _) ⟨bS1.alloc _, hB1.alloc hB1.size _⟩ ⟨W.heap.size, bS1.lt, Blk.new W 112 _, rfl⟩
  case body =>
    rintro l pre ⟨⟨xi, xa, xw⟩, hx⟩ a' W hl ⟨r, hr⟩ ⟨bS1, hB1⟩ ⟨Bx, hBx, bX, rfl⟩ hlt
    dsimp only at hx bX ⊢
    obtain ⟨y0, ⟨y1, y2⟩, y3, y4⟩ := hx
    have cS := bS1.cell
    have fS := bS1.frozen
    have x0 := bX.cell 0
    have x1 := bX.cell 1
    simp at x0 x1
    gi_wp2
    exact ⟨(KeepsOthers.setCell _ _ _).from _, (Below.refl _ W).setCell (p := ⟨w1.heap.size, 0, none⟩) (Nat.le_refl _) _, ⟨by rw [lastT_snoc]; exact bS1.set _, hB1.setCell (p := ⟨w1.heap.size, 0, none⟩) (Nat.le_refl _) _⟩⟩
  case done =>
    rintro D ys W hD rfl ⟨bS1, hB1⟩ hK
    rw [lastT_all zs hz hne] at bS1
    have cS := bS1.cell
    gi_wp2
    refine ⟨by simp, .inl ⟨_, _, rfl, run_takeDeferred hK, ?_⟩⟩
    exact ⟨_, results_tmp2 rfl _ _ _, rfl, bt hb1 (hB1.trans (belowK_b (w := w1) (Nat.le_refl _) W D _ _ (by omega) hK rfl rfl))⟩
  case stop =>
    rintro D c pre W _ _ h _
    exact h.elim
set_option maxHeartbeats 1000000 in
theorem total_no (A : Option Addr) (n cap : Nat) (w : World)
    (hck : Calls Try.prog 44 #[.slice A n cap] w fun e w'' => e = .returned (.int .i64 30) ∧ Drawn0 w w'') :
    Calls Try.prog 70 #[.slice A n cap] w fun e W' => e = .returned (.tuple #[.int .i64 0, .int .i64 30]) ∧ Below w.heap.size w W' := by
  have Hck := Lib.hid hck
  clear hck
  go_enter Try.func70, Try.ntmps70
  go_wp2_with (go_at_call 44; refine (Hck.out).mono ?_; rintro e w1 ⟨rfl, hd⟩)
  go_ret2
  exact ⟨rfl, hd.below⟩
/-- The sum of a curve's weights, or that it is none. -/
def totW (l : List Int) : Int × Int := if rightW l = true then (l.sum, 0) else (0, 30)
def curve_Total.f (l0 : List Int) : Option (Int × Int) := some (totW l0)
theorem row_cells {w : World} {A : Option Addr} {l : List Int} (h : Kd.C (Kd.int .i64) w A l.length l) (hn : 1 ≤ l.length) : ∃ ad, A = some ad ∧ ∀ j, j < l.length → w.cell? (ad.add j) = some (.int .i64 (l.getD j 0)) := by
  have hr : ReadsOf (Value.int .i64) 0 w A l.length l := Kd.reads_of_C h
  exact hr.2.2 (by omega)
theorem right_okZ {l : List Int} (h : rightW l = true) : okZ l ∧ 1 ≤ l.length := ⟨⟨(right_open h).1.2, (right_open h).2.1⟩, (right_open h).1.1⟩
theorem curve_Total.calls (A0 : Option Addr) (c0 : Nat) (l0 : List Int) (r1 r2 : Int) (w : World) (hr0 : Kd.C (Kd.int .i64) w A0 l0.length l0) (hc0 : l0.length ≤ c0) (h : curve_Total.f l0 = some (r1, r2)) :
    Calls Try.prog 70 #[.slice A0 l0.length c0] w fun e w' => e = .returned (.tuple #[.int .i64 r1, .int .i64 r2]) ∧ Below w.heap.size w w' := by
  have h := Option.some.inj h
  unfold totW at h
  by_cases c : rightW l0 = true
  · rw [if_pos c] at h
    cases h
    obtain ⟨hz, hne⟩ := right_okZ c
    obtain ⟨ad, rfl, hcell⟩ := row_cells hr0 hne
    exact total_ok ad c0 l0 hz hne w hcell fun w' hw => curve_Check.calls _ c0 l0 0 w' (Kd.C_below hr0 hw.below) hc0 (by unfold curve_Check.f; rw [if_pos c])
  · rw [if_neg c] at h
    cases h
    exact total_no A0 _ c0 w (curve_Check.calls _ c0 l0 30 w hr0 hc0 (by unfold curve_Check.f; rw [if_neg c]))
end Go.Proofs.Ytapfidpfjbacgaa.Hand

set_option linter.unusedVariables false
set_option linter.unusedSimpArgs false
namespace Go.Proofs.Ytapfidpfjbacgaa.Hand
open Go Go.RowKit Go.Shelf Go.Proofs.YtapfidpfjbacgaaW.PrintWords Go.Proofs.YtapfidpfjbacgaaW.PrintMore Go.Proofs.Ytapfidpfjbacgaa.RL
attribute [local go_sem] Oper.semAt_some
/-- How much of a bucket has gone by: from nothing to all of it. -/
def clampG (g s : Int) : Int := if g > s then s else if g > 0 then g else 0
def doneP (zs : List Int) (t s : Int) : Nat → Int
  | 0 => 0
  | m + 1 => doneP zs t s m + zs.getD m 0 * clampG (t * zs.length - m * s) s
/-- What is done of a curve at a time, times the span. -/
def doneN (zs : List Int) (t s : Int) : Int := doneP zs t s zs.length
theorem done_at (zs : List Int) (t s : Int) (k : Nat) (hk : k < zs.length) (h0 : 0 ≤ t * zs.length) (hs : 0 ≤ s) (ha : ∀ j, j < k → s < t * zs.length - j * s) (hb : t * zs.length - k * s ≤ s) :
    doneN zs t s = sumN zs k * s + zs.getD k 0 * (t * zs.length - k * s) := by
  have h1 : ∀ m, m ≤ k → doneP zs t s m = sumN zs m * s := by
    intro m
    induction m with
    | zero => intro _; simp [doneP, sumN]
    | succ m ih =>
      intro hm
      have := ha m (by omega)
      have e : clampG (t * zs.length - m * s) s = s := by unfold clampG; rw [if_pos (by omega)]
      simp only [doneP]
      rw [ih (by omega), e, sumN_succ, Int.add_mul]
  have hg : 0 ≤ t * zs.length - k * s := by
    cases k with
    | zero => simpa using h0
    | succ k =>
      have := ha k (by omega)
      have e : ((k + 1 : Nat) : Int) * s = k * s + s := by rw [Int.natCast_add, Int.add_mul]; simp
      omega
  have h2 : clampG (t * zs.length - k * s) s = t * zs.length - k * s := by
    unfold clampG; rw [if_neg (by omega)]; split <;> omega
  have h3 : ∀ m, k < m → doneP zs t s m = sumN zs k * s + zs.getD k 0 * (t * zs.length - k * s) := by
    intro m
    induction m with
    | zero => intro h; omega
    | succ m ih =>
      intro hm
      simp only [doneP]
      by_cases e : m = k
      · subst e
        rw [h1 m (Nat.le_refl _), h2]
      · rw [ih (by omega)]
        obtain ⟨d, rfl⟩ : ∃ d, m = k + 1 + d := ⟨m - k - 1, by omega⟩
        have e1 : ((k + 1 + d : Nat) : Int) * s = k * s + s + d * s := by rw [Int.natCast_add, Int.natCast_add, Int.add_mul, Int.add_mul]; simp
        have e2 : 0 ≤ (d : Int) * s := Int.mul_nonneg (by omega) hs
        have e3 : clampG (t * zs.length - ((k + 1 + d : Nat) : Int) * s) s = 0 := by
          unfold clampG; rw [e1, if_neg (by omega), if_neg (by omega)]
        rw [e3]; simp
  exact h3 _ hk
theorem boxed_below {W W' : World} {B n : Nat} {t : TypeId} {v : Value} (h : Boxed W B t v) (hb : Below n W W') (hB : B < n) : Boxed W' B t v := (hb.block B hB).trans h
/-- All of these buckets are over. -/
def AllOn (a s : Int) (pre : List Bkt) : Prop := ∀ p ∈ pre, s < a - (p.1.1 : Int) * s
theorem AllOn.snoc {a s : Int} {pre : List Bkt} {x : Bkt} (h : AllOn a s pre) (hx : s < a - (x.1.1 : Int) * s) : AllOn a s (pre ++ [x]) := fun p hp => (List.mem_append.1 hp).elim (h p) (fun e => by rw [List.mem_singleton] at e; subst e; exact hx)
set_option maxRecDepth 100000 in
set_option maxHeartbeats 8000000 in
theorem done_ok (ad : Addr) (cap : Nat) (zs : List Int) (hz : okZ zs) (hne : 1 ≤ zs.length) (t s : Int) (hs1 : 1 ≤ s) (hs2 : s ≤ 1073741824) (ht0 : 0 ≤ t) (ht1 : t ≤ s) (w : World) (hcell : ∀ j, j < zs.length → w.cell? (ad.add j) = some (.int .i64 (zs.getD j 0)))
    (hck : ∀ w', Below w.heap.size w w' → Calls Try.prog 44 #[.slice (some ad) zs.length cap] w' fun e w'' => e = .returned (.int .i64 0) ∧ Drawn0 w' w'') :
    Calls Try.prog 69 #[.slice (some ad) zs.length cap, .int .i64 t, .int .i64 s] w fun e W' => e = .returned (.tuple #[.int .i64 (doneN zs t s), .int .i64 s, .int .i64 0]) ∧ Below w.heap.size w W' := by
  refine (callsIn_wide (n := 3)).1 ?_
  refine callsIn_of_wp_marks Try.func69 rfl trivial ?_ rfl
  simp only [Try.ntmps69, List.size_toArray, List.length_cons, List.length_nil, Nat.reduceAdd, Nat.reduceSub, Array.replicate_succ, Array.replicate_zero, List.push_toArray, List.append_toArray, List.nil_append, List.cons_append]
  have Hck := Lib.hid hck
  have Hcell := Lib.hid hcell
  clear hck hcell
  have bT0 := ((Boxed.new w 3 (.int .i64 t)).alloc (.cells #[.int .i64 s] 3)).alloc (.cells #[.int .i64 0] 3)
  have bS0 := (Boxed.new (w.alloc (.cells #[.int .i64 t] 3)) 3 (.int .i64 s)).alloc (.cells #[.int .i64 0] 3)
  have bN0 := Boxed.new ((w.alloc (.cells #[.int .i64 t] 3)).alloc (.cells #[.int .i64 s] 3)) 3 (.int .i64 0)
  simp only [World.size_alloc] at bS0 bN0
  have hB00 : Below w.heap.size w (((w.alloc (.cells #[.int .i64 t] 3)).alloc (.cells #[.int .i64 s] 3)).alloc (.cells #[.int .i64 0] 3)) := (((Below.refl _ w).alloc (Nat.le_refl _) _).alloc (by simp) _).alloc (by simp; omega) _
  have hs0 : (((w.alloc (.cells #[.int .i64 t] 3)).alloc (.cells #[.int .i64 s] 3)).alloc (.cells #[.int .i64 0] 3)).heap.size = w.heap.size + 3 := by simp
  have l0 : w.heap.size < (((w.alloc (.cells #[.int .i64 t] 3)).alloc (.cells #[.int .i64 s] 3)).alloc (.cells #[.int .i64 0] 3)).heap.size := by simp; omega
  have l1 : w.heap.size + 1 < (((w.alloc (.cells #[.int .i64 t] 3)).alloc (.cells #[.int .i64 s] 3)).alloc (.cells #[.int .i64 0] 3)).heap.size := by simp
  have l2 : w.heap.size + 1 + 1 < (((w.alloc (.cells #[.int .i64 t] 3)).alloc (.cells #[.int .i64 s] 3)).alloc (.cells #[.int .i64 0] 3)).heap.size := by simp
  have HT0 := Lib.hid bT0
  have HS0 := Lib.hid bS0
  have HN0 := Lib.hid bN0
  have HB0 := Lib.hid hB00
  clear bT0 bS0 bN0 hB00 hs0
  refine wpIn_wide.2 ?_
  go_wp2_with fail
  go_step3
  go_wp2_with (go_at_call 44; refine (Hck.out _ HB0.out).mono ?_; rintro e w1 ⟨rfl, hd⟩; have hb1 := hd.below; have cT := (boxed_below HT0.out hb1 l0).cell; have cS := (boxed_below HS0.out hb1 l1).cell)
  go_step3
  go_wp2_with (go_at_call 83; refine (callsIn_wide.1 (buckets_in Fence.wide 3 trivial rfl _ _ _ _)).mono ?_; rintro e w2 ⟨rfl, hw2⟩)
  clear hw2 Hck cT cS hd
  have hcl := Hcell.out
  have bT1 := ((boxed_below HT0.out hb1 l0).alloc (.cells #[.int .i64 (zs.length : Int)] 3)).alloc (.cells #[.slice (some ad) zs.length cap] 22)
  have bS1 := ((boxed_below HS0.out hb1 l1).alloc (.cells #[.int .i64 (zs.length : Int)] 3)).alloc (.cells #[.slice (some ad) zs.length cap] 22)
  have bM1 := ((boxed_below HN0.out hb1 l2).alloc (.cells #[.int .i64 (zs.length : Int)] 3)).alloc (.cells #[.slice (some ad) zs.length cap] 22)
  have bL1 := (Boxed.new w1 3 (.int .i64 (zs.length : Int))).alloc (.cells #[.slice (some ad) zs.length cap] 22)
  have bZ1 := Boxed.new (w1.alloc (.cells #[.int .i64 (zs.length : Int)] 3)) 22 (.slice (some ad) zs.length cap)
  rw [World.size_alloc] at bZ1
  have hw1 : w.heap.size + 1 + 1 < w1.heap.size := Nat.lt_of_lt_of_le l2 hb1.size
  have hBw : Below w.heap.size w w1 := bt HB0.out hb1
  have hB1 : Below w.heap.size w ((w1.alloc (.cells #[.int .i64 (zs.length : Int)] 3)).alloc (.cells #[.slice (some ad) zs.length cap] 22)) := (hBw.alloc hBw.size _).alloc (by simp; omega) _
  have hsz : ((w1.alloc (.cells #[.int .i64 (zs.length : Int)] 3)).alloc (.cells #[.slice (some ad) zs.length cap] 22)).heap.size = w1.heap.size + 2 := by simp
  have hb : ∀ j, j < zs.length → (ad.add j).block < w.heap.size := fun j hj => World.block_lt_of_cell? w _ (hcl j hj)
  have hc0 : ∀ j, j < zs.length → ((w1.alloc (.cells #[.int .i64 (zs.length : Int)] 3)).alloc (.cells #[.slice (some ad) zs.length cap] 22)).cell? (ad.add j) = some (.int .i64 (zs.getD j 0)) := fun j hj => (hB1.cell (hb j hj)).trans (hcl j hj)
  have hl64 := hz.1
  have m1 : 0 ≤ t * (zs.length : Int) := Int.mul_nonneg ht0 (by omega)
  have m2 : t * (zs.length : Int) ≤ 1073741824 * 64 := Int.mul_le_mul (by omega) (by omega) (by omega) (by omega)
  have m2' : t * (zs.length : Int) ≤ 68719476736 := m2
  have m3 : t * (zs.length : Int) ≤ s * (zs.length : Int) := Int.mul_le_mul_of_nonneg_right ht1 (by omega)
  have Hm3 := Lib.hid m3
  clear hcl Hcell HT0 HS0 HN0 HB0 l0 l1 l2 hb1 m2 m3
  generalize (w1.alloc (.cells #[.int .i64 (zs.length : Int)] 3)).alloc (.cells #[.slice (some ad) zs.length cap] 22) = W0 at *
  refine (wpIn_wide (n := 3)).1 ?_
  refine wpIn_rangeFunc_ownH (F := Fence.wide) (n := 3) rfl (by omega) (gf := 91) (lb := #[.pointer (some ⟨w1.heap.size + 1, 0, none⟩)]) rfl trivial (enters_of Try.func91 (by kernel_rfl) rfl)
    (bkt_stops Fence.wide (3 - 1) trivial rfl (by omega) (w1.heap.size + 1) w.heap.size ad cap zs hz W0 (by omega) (by omega) bZ1.cell hb hc0) belowK_t (belowK_b (by omega)) (Below.refl _ _) (fun _ => rfl)
    (fun pre W => ((Boxed W w.heap.size 3 (.int .i64 t) ∧ Boxed W (w.heap.size + 1) 3 (.int .i64 s)) ∧ (Boxed W (w.heap.size + 1 + 1) 3 (.int .i64 0) ∧ Boxed W w1.heap.size 3 (.int .i64 (zs.length : Int)))) ∧ (AllOn (t * (zs.length : Int)) s pre ∧ Below w.heap.size w W))
    (fun c pre W => (c = .exit 0 ∧ ∃ (ini : List Bkt) (last : Bkt), pre = ini ++ [last] ∧ AllOn (t * (zs.length : Int)) s ini ∧ t * (zs.length : Int) - (last.1.1 : Int) * s ≤ s ∧ Boxed W (w.heap.size + 1 + 1) 3 (.int .i64 (last.1.2.1 * s + last.1.2.2 * (t * (zs.length : Int) - (last.1.1 : Int) * s))) ∧ Boxed W (w.heap.size + 1) 3 (.int .i64 s)) ∧ Below w.heap.size w W)
    (OwnFrom.and (OwnFrom.and (OwnFrom.and (Own.from (boxed_own _ _ _) _) (Own.from (boxed_own _ _ _) _)) (OwnFrom.and (Own.from (boxed_own _ _ _) _) (Own.from (boxed_own _ _ _) _))) (OwnFrom.and (ownFrom_pure _ _) (ownFrom_below (Nat.le_refl _) (by omega))))
    (fun c => OwnFrom.and (Own.from (fun s' X Y row hs hg hr => by obtain ⟨hc, ini, last, e1, e2, e3, e4, e5⟩ := hs; exact ⟨hc, ini, last, e1, e2, e3, boxed_own _ _ (fun (_ : Unit) => _) () X Y row e4 hg hr, boxed_own _ _ (fun (_ : Unit) => _) () X Y row e5 hg hr⟩) _) (ownFrom_below (Nat.le_refl _) (by omega)))
    ⟨⟨⟨bT1, bS1⟩, ⟨bM1, bL1⟩⟩, ⟨fun p hp => by simp at hp, hB1⟩⟩
    (fun x a' W => ∃ Bx, w1.heap.size < Bx ∧ Blk W Bx 112 #[.int .i64 x.1.2.1, .int .i64 x.1.2.2] ∧ a' = { tmps := #[.slice (some ad) zs.length cap, .int .i64 t, .int .i64 s, undef, .pointer (some ⟨w.heap.size, 0, none⟩), .pointer (some ⟨w.heap.size + 1, 0, none⟩), .pointer (some ⟨w.heap.size + 1 + 1, 0, none⟩), .int .i64 0, .int .i64 0, .int .i64 0, .pointer (some ⟨w1.heap.size, 0, none⟩), .int .i64 (x.1.1 : Int), .pointer (some ⟨Bx, 0, none⟩), undef, .slice (some ad) zs.length cap, .int .i64 0, .int .i64 0, .bool false, undef, .int .i64 s, .bool (decide (s < 1)), .bool (decide (s < 1)), .int .i64 s, .bool (decide (1073741824 < s)), .bool (decide (s < 1) || decide (1073741824 < s)), .bool (decide (s < 1) || decide (1073741824 < s)), .int .i64 t, .bool (decide (t < 0)), .bool (decide (s < 1) || decide (1073741824 < s) || decide (t < 0)), .bool (decide (s < 1) || decide (1073741824 < s) || decide (t < 0)), .int .i64 t, .int .i64 s, .bool (decide (s < t)), .bool (decide (s < 1) || decide (1073741824 < s) || decide (t < 0) || decide (s < t)), .slice (some ad) zs.length cap, .int .i64 (zs.length : Int), .slice (some ad) zs.length cap, .func (.func 91) #[] #[.pointer (some ⟨w1.heap.size + 1, 0, none⟩)], .int .i64 (x.1.1 : Int), .agg #[.int .i64 x.1.2.1, .int .i64 x.1.2.2], undef, undef, undef, undef, undef, undef, undef, undef, undef, undef, undef, undef, undef, undef, undef, undef, undef, undef, undef, undef, undef], defers := [] })
    (fun x a' _ X Y row hs hg hr => by obtain ⟨Bx, h1, h2, h3⟩ := hs; exact ⟨Bx, h1, blk_own Bx 112 _ () X Y row h2 hg (fun r e => (hr r e).2), h3⟩)
    ?assign ?body ?done ?stop
  case assign =>
    rintro l pre x W K ⟨⟨⟨bT, bS⟩, ⟨bM, bL⟩⟩, ⟨hp, hB⟩⟩ hK
    gi_wp2
    exact hK _ _ ((KeepsOthers.alloc _ _).from _) ((Below.refl _ W).alloc hB.size _) ⟨⟨⟨bT.alloc _, bS.alloc _⟩, ⟨bM.alloc _, bL.alloc _⟩⟩, ⟨hp, hB.alloc hB.size _⟩⟩ ⟨W.heap.size, bL.lt, Blk.new W 112 _, rfl⟩
  case body =>
    rintro l pre ⟨⟨xi, xa, xw⟩, hx⟩ a' W hl ⟨r, hr⟩ ⟨⟨⟨bT, bS⟩, ⟨bM, bL⟩⟩, ⟨hp, hB⟩⟩ ⟨Bx, hBx, bX, rfl⟩ hlt
    dsimp only at hx bX ⊢
    obtain ⟨y0, ⟨y1, y2⟩, y3, y4⟩ := hx
    have cT := bT.cell
    have cS := bS.cell
    have cM := bM.cell
    have fM := bM.frozen
    have cL := bL.cell
    have x0 := bX.cell 0
    have x1 := bX.cell 1
    simp at x0 x1
    have m4 : 0 ≤ (xi : Int) * s := Int.mul_nonneg (by omega) (by omega)
    have m5 : (xi : Int) * s ≤ 64 * 1073741824 := Int.mul_le_mul (by omega) (by omega) (by omega) (by omega)
    have m5' : (xi : Int) * s ≤ 68719476736 := m5
    have m6 : 0 ≤ xa * s := Int.mul_nonneg y1 (by omega)
    have m7 : xa * s ≤ 67108864 * 1073741824 := Int.mul_le_mul y2 hs2 (by omega) (by omega)
    have m7' : xa * s ≤ 72057594037927936 := m7
    have m8 : xw * (t * (zs.length : Int) - (xi : Int) * s) ≤ xw * 68719476736 := Int.mul_le_mul_of_nonneg_left (by omega) y3
    have m9 : xw * (-68719476736) ≤ xw * (t * (zs.length : Int) - (xi : Int) * s) := Int.mul_le_mul_of_nonneg_left (by omega) y3
    have m8' : xw * (t * (zs.length : Int) - (xi : Int) * s) ≤ 72057594037927936 := by omega
    have m9' : -72057594037927936 ≤ xw * (t * (zs.length : Int) - (xi : Int) * s) := by omega
    clear m5 m7 m8 m9
    have Hx := Lib.hid bX
    clear bX
    by_cases hst : t * (zs.length : Int) - (xi : Int) * s ≤ s
    · gi_wp2
      exact ⟨(KeepsOthers.setCell _ _ _).from _, ⟨rfl, pre, _, rfl, hp, hst, bM.set _, bS.other (by omega) _⟩, hB.setCell (p := ⟨w.heap.size + 1 + 1, 0, none⟩) (by show w.heap.size ≤ w.heap.size + 1 + 1; omega) _⟩
    · gi_wp2
      exact ⟨KeepsFrom.refl _ _, Below.refl _ _, ⟨⟨⟨bT, bS⟩, ⟨bM, bL⟩⟩, ⟨hp.snoc (by show s < t * (zs.length : Int) - (xi : Int) * s; omega), hB⟩⟩⟩
  case done =>
    rintro D ys W hD rfl ⟨_, ⟨hp, _⟩⟩ hK
    obtain ⟨k, hk⟩ : ∃ k, zs.length = k + 1 := ⟨zs.length - 1, by omega⟩
    have := hp (bkt zs hz k) (by rw [hk]; simp only [upto, List.mem_map, List.mem_range]; exact ⟨k, by omega, rfl⟩)
    rw [bkt_val zs hz (by omega)] at this
    dsimp only at this
    have e1 : s * (zs.length : Int) = (k : Int) * s + s := by rw [hk, Int.mul_comm, Int.natCast_add, Int.add_mul]; simp
    have := Hm3.out
    omega
  case stop =>
    rintro D c pre W hD ⟨k, hk, rfl⟩ ⟨⟨rfl, ini, last, e1, e2, e3, bM, bS⟩, hB⟩ hK
    obtain ⟨k', rfl⟩ : ∃ k', k = k' + 1 := by
      cases k with
      | zero => simp [upto] at e1
      | succ k' => exact ⟨k', rfl⟩
    rw [upto_succ] at e1
    obtain ⟨rfl, e5⟩ := List.append_inj' e1 rfl
    obtain rfl : bkt zs hz k' = last := by simpa using e5
    rw [bkt_val zs hz (by omega)] at e3 bM
    dsimp only at e3 bM
    have hd := done_at zs t s k' (by omega) m1 (by omega) (fun j hj => by
      have := e2 (bkt zs hz j) (by simp only [upto, List.mem_map, List.mem_range]; exact ⟨j, hj, rfl⟩)
      rw [bkt_val zs hz (by omega)] at this
      exact this) e3
    rw [← hd] at bM
    have cM := bM.cell
    have fM := bM.frozen
    have cS := bS.cell
    clear e1 e5 hd
    refine wpIn_wide.2 ?_
    go_wp2_with fail
    go_region
    all_goals
      go_wp2_with fail
      rw [Exit.noGoto_ret]
      have hK1 : ((W.setCell ⟨w.heap.size + 1 + 1, 0, none⟩ (.int .i64 (doneN zs t s))).drew).heap[D]? = some (.deferred (some [])) := (KeepsOthers.setCell W ⟨w.heap.size + 1 + 1, 0, none⟩ (.int .i64 (doneN zs t s))).same D _ hK rfl
      have hs1 : ((W.setCell ⟨w.heap.size + 1 + 1, 0, none⟩ (.int .i64 (doneN zs t s))).drew).cell? ⟨w.heap.size + 1 + 1, 0, none⟩ = some (.int .i64 (doneN zs t s)) := World.cell?_setCell_same' W ⟨w.heap.size + 1 + 1, 0, none⟩ (.int .i64 (doneN zs t s)) (by rw [cM]; rfl)
      have hc5 := cell_kept hs1 (grownBy_putObj' _ D (.deferred none)) (fun r e => by cases e; exact ⟨_, hK1, rfl⟩)
      have hBd : Below w.heap.size w ((W.setCell ⟨w.heap.size + 1 + 1, 0, none⟩ (.int .i64 (doneN zs t s))).drew) := pw_below_drewN (hB.setCell (p := ⟨w.heap.size + 1 + 1, 0, none⟩) (by show w.heap.size ≤ w.heap.size + 1 + 1; omega) (.int .i64 (doneN zs t s))) 1
      refine ⟨by simp, .inl ⟨_, _, rfl, run_takeDeferred hK1, ?_⟩⟩
      refine ⟨.tuple #[.int .i64 (doneN zs t s), .int .i64 s, .int .i64 0], ?_, rfl, hBd.trans (belowK_b (w := w) (Nat.le_refl _) _ D _ _ (by omega) hK1 rfl rfl)⟩
      simp [results, Try.results69, go_sem, hc5]
end Go.Proofs.Ytapfidpfjbacgaa.Hand

set_option linter.unusedVariables false
set_option linter.unusedSimpArgs false
namespace Go.Proofs.Ytapfidpfjbacgaa.Hand
open Go Go.RowKit Go.Shelf Go.Proofs.YtapfidpfjbacgaaW.PrintWords Go.Proofs.YtapfidpfjbacgaaW.PrintMore Go.Proofs.Ytapfidpfjbacgaa.RL
attribute [local go_sem] Oper.semAt_some
set_option maxHeartbeats 2000000 in
set_option maxRecDepth 100000 in
theorem done_no (A : Option Addr) (n cap : Nat) (t s : Int) (w : World)
    (hck : ∀ w', Below w.heap.size w w' → Calls Try.prog 44 #[.slice A n cap] w' fun e w'' => e = .returned (.int .i64 30) ∧ Drawn0 w' w'') :
    Calls Try.prog 69 #[.slice A n cap, .int .i64 t, .int .i64 s] w fun e W' => e = .returned (.tuple #[.int .i64 0, .int .i64 0, .int .i64 30]) ∧ Below w.heap.size w W' := by
  have hB0 : Below w.heap.size w (((w.alloc (.cells #[.int .i64 t] 3)).alloc (.cells #[.int .i64 s] 3)).alloc (.cells #[.int .i64 0] 3)) := (((Below.refl _ w).alloc (Nat.le_refl _) _).alloc (by simp) _).alloc (by simp; omega) _
  have l2 : w.heap.size + 1 + 1 < (((w.alloc (.cells #[.int .i64 t] 3)).alloc (.cells #[.int .i64 s] 3)).alloc (.cells #[.int .i64 0] 3)).heap.size := by simp
  have bN0 := Boxed.new ((w.alloc (.cells #[.int .i64 t] 3)).alloc (.cells #[.int .i64 s] 3)) 3 (.int .i64 0)
  simp only [World.size_alloc] at bN0
  have Hck := Lib.hid hck
  have HB0 := Lib.hid hB0
  have HN0 := Lib.hid bN0
  clear hck hB0 bN0
  go_enter Try.func69, Try.ntmps69
  go_wp2_with fail
  go_step3
  go_wp2_with (go_at_call 44; refine (Hck.out _ HB0.out).mono ?_; rintro e w1 ⟨rfl, hd⟩; have hb1 := hd.below; have cM := (boxed_below HN0.out hb1 l2).cell; have fM := (boxed_below HN0.out hb1 l2).frozen)
  try rw [Exit.noGoto_ret]
  exact bodyPost_ret (v := _) (by simp [results, Try.results69, go_sem, cM]) rfl ⟨rfl, (bt HB0.out hb1).setCell (by show w.heap.size ≤ w.heap.size + 1 + 1; omega) _⟩
set_option maxHeartbeats 4000000 in
set_option maxRecDepth 100000 in
theorem done_arg (A : Option Addr) (n cap : Nat) (t s : Int) (hn : n ≤ 64) (ht : -9223372036854775808 ≤ t ∧ t ≤ 9223372036854775807) (hs : -9223372036854775808 ≤ s ∧ s ≤ 9223372036854775807) (hb : s < 1 ∨ 1073741824 < s ∨ t < 0 ∨ s < t) (w : World)
    (hck : ∀ w', Below w.heap.size w w' → Calls Try.prog 44 #[.slice A n cap] w' fun e w'' => e = .returned (.int .i64 0) ∧ Drawn0 w' w'') :
    Calls Try.prog 69 #[.slice A n cap, .int .i64 t, .int .i64 s] w fun e W' => e = .returned (.tuple #[.int .i64 0, .int .i64 0, .int .i64 2]) ∧ Below w.heap.size w W' := by
  have hB0 : Below w.heap.size w (((w.alloc (.cells #[.int .i64 t] 3)).alloc (.cells #[.int .i64 s] 3)).alloc (.cells #[.int .i64 0] 3)) := (((Below.refl _ w).alloc (Nat.le_refl _) _).alloc (by simp) _).alloc (by simp; omega) _
  have l0 : w.heap.size < (((w.alloc (.cells #[.int .i64 t] 3)).alloc (.cells #[.int .i64 s] 3)).alloc (.cells #[.int .i64 0] 3)).heap.size := by simp; omega
  have l1 : w.heap.size + 1 < (((w.alloc (.cells #[.int .i64 t] 3)).alloc (.cells #[.int .i64 s] 3)).alloc (.cells #[.int .i64 0] 3)).heap.size := by simp
  have l2 : w.heap.size + 1 + 1 < (((w.alloc (.cells #[.int .i64 t] 3)).alloc (.cells #[.int .i64 s] 3)).alloc (.cells #[.int .i64 0] 3)).heap.size := by simp
  have bT0 := ((Boxed.new w 3 (.int .i64 t)).alloc (.cells #[.int .i64 s] 3)).alloc (.cells #[.int .i64 0] 3)
  have bS0 := (Boxed.new (w.alloc (.cells #[.int .i64 t] 3)) 3 (.int .i64 s)).alloc (.cells #[.int .i64 0] 3)
  have bN0 := Boxed.new ((w.alloc (.cells #[.int .i64 t] 3)).alloc (.cells #[.int .i64 s] 3)) 3 (.int .i64 0)
  simp only [World.size_alloc] at bS0 bN0
  have Hck := Lib.hid hck
  have HB0 := Lib.hid hB0
  have HN0 := Lib.hid bN0
  have HT0 := Lib.hid bT0
  have HS0 := Lib.hid bS0
  clear hck hB0 bN0 bT0 bS0
  have hb' : s < 1 ∨ (1 ≤ s ∧ 1073741824 < s) ∨ (1 ≤ s ∧ s ≤ 1073741824 ∧ t < 0) ∨ (1 ≤ s ∧ s ≤ 1073741824 ∧ 0 ≤ t ∧ s < t) := by omega
  clear hb
  rcases hb' with h | ⟨h1, h2⟩ | ⟨h1, h2, h3⟩ | ⟨h1, h2, h3, h4⟩
  all_goals
    go_enter Try.func69, Try.ntmps69
    go_wp2_with fail
    go_step3
    go_wp2_with (go_at_call 44; refine (Hck.out _ HB0.out).mono ?_; rintro e w1 ⟨rfl, hd⟩; have hb1 := hd.below; have cM := (boxed_below HN0.out hb1 l2).cell; have fM := (boxed_below HN0.out hb1 l2).frozen; have cT := (boxed_below HT0.out hb1 l0).cell; have cS := (boxed_below HS0.out hb1 l1).cell)
    try rw [Exit.noGoto_ret]
    exact bodyPost_ret (v := _) (by simp [results, Try.results69, go_sem, cM]) rfl ⟨rfl, (bt HB0.out hb1).setCell (by show w.heap.size ≤ w.heap.size + 1 + 1; omega) _⟩
/-- What is done of a curve at a time; or that there is none, or no such time. -/
def doneW (l : List Int) (t s : Int) : Int × Int × Int := if rightW l = true then (if 1 ≤ s ∧ s ≤ 1073741824 ∧ 0 ≤ t ∧ t ≤ s then (doneN l t s, s, 0) else (0, 0, 2)) else (0, 0, 30)
def curve_Done.f (l0 : List Int) (a1 a2 : Int) : Option (Int × Int × Int) := if in64 a1 ∧ in64 a2 then some (doneW l0 a1 a2) else none
theorem curve_Done.calls (A0 : Option Addr) (c0 : Nat) (l0 : List Int) (a1 a2 : Int) (r1 r2 r3 : Int) (w : World) (hr0 : Kd.C (Kd.int .i64) w A0 l0.length l0) (hc0 : l0.length ≤ c0) (h : curve_Done.f l0 a1 a2 = some (r1, r2, r3)) :
    Calls Try.prog 69 #[.slice A0 l0.length c0, .int .i64 a1, .int .i64 a2] w fun e w' => e = .returned (.tuple #[.int .i64 r1, .int .i64 r2, .int .i64 r3]) ∧ Below w.heap.size w w' := by
  unfold curve_Done.f at h
  by_cases ci : in64 a1 ∧ in64 a2
  · rw [if_pos ci] at h
    have h := Option.some.inj h
    unfold doneW at h
    by_cases c : rightW l0 = true
    · rw [if_pos c] at h
      obtain ⟨hz, hne⟩ := right_okZ c
      have hck : ∀ w', Below w.heap.size w w' → Calls Try.prog 44 #[.slice A0 l0.length c0] w' fun e w'' => e = .returned (.int .i64 0) ∧ Drawn0 w' w'' := fun w' hw => curve_Check.calls _ c0 l0 0 w' (Kd.C_below hr0 hw) hc0 (by unfold curve_Check.f; rw [if_pos c])
      by_cases d : 1 ≤ a2 ∧ a2 ≤ 1073741824 ∧ 0 ≤ a1 ∧ a1 ≤ a2
      · rw [if_pos d] at h
        cases h
        obtain ⟨ad, rfl, hcell⟩ := row_cells hr0 hne
        exact done_ok ad c0 l0 hz hne a1 a2 d.1 d.2.1 d.2.2.1 d.2.2.2 w hcell hck
      · rw [if_neg d] at h
        cases h
        exact done_arg A0 _ c0 a1 a2 hz.1 ci.1 ci.2 (by omega) w hck
    · rw [if_neg c] at h
      cases h
      exact done_no A0 _ c0 a1 a2 w fun w' hw => curve_Check.calls _ c0 l0 30 w' (Kd.C_below hr0 hw) hc0 (by unfold curve_Check.f; rw [if_neg c])
  · rw [if_neg ci] at h; exact absurd h (by simp)
end Go.Proofs.Ytapfidpfjbacgaa.Hand

set_option linter.unusedVariables false
set_option linter.unusedSimpArgs false
namespace Go.Proofs.Ytapfidpfjbacgaa.Hand
open Go Go.RowKit Go.Shelf Go.Proofs.YtapfidpfjbacgaaW.PrintWords Go.Proofs.YtapfidpfjbacgaaW.PrintMore Go.Proofs.Ytapfidpfjbacgaa.RL
attribute [local go_sem] Oper.semAt_some
theorem info_int : (Try.prog.info? 3).map (fun i => (i.zero, i.size, i.bytes)) = some (some (.int .i64 0), 1, 8) := by kernel_rfl
end Go.Proofs.Ytapfidpfjbacgaa.Hand

set_option linter.unusedVariables false
set_option linter.unusedSimpArgs false
namespace Go.Proofs.Ytapfidpfjbacgaa.Hand
open Go Go.RowKit Go.Shelf Go.Proofs.YtapfidpfjbacgaaW.PrintWords Go.Proofs.YtapfidpfjbacgaaW.PrintMore Go.Proofs.Ytapfidpfjbacgaa.RL
attribute [local go_sem] Oper.semAt_some
theorem fr_cum {q x a : Int} (hq : 0 ≤ q) (hq1 : q ≤ 1099511627776) (hx : 0 ≤ x) (hxa : x ≤ a) (ha : 1 ≤ a) : fr q x a false = (q * x / a, 0) ∧ 0 ≤ q * x / a ∧ q * x / a ≤ q := by
  have h1 : 0 ≤ q * x := Int.mul_nonneg hq hx
  have h2 : q * x ≤ q * a := Int.mul_le_mul_of_nonneg_left hxa hq
  have h3 : 0 ≤ q * x / a := Int.ediv_nonneg h1 (by omega)
  have h4 : q * x / a ≤ q := by
    have := Int.ediv_le_ediv (show 0 < a by omega) h2
    rwa [Int.mul_ediv_cancel _ (show a ≠ 0 by omega)] at this
  refine ⟨?_, h3, h4⟩
  unfold fr frac flo
  rw [if_neg (by omega)]
  simp only [Bool.false_eq_true, if_false]
  rw [if_neg (by omega)]
  unfold tell
  rw [if_pos (by omega)]
theorem sumN_zero (l : List Int) : sumN l 0 = 0 := by simp [sumN]
theorem sumN_all (l : List Int) : sumN l l.length = l.sum := by simp [sumN]
theorem sumN_mono {l : List Int} (h : okZ l) : ∀ (d k : Nat), sumN l k ≤ sumN l (k + d)
  | 0, k => Int.le_refl _
  | d + 1, k => by
    have h1 := sumN_mono h d k
    have h2 := getD_bd h (k + d)
    rw [← Nat.add_assoc, sumN_succ]; omega
theorem sumN_le {l : List Int} (h : okZ l) (k : Nat) : sumN l k ≤ l.sum := by
  by_cases hk : k ≤ l.length
  · have := sumN_mono h (l.length - k) k
    rw [show k + (l.length - k) = l.length by omega, sumN_all] at this
    exact this
  · have : sumN l k = l.sum := by unfold sumN; rw [List.take_of_length_le (by omega)]
    omega
theorem right_sum {l : List Int} (h : rightW l = true) : 1 ≤ l.sum ∧ l.sum ≤ 67108864 := by
  obtain ⟨hz, hne⟩ := right_okZ h
  have hb := sumN_bd hz l.length
  rw [sumN_all] at hb
  refine ⟨?_, hb.2⟩
  obtain ⟨x, hx, hp⟩ := (right_open h).2.2
  obtain ⟨i, hi, rfl⟩ := List.getElem_of_mem hx
  have h1 := sumN_succ l i
  have h2 := sumN_bd hz i
  have h3 := sumN_le hz (i + 1)
  have h4 : l.getD i 0 = l[i] := by simp [hi]
  omega
end Go.Proofs.Ytapfidpfjbacgaa.Hand
