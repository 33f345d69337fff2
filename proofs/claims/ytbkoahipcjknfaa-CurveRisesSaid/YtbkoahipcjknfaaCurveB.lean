/- curve's buckets, walked: an iterator over a slice; and Total, which ranges over it. -/
import Derived.RangeFuncNested
import Derived.RangeFuncBound
import Derived.RangeFuncCalls
import Derived.RangeFuncLeaves
import Derived.Shelf.Abstract
import Derived.Shelf.RegionOpen
import Derived.WalkKit
import Derived.OwnWalkIn
import Derived.TacticsInMore
import Derived.LoopNIn
import Derived.LoopIn
import Derived.Test.YtbkoahipcjknfaaCurveA
import Derived.Test.YtbkoahipcjknfaaBlk
set_option linter.unusedVariables false
set_option linter.unusedSimpArgs false
namespace Go.Proofs.Ytbkoahipcjknfaa.Hand
open Go Go.RowKit Go.Shelf
attribute [local go_sem] Oper.semAt_some
/-- What one bucket is: its place, the sum of the weights ahead of it, its weight. -/
abbrev Bkt := { x : Nat × Int × Int // x.1 < 64 ∧ (0 ≤ x.2.1 ∧ x.2.1 ≤ 67108864) ∧ 0 ≤ x.2.2 ∧ x.2.2 ≤ 1048576 }
def sumN (zs : List Int) (k : Nat) : Int := (zs.take k).sum
def okZ (zs : List Int) : Prop := zs.length ≤ 64 ∧ ∀ x ∈ zs, 0 ≤ x ∧ x ≤ 1048576
theorem sum_bd : ∀ (l : List Int), (∀ x ∈ l, 0 ≤ x ∧ x ≤ 1048576) → 0 ≤ l.sum ∧ l.sum ≤ l.length * 1048576
  | [], _ => by simp
  | a :: l, h => by
    have h1 := sum_bd l fun x hx => h x (by simp [hx])
    have h2 := h a (by simp)
    rw [List.sum_cons, List.length_cons]; omega
theorem sumN_bd {zs : List Int} (h : okZ zs) (k : Nat) : 0 ≤ sumN zs k ∧ sumN zs k ≤ 67108864 := by
  have h1 := sum_bd (zs.take k) fun x hx => h.2 x (List.mem_of_mem_take hx)
  have h2 : (zs.take k).length ≤ 64 := by have := h.1; simp; omega
  unfold sumN; omega
theorem getD_bd {zs : List Int} (h : okZ zs) (k : Nat) : 0 ≤ zs.getD k 0 ∧ zs.getD k 0 ≤ 1048576 := by
  by_cases hk : k < zs.length
  · have : zs.getD k 0 = zs[k] := by simp [hk]
    rw [this]; exact h.2 _ (List.getElem_mem hk)
  · have : zs.getD k 0 = 0 := by simp [hk]
    rw [this]; omega
theorem sumN_succ (zs : List Int) (k : Nat) : sumN zs (k + 1) = sumN zs k + zs.getD k 0 := by
  unfold sumN
  by_cases hk : k < zs.length
  · rw [List.take_succ_eq_append_getElem hk, List.sum_append]; simp [hk]
  · rw [List.take_of_length_le (by omega), List.take_of_length_le (by omega)]; simp [hk]
def bkt (zs : List Int) (h : okZ zs) (j : Nat) : Bkt := if hj : j < 64 then ⟨(j, sumN zs j, zs.getD j 0), hj, sumN_bd h j, getD_bd h j⟩ else ⟨(0, 0, 0), by decide, by decide, by decide⟩
theorem bkt_val (zs : List Int) (h : okZ zs) {j : Nat} (hj : j < 64) : (bkt zs h j).1 = (j, sumN zs j, zs.getD j 0) := by unfold bkt; rw [dif_pos hj]
def upto {α : Type} (f : Nat → α) (k : Nat) : List α := (List.range k).map f
theorem upto_succ {α : Type} (f : Nat → α) (k : Nat) : upto f (k + 1) = upto f k ++ [f k] := by simp [upto, List.range_succ]
theorem upto_length {α : Type} (f : Nat → α) (k : Nat) : (upto f k).length = k := by simp [upto]
set_option maxRecDepth 100000 in
set_option maxHeartbeats 4000000 in
/-- The closure of buckets: for every loop body that keeps what lay below n₀. -/
theorem bkt1_in (F : Fence) (n : Nat) (h7 : F.fn 79) (hro : F.round = none) (hn : 1 ≤ n) (l Bs n₀ : Nat) (ad : Addr) (cap : Nat) (zs : List Int) (hz : okZ zs) (hb : ∀ j, j < zs.length → (ad.add j).block < n₀) (J Jx : List Bkt → World → Prop)
    (hY : ∀ pre (x : Bkt) W, J pre W → pre.length < zs.length → YieldAt F (n - 1) Try.prog l #[.int .i64 (x.1.1 : Int), .agg #[.int .i64 x.1.2.1, .int .i64 x.1.2.2]] W fun e W' =>
      (e = .returned (.bool true) ∧ J (pre ++ [x]) W' ∧ Below n₀ W W') ∨ (e = .returned (.bool false) ∧ Jx (pre ++ [x]) W'))
    (W : World) (hBs : W.cell? ⟨Bs, 0, none⟩ = some (.slice (some ad) zs.length cap)) (hc : ∀ j, j < zs.length → W.cell? (ad.add j) = some (.int .i64 (zs.getD j 0))) (h0 : J [] W) :
    CallsIn F n Try.prog 79 #[.func (.yield l) #[] #[], .pointer (some ⟨Bs, 0, none⟩)] W fun e W' => (∃ v, e = .returned v) ∧
      ((∃ ys, ys = upto (bkt zs hz) zs.length ∧ J ys W') ∨ (∃ pre, (∃ k, k ≤ zs.length ∧ pre = upto (bkt zs hz) k) ∧ Jx pre W')) := by
  have hl := hz.1
  have Hc := Lib.hid hc
  have HY := Lib.hid hY
  clear hc hY
  refine callsIn_of_wp Try.func79 rfl h7 ?_ hro
  simp only [Try.ntmps79, List.size_toArray, List.length_cons, List.length_nil, Nat.reduceAdd, Nat.reduceSub, Array.replicate_succ, Array.replicate_zero, List.push_toArray, List.append_toArray, List.nil_append, List.cons_append]
  gi_wp2
  gi_loopw [3, 8] (fun s i wr => ∃ k : Nat, k ≤ zs.length ∧ i = .int .i64 k ∧ s = .int .i64 (sumN zs k) ∧ J (upto (bkt zs hz) k) wr ∧ Below n₀ W wr)
    (fun _ i _ => zs.length - (intOf i).toNat)
  case atStart => exact ⟨0, Nat.zero_le _, rfl, rfl, h0, Below.refl _ _⟩
  case round =>
    obtain ⟨k, hk, rfl, rfl, hJs, hnx⟩ := hrel
    by_cases hlt : k < zs.length
    · have hcx : wr.cell? (ad.add k) = some (.int .i64 (zs.getD k 0)) := (hnx.cell (hb k hlt)).trans (Hc.out k hlt)
      obtain ⟨fn, tmps, assign, body, hy, hR⟩ := HY.out _ (bkt zs hz k) wr hJs (by rw [upto_length]; exact hlt)
      rw [bkt_val zs hz (by omega)] at hy
      dsimp only at hy
      obtain ⟨s0, s1⟩ := sumN_bd hz k
      obtain ⟨x0, x1⟩ := getD_bd hz k
      have hsu := sumN_succ zs k
      have Hsu := Lib.hid hsu
      have HR := Lib.hid hR
      clear hsu hR
      generalize hS : sumN zs k = S at *
      generalize hX : zs.getD k 0 = x at *
      clear hS hX
      gi_wp2
      refine HR.out.mono ?_
      rintro e W3 (⟨rfl, hJ3, hk3⟩ | ⟨rfl, hJx3⟩)
      · gi_wp2
        go_roundw
        case rel => exact ⟨k + 1, by omega, by simp, by rw [Hsu.out], by rw [upto_succ]; exact hJ3, hnx.trans hk3⟩
        case measure => simp [intOf]; omega
      · gi_wp2
        refine bodyPost_ret (results_none rfl _ _ _) rfl ?_
        exact ⟨⟨_, rfl⟩, .inr ⟨_, ⟨k + 1, by omega, (upto_succ _ _).symm⟩, hJx3⟩⟩
    · obtain rfl : k = zs.length := by omega
      gi_wp2
      go_end0
      exact ⟨⟨_, rfl⟩, .inl ⟨_, rfl, hJs⟩⟩
set_option maxHeartbeats 1000000 in
/-- buckets(w): the slice value is boxed; the function value captures the box. -/
theorem buckets_in (F : Fence) (n : Nat) (h6 : F.fn 49) (hro : F.round = none) (A : Option Addr) (len cap : Nat) (w : World) :
    CallsIn F n Try.prog 49 #[.slice A len cap] w fun e w' => e = .returned (.func (.func 79) #[] #[.pointer (some ⟨w.heap.size, 0, none⟩)]) ∧ w' = w.alloc (.cells #[.slice A len cap] 22) := by
  refine callsIn_of_wp Try.func49 rfl h6 ?_ hro
  simp only [Try.ntmps49, List.size_toArray, List.length_cons, List.length_nil, Nat.reduceAdd, Nat.reduceSub, Array.replicate_succ, Array.replicate_zero, List.push_toArray, List.append_toArray, List.nil_append, List.cons_append]
  gi_wp2
  go_ret
  exact ⟨rfl, rfl⟩
/-- What buckets hands back gives all buckets, in order; or the first of them. -/
theorem bkt_stops (F : Fence) (n : Nat) (h7 : F.fn 79) (hro : F.round = none) (hn : 1 ≤ n) (Bs n₀ : Nat) (ad : Addr) (cap : Nat) (zs : List Int) (hz : okZ zs) (w : World) (hBs : Bs < w.heap.size) (hn₀ : n₀ ≤ w.heap.size)
    (hc : w.cell? ⟨Bs, 0, none⟩ = some (.slice (some ad) zs.length cap)) (hb : ∀ j, j < zs.length → (ad.add j).block < n₀) (hcell : ∀ j, j < zs.length → w.cell? (ad.add j) = some (.int .i64 (zs.getD j 0))) :
    SeqStopsK F n Try.prog 79 #[.pointer (some ⟨Bs, 0, none⟩)] (fun x : Bkt => #[Value.int .i64 (x.1.1 : Int), Value.agg #[.int .i64 x.1.2.1, .int .i64 x.1.2.2]]) (Below n₀) (fun ys => ys = upto (bkt zs hz) zs.length)
      (fun pre => ∃ k, k ≤ zs.length ∧ pre = upto (bkt zs hz) k) zs.length w := fun l J Jx W hW _ _ hY h0 =>
  bkt1_in F n h7 hro hn l Bs n₀ ad cap zs hz hb J Jx hY W ((hW.cell (p := ⟨Bs, 0, none⟩) hBs).trans hc) (fun j hj => (hW.cell (Nat.lt_of_lt_of_le (hb j hj) hn₀)).trans (hcell j hj)) h0
end Go.Proofs.Ytbkoahipcjknfaa.Hand
