/- curve.Done, walked: what is done of a curve at a time. -/
import Derived.Test.YtbkoahipcjknfaaCurveC
import Derived.RegionTactic
import Derived.WalkMore
import Derived.ScopeJumps
set_option linter.unusedVariables false
set_option linter.unusedSimpArgs false
namespace Go.Proofs.Ytbkoahipcjknfaa.Hand
open Go Go.RowKit Go.Shelf Go.Proofs.YtbkoahipcjknfaaW.PrintWords Go.Proofs.YtbkoahipcjknfaaW.PrintMore Go.Proofs.Ytbkoahipcjknfaa.RL
attribute [local go_sem] Oper.semAt_some
/-- How much of a bucket has gone by: from nothing to all of it. -/
def clampG (g s : Int) : Int := if g > s then s else if g > 0 then g else 0
def doneP (zs : List Int) (t s : Int) : Nat → Int
  | 0 => 0
  | m + 1 => doneP zs t s m + zs.getD m 0 * clampG (t * zs.length - m * s) s
/-- What is done of a curve at a time, times the span. -/
def doneN (zs : List Int) (t s : Int) : Int := doneP zs t s zs.length
theorem done_at (zs : List Int) (t s : Int) (k : Nat) (hk : k < zs.length) (h0 : 0 ≤ t * zs.length) (hs : 0 ≤ s) (ha : ∀ j, j < k → s < t * zs.length - j * s) (hb : t * zs.length - k * s ≤ s) :
    doneN zs t s = sumN zs k * s + zs.getD k 0 * (t * zs.length - k * s) := by
  have h1 : ∀ m, m ≤ k → doneP zs t s m = sumN zs m * s := by
    intro m
    induction m with
    | zero => intro _; simp [doneP, sumN]
    | succ m ih =>
      intro hm
      have := ha m (by omega)
      have e : clampG (t * zs.length - m * s) s = s := by unfold clampG; rw [if_pos (by omega)]
      simp only [doneP]
      rw [ih (by omega), e, sumN_succ, Int.add_mul]
  have hg : 0 ≤ t * zs.length - k * s := by
    cases k with
    | zero => simpa using h0
    | succ k =>
      have := ha k (by omega)
      have e : ((k + 1 : Nat) : Int) * s = k * s + s := by rw [Int.natCast_add, Int.add_mul]; simp
      omega
  have h2 : clampG (t * zs.length - k * s) s = t * zs.length - k * s := by
    unfold clampG; rw [if_neg (by omega)]; split <;> omega
  have h3 : ∀ m, k < m → doneP zs t s m = sumN zs k * s + zs.getD k 0 * (t * zs.length - k * s) := by
    intro m
    induction m with
    | zero => intro h; omega
    | succ m ih =>
      intro hm
      simp only [doneP]
      by_cases e : m = k
      · subst e
        rw [h1 m (Nat.le_refl _), h2]
      · rw [ih (by omega)]
        obtain ⟨d, rfl⟩ : ∃ d, m = k + 1 + d := ⟨m - k - 1, by omega⟩
        have e1 : ((k + 1 + d : Nat) : Int) * s = k * s + s + d * s := by rw [Int.natCast_add, Int.natCast_add, Int.add_mul, Int.add_mul]; simp
        have e2 : 0 ≤ (d : Int) * s := Int.mul_nonneg (by omega) hs
        have e3 : clampG (t * zs.length - ((k + 1 + d : Nat) : Int) * s) s = 0 := by
          unfold clampG; rw [e1, if_neg (by omega), if_neg (by omega)]
        rw [e3]; simp
  exact h3 _ hk
theorem boxed_below {W W' : World} {B n : Nat} {t : TypeId} {v : Value} (h : Boxed W B t v) (hb : Below n W W') (hB : B < n) : Boxed W' B t v := (hb.block B hB).trans h
/-- All of these buckets are over. -/
def AllOn (a s : Int) (pre : List Bkt) : Prop := ∀ p ∈ pre, s < a - (p.1.1 : Int) * s
theorem AllOn.snoc {a s : Int} {pre : List Bkt} {x : Bkt} (h : AllOn a s pre) (hx : s < a - (x.1.1 : Int) * s) : AllOn a s (pre ++ [x]) := fun p hp => (List.mem_append.1 hp).elim (h p) (fun e => by rw [List.mem_singleton] at e; subst e; exact hx)
set_option maxRecDepth 100000 in
set_option maxHeartbeats 8000000 in
theorem done_ok (ad : Addr) (cap : Nat) (zs : List Int) (hz : okZ zs) (hne : 1 ≤ zs.length) (t s : Int) (hs1 : 1 ≤ s) (hs2 : s ≤ 1073741824) (ht0 : 0 ≤ t) (ht1 : t ≤ s) (w : World) (hcell : ∀ j, j < zs.length → w.cell? (ad.add j) = some (.int .i64 (zs.getD j 0)))
    (hck : ∀ w', Below w.heap.size w w' → Calls Try.prog 18 #[.slice (some ad) zs.length cap] w' fun e w'' => e = .returned (.int .i64 0) ∧ Drawn0 w' w'') :
    Calls Try.prog 20 #[.slice (some ad) zs.length cap, .int .i64 t, .int .i64 s] w fun e W' => e = .returned (.tuple #[.int .i64 (doneN zs t s), .int .i64 s, .int .i64 0]) ∧ Below w.heap.size w W' := by
  refine (callsIn_wide (n := 3)).1 ?_
  refine callsIn_of_wp_marks Try.func20 rfl trivial ?_ rfl
  simp only [Try.ntmps20, List.size_toArray, List.length_cons, List.length_nil, Nat.reduceAdd, Nat.reduceSub, Array.replicate_succ, Array.replicate_zero, List.push_toArray, List.append_toArray, List.nil_append, List.cons_append]
  have Hck := Lib.hid hck
  have Hcell := Lib.hid hcell
  clear hck hcell
  have bT0 := ((Boxed.new w 3 (.int .i64 t)).alloc (.cells #[.int .i64 s] 3)).alloc (.cells #[.int .i64 0] 3)
  have bS0 := (Boxed.new (w.alloc (.cells #[.int .i64 t] 3)) 3 (.int .i64 s)).alloc (.cells #[.int .i64 0] 3)
  have bN0 := Boxed.new ((w.alloc (.cells #[.int .i64 t] 3)).alloc (.cells #[.int .i64 s] 3)) 3 (.int .i64 0)
  simp only [World.size_alloc] at bS0 bN0
  have hB00 : Below w.heap.size w (((w.alloc (.cells #[.int .i64 t] 3)).alloc (.cells #[.int .i64 s] 3)).alloc (.cells #[.int .i64 0] 3)) := (((Below.refl _ w).alloc (Nat.le_refl _) _).alloc (by simp) _).alloc (by simp; omega) _
  have hs0 : (((w.alloc (.cells #[.int .i64 t] 3)).alloc (.cells #[.int .i64 s] 3)).alloc (.cells #[.int .i64 0] 3)).heap.size = w.heap.size + 3 := by simp
  have l0 : w.heap.size < (((w.alloc (.cells #[.int .i64 t] 3)).alloc (.cells #[.int .i64 s] 3)).alloc (.cells #[.int .i64 0] 3)).heap.size := by simp; omega
  have l1 : w.heap.size + 1 < (((w.alloc (.cells #[.int .i64 t] 3)).alloc (.cells #[.int .i64 s] 3)).alloc (.cells #[.int .i64 0] 3)).heap.size := by simp
  have l2 : w.heap.size + 1 + 1 < (((w.alloc (.cells #[.int .i64 t] 3)).alloc (.cells #[.int .i64 s] 3)).alloc (.cells #[.int .i64 0] 3)).heap.size := by simp
  have HT0 := Lib.hid bT0
  have HS0 := Lib.hid bS0
  have HN0 := Lib.hid bN0
  have HB0 := Lib.hid hB00
  clear bT0 bS0 bN0 hB00 hs0
  refine wpIn_wide.2 ?_
  go_wp2_with fail
  go_step3
  go_wp2_with (go_at_call 18; refine (Hck.out _ HB0.out).mono ?_; rintro e w1 ⟨rfl, hd⟩; have hb1 := hd.below; have cT := (boxed_below HT0.out hb1 l0).cell; have cS := (boxed_below HS0.out hb1 l1).cell)
  go_step3
  go_wp2_with (go_at_call 49; refine (callsIn_wide.1 (buckets_in Fence.wide 3 trivial rfl _ _ _ _)).mono ?_; rintro e w2 ⟨rfl, hw2⟩)
  clear hw2 Hck cT cS hd
  have hcl := Hcell.out
  have bT1 := ((boxed_below HT0.out hb1 l0).alloc (.cells #[.int .i64 (zs.length : Int)] 3)).alloc (.cells #[.slice (some ad) zs.length cap] 22)
  have bS1 := ((boxed_below HS0.out hb1 l1).alloc (.cells #[.int .i64 (zs.length : Int)] 3)).alloc (.cells #[.slice (some ad) zs.length cap] 22)
  have bM1 := ((boxed_below HN0.out hb1 l2).alloc (.cells #[.int .i64 (zs.length : Int)] 3)).alloc (.cells #[.slice (some ad) zs.length cap] 22)
  have bL1 := (Boxed.new w1 3 (.int .i64 (zs.length : Int))).alloc (.cells #[.slice (some ad) zs.length cap] 22)
  have bZ1 := Boxed.new (w1.alloc (.cells #[.int .i64 (zs.length : Int)] 3)) 22 (.slice (some ad) zs.length cap)
  rw [World.size_alloc] at bZ1
  have hw1 : w.heap.size + 1 + 1 < w1.heap.size := Nat.lt_of_lt_of_le l2 hb1.size
  have hBw : Below w.heap.size w w1 := bt HB0.out hb1
  have hB1 : Below w.heap.size w ((w1.alloc (.cells #[.int .i64 (zs.length : Int)] 3)).alloc (.cells #[.slice (some ad) zs.length cap] 22)) := (hBw.alloc hBw.size _).alloc (by simp; omega) _
  have hsz : ((w1.alloc (.cells #[.int .i64 (zs.length : Int)] 3)).alloc (.cells #[.slice (some ad) zs.length cap] 22)).heap.size = w1.heap.size + 2 := by simp
  have hb : ∀ j, j < zs.length → (ad.add j).block < w.heap.size := fun j hj => World.block_lt_of_cell? w _ (hcl j hj)
  have hc0 : ∀ j, j < zs.length → ((w1.alloc (.cells #[.int .i64 (zs.length : Int)] 3)).alloc (.cells #[.slice (some ad) zs.length cap] 22)).cell? (ad.add j) = some (.int .i64 (zs.getD j 0)) := fun j hj => (hB1.cell (hb j hj)).trans (hcl j hj)
  have hl64 := hz.1
  have m1 : 0 ≤ t * (zs.length : Int) := Int.mul_nonneg ht0 (by omega)
  have m2 : t * (zs.length : Int) ≤ 1073741824 * 64 := Int.mul_le_mul (by omega) (by omega) (by omega) (by omega)
  have m2' : t * (zs.length : Int) ≤ 68719476736 := m2
  have m3 : t * (zs.length : Int) ≤ s * (zs.length : Int) := Int.mul_le_mul_of_nonneg_right ht1 (by omega)
  have Hm3 := Lib.hid m3
  clear hcl Hcell HT0 HS0 HN0 HB0 l0 l1 l2 hb1 m2 m3
  generalize (w1.alloc (.cells #[.int .i64 (zs.length : Int)] 3)).alloc (.cells #[.slice (some ad) zs.length cap] 22) = W0 at *
  refine (wpIn_wide (n := 3)).1 ?_
  refine wpIn_rangeFunc_ownH (F := Fence.wide) (n := 3) rfl (by omega) (gf := 79) (lb := #[.pointer (some ⟨w1.heap.size + 1, 0, none⟩)]) rfl trivial (enters_of Try.func79 (by kernel_rfl) rfl)
    (bkt_stops Fence.wide (3 - 1) trivial rfl (by omega) (w1.heap.size + 1) w.heap.size ad cap zs hz W0 (by omega) (by omega) bZ1.cell hb hc0) belowK_t (belowK_b (by omega)) (Below.refl _ _) (fun _ => rfl)
    (fun pre W => ((Boxed W w.heap.size 3 (.int .i64 t) ∧ Boxed W (w.heap.size + 1) 3 (.int .i64 s)) ∧ (Boxed W (w.heap.size + 1 + 1) 3 (.int .i64 0) ∧ Boxed W w1.heap.size 3 (.int .i64 (zs.length : Int)))) ∧ (AllOn (t * (zs.length : Int)) s pre ∧ Below w.heap.size w W))
    (fun c pre W => (c = .exit 0 ∧ ∃ (ini : List Bkt) (last : Bkt), pre = ini ++ [last] ∧ AllOn (t * (zs.length : Int)) s ini ∧ t * (zs.length : Int) - (last.1.1 : Int) * s ≤ s ∧ Boxed W (w.heap.size + 1 + 1) 3 (.int .i64 (last.1.2.1 * s + last.1.2.2 * (t * (zs.length : Int) - (last.1.1 : Int) * s))) ∧ Boxed W (w.heap.size + 1) 3 (.int .i64 s)) ∧ Below w.heap.size w W)
    (OwnFrom.and (OwnFrom.and (OwnFrom.and (Own.from (boxed_own _ _ _) _) (Own.from (boxed_own _ _ _) _)) (OwnFrom.and (Own.from (boxed_own _ _ _) _) (Own.from (boxed_own _ _ _) _))) (OwnFrom.and (ownFrom_pure _ _) (ownFrom_below (Nat.le_refl _) (by omega))))
    (fun c => OwnFrom.and (Own.from (fun s' X Y row hs hg hr => by obtain ⟨hc, ini, last, e1, e2, e3, e4, e5⟩ := hs; exact ⟨hc, ini, last, e1, e2, e3, boxed_own _ _ (fun (_ : Unit) => _) () X Y row e4 hg hr, boxed_own _ _ (fun (_ : Unit) => _) () X Y row e5 hg hr⟩) _) (ownFrom_below (Nat.le_refl _) (by omega)))
    ⟨⟨⟨bT1, bS1⟩, ⟨bM1, bL1⟩⟩, ⟨fun p hp => by simp at hp, hB1⟩⟩
    (fun x a' W => ∃ Bx, w1.heap.size < Bx ∧ Blk W Bx 81 #[.int .i64 x.1.2.1, .int .i64 x.1.2.2] ∧ a' = { tmps := #[.slice (some ad) zs.length cap, .int .i64 t, .int .i64 s, undef, .pointer (some ⟨w.heap.size, 0, none⟩), .pointer (some ⟨w.heap.size + 1, 0, none⟩), .pointer (some ⟨w.heap.size + 1 + 1, 0, none⟩), .int .i64 0, .int .i64 0, .int .i64 0, .pointer (some ⟨w1.heap.size, 0, none⟩), .int .i64 (x.1.1 : Int), .pointer (some ⟨Bx, 0, none⟩), undef, .slice (some ad) zs.length cap, .int .i64 0, .int .i64 0, .bool false, undef, .int .i64 s, .bool (decide (s < 1)), .bool (decide (s < 1)), .int .i64 s, .bool (decide (1073741824 < s)), .bool (decide (s < 1) || decide (1073741824 < s)), .bool (decide (s < 1) || decide (1073741824 < s)), .int .i64 t, .bool (decide (t < 0)), .bool (decide (s < 1) || decide (1073741824 < s) || decide (t < 0)), .bool (decide (s < 1) || decide (1073741824 < s) || decide (t < 0)), .int .i64 t, .int .i64 s, .bool (decide (s < t)), .bool (decide (s < 1) || decide (1073741824 < s) || decide (t < 0) || decide (s < t)), .slice (some ad) zs.length cap, .int .i64 (zs.length : Int), .slice (some ad) zs.length cap, .func (.func 79) #[] #[.pointer (some ⟨w1.heap.size + 1, 0, none⟩)], .int .i64 (x.1.1 : Int), .agg #[.int .i64 x.1.2.1, .int .i64 x.1.2.2], undef, undef, undef, undef, undef, undef, undef, undef, undef, undef, undef, undef, undef, undef, undef, undef, undef, undef, undef, undef, undef], defers := [] })
    (fun x a' _ X Y row hs hg hr => by obtain ⟨Bx, h1, h2, h3⟩ := hs; exact ⟨Bx, h1, blk_own Bx 81 _ () X Y row h2 hg (fun r e => (hr r e).2), h3⟩)
    ?assign ?body ?done ?stop
  case assign =>
    rintro l pre x W K ⟨⟨⟨bT, bS⟩, ⟨bM, bL⟩⟩, ⟨hp, hB⟩⟩ hK
    gi_wp2
    exact hK _ _ ((KeepsOthers.alloc _ _).from _) ((Below.refl _ W).alloc hB.size _) ⟨⟨⟨bT.alloc _, bS.alloc _⟩, ⟨bM.alloc _, bL.alloc _⟩⟩, ⟨hp, hB.alloc hB.size _⟩⟩ ⟨W.heap.size, bL.lt, Blk.new W 81 _, rfl⟩
  case body =>
    rintro l pre ⟨⟨xi, xa, xw⟩, hx⟩ a' W hl ⟨r, hr⟩ ⟨⟨⟨bT, bS⟩, ⟨bM, bL⟩⟩, ⟨hp, hB⟩⟩ ⟨Bx, hBx, bX, rfl⟩ hlt
    dsimp only at hx bX ⊢
    obtain ⟨y0, ⟨y1, y2⟩, y3, y4⟩ := hx
    have cT := bT.cell
    have cS := bS.cell
    have cM := bM.cell
    have fM := bM.frozen
    have cL := bL.cell
    have x0 := bX.cell 0
    have x1 := bX.cell 1
    simp at x0 x1
    have m4 : 0 ≤ (xi : Int) * s := Int.mul_nonneg (by omega) (by omega)
    have m5 : (xi : Int) * s ≤ 64 * 1073741824 := Int.mul_le_mul (by omega) (by omega) (by omega) (by omega)
    have m5' : (xi : Int) * s ≤ 68719476736 := m5
    have m6 : 0 ≤ xa * s := Int.mul_nonneg y1 (by omega)
    have m7 : xa * s ≤ 67108864 * 1073741824 := Int.mul_le_mul y2 hs2 (by omega) (by omega)
    have m7' : xa * s ≤ 72057594037927936 := m7
    have m8 : xw * (t * (zs.length : Int) - (xi : Int) * s) ≤ xw * 68719476736 := Int.mul_le_mul_of_nonneg_left (by omega) y3
    have m9 : xw * (-68719476736) ≤ xw * (t * (zs.length : Int) - (xi : Int) * s) := Int.mul_le_mul_of_nonneg_left (by omega) y3
    have m8' : xw * (t * (zs.length : Int) - (xi : Int) * s) ≤ 72057594037927936 := by omega
    have m9' : -72057594037927936 ≤ xw * (t * (zs.length : Int) - (xi : Int) * s) := by omega
    clear m5 m7 m8 m9
    have Hx := Lib.hid bX
    clear bX
    by_cases hst : t * (zs.length : Int) - (xi : Int) * s ≤ s
    · gi_wp2
      exact ⟨(KeepsOthers.setCell _ _ _).from _, ⟨rfl, pre, _, rfl, hp, hst, bM.set _, bS.other (by omega) _⟩, hB.setCell (p := ⟨w.heap.size + 1 + 1, 0, none⟩) (by show w.heap.size ≤ w.heap.size + 1 + 1; omega) _⟩
    · gi_wp2
      exact ⟨KeepsFrom.refl _ _, Below.refl _ _, ⟨⟨⟨bT, bS⟩, ⟨bM, bL⟩⟩, ⟨hp.snoc (by show s < t * (zs.length : Int) - (xi : Int) * s; omega), hB⟩⟩⟩
  case done =>
    rintro D ys W hD rfl ⟨_, ⟨hp, _⟩⟩ hK
    obtain ⟨k, hk⟩ : ∃ k, zs.length = k + 1 := ⟨zs.length - 1, by omega⟩
    have := hp (bkt zs hz k) (by rw [hk]; simp only [upto, List.mem_map, List.mem_range]; exact ⟨k, by omega, rfl⟩)
    rw [bkt_val zs hz (by omega)] at this
    dsimp only at this
    have e1 : s * (zs.length : Int) = (k : Int) * s + s := by rw [hk, Int.mul_comm, Int.natCast_add, Int.add_mul]; simp
    have := Hm3.out
    omega
  case stop =>
    rintro D c pre W hD ⟨k, hk, rfl⟩ ⟨⟨rfl, ini, last, e1, e2, e3, bM, bS⟩, hB⟩ hK
    obtain ⟨k', rfl⟩ : ∃ k', k = k' + 1 := by
      cases k with
      | zero => simp [upto] at e1
      | succ k' => exact ⟨k', rfl⟩
    rw [upto_succ] at e1
    obtain ⟨rfl, e5⟩ := List.append_inj' e1 rfl
    obtain rfl : bkt zs hz k' = last := by simpa using e5
    rw [bkt_val zs hz (by omega)] at e3 bM
    dsimp only at e3 bM
    have hd := done_at zs t s k' (by omega) m1 (by omega) (fun j hj => by
      have := e2 (bkt zs hz j) (by simp only [upto, List.mem_map, List.mem_range]; exact ⟨j, hj, rfl⟩)
      rw [bkt_val zs hz (by omega)] at this
      exact this) e3
    rw [← hd] at bM
    have cM := bM.cell
    have fM := bM.frozen
    have cS := bS.cell
    clear e1 e5 hd
    refine wpIn_wide.2 ?_
    go_wp2_with fail
    go_region
    all_goals
      go_wp2_with fail
      rw [Exit.noGoto_ret]
      have hK1 : ((W.setCell ⟨w.heap.size + 1 + 1, 0, none⟩ (.int .i64 (doneN zs t s))).drew).heap[D]? = some (.deferred (some [])) := (KeepsOthers.setCell W ⟨w.heap.size + 1 + 1, 0, none⟩ (.int .i64 (doneN zs t s))).same D _ hK rfl
      have hs1 : ((W.setCell ⟨w.heap.size + 1 + 1, 0, none⟩ (.int .i64 (doneN zs t s))).drew).cell? ⟨w.heap.size + 1 + 1, 0, none⟩ = some (.int .i64 (doneN zs t s)) := World.cell?_setCell_same' W ⟨w.heap.size + 1 + 1, 0, none⟩ (.int .i64 (doneN zs t s)) (by rw [cM]; rfl)
      have hc5 := cell_kept hs1 (grownBy_putObj' _ D (.deferred none)) (fun r e => by cases e; exact ⟨_, hK1, rfl⟩)
      have hBd : Below w.heap.size w ((W.setCell ⟨w.heap.size + 1 + 1, 0, none⟩ (.int .i64 (doneN zs t s))).drew) := pw_below_drewN (hB.setCell (p := ⟨w.heap.size + 1 + 1, 0, none⟩) (by show w.heap.size ≤ w.heap.size + 1 + 1; omega) (.int .i64 (doneN zs t s))) 1
      refine ⟨by simp, .inl ⟨_, _, rfl, run_takeDeferred hK1, ?_⟩⟩
      refine ⟨.tuple #[.int .i64 (doneN zs t s), .int .i64 s, .int .i64 0], ?_, rfl, hBd.trans (belowK_b (w := w) (Nat.le_refl _) _ D _ _ (by omega) hK1 rfl rfl)⟩
      simp [results, Try.results20, go_sem, hc5]
end Go.Proofs.Ytbkoahipcjknfaa.Hand
