/- curve.Total, walked: the sum of the weights. -/
import Derived.Test.YtbkoahipcjknfaaCurveB
import Derived.Outline
set_option linter.unusedVariables false
set_option linter.unusedSimpArgs false
namespace Go.Proofs.Ytbkoahipcjknfaa.Hand
open Go Go.RowKit Go.Shelf Go.Proofs.YtbkoahipcjknfaaW.PrintWords Go.Proofs.YtbkoahipcjknfaaW.PrintMore Go.Proofs.Ytbkoahipcjknfaa.RL
attribute [local go_sem] Oper.semAt_some
theorem blk_own {β : Type} (B : Nat) (t : TypeId) (cs : Array Value) : Own (fun (_ : β) W => Blk W B t cs) := fun s X Y row hs hg hrow =>
  (hg.block B hs.lt (fun e' => by obtain ⟨o, ho, hc⟩ := hrow B e'.symm; rw [show X.heap[B]? = _ from hs] at ho; cases ho; cases hc)).trans hs
/-- What the last bucket comes to. -/
def lastT (pre : List Bkt) : Int := (pre.getLast?.map fun p => p.1.2.1 + p.1.2.2).getD 0
theorem lastT_snoc (pre : List Bkt) (x : Bkt) : lastT (pre ++ [x]) = x.1.2.1 + x.1.2.2 := by simp [lastT]
theorem lastT_all (zs : List Int) (hz : okZ zs) (h : 1 ≤ zs.length) : lastT (upto (bkt zs hz) zs.length) = zs.sum := by
  obtain ⟨k, hk⟩ : ∃ k, zs.length = k + 1 := ⟨zs.length - 1, by omega⟩
  have := hz.1
  rw [hk, upto_succ, lastT_snoc, bkt_val zs hz (by omega)]
  show sumN zs k + zs.getD k 0 = _
  rw [← sumN_succ, ← hk]
  unfold sumN
  rw [List.take_length]
set_option maxRecDepth 100000 in
set_option maxHeartbeats 4000000 in
theorem total_ok (ad : Addr) (cap : Nat) (zs : List Int) (hz : okZ zs) (hne : 1 ≤ zs.length) (w : World) (hcell : ∀ j, j < zs.length → w.cell? (ad.add j) = some (.int .i64 (zs.getD j 0)))
    (hck : ∀ w', Drawn0 w w' → Calls Try.prog 18 #[.slice (some ad) zs.length cap] w' fun e w'' => e = .returned (.int .i64 0) ∧ Drawn0 w' w'') :
    Calls Try.prog 16 #[.slice (some ad) zs.length cap] w fun e W' => e = .returned (.tuple #[.int .i64 zs.sum, .int .i64 0]) ∧ Below w.heap.size w W' := by
  refine (callsIn_wide (n := 3)).1 ?_
  refine callsIn_of_wp_marks Try.func16 rfl trivial ?_ rfl
  simp only [Try.ntmps16, List.size_toArray, List.length_cons, List.length_nil, Nat.reduceAdd, Nat.reduceSub, Array.replicate_succ, Array.replicate_zero, List.push_toArray, List.append_toArray, List.nil_append, List.cons_append]
  have Hck := Lib.hid hck
  have Hcell := Lib.hid hcell
  clear hck hcell
  gi_wp2_with (refine ⟨trivial, ?_⟩; gi_at_call 18; refine (callsIn_wide.2 (Hck.out _ (Drawn0.refl _))).mono ?_; rintro e w1 ⟨rfl, hd⟩; have hb1 := hd.below; clear hd)
  gi_wp2_with (refine ⟨trivial, ?_⟩; gi_at_call 49; refine (buckets_in _ _ trivial rfl _ _ _ _).mono ?_; rintro e w2 ⟨rfl, hw2⟩)
  clear hw2 Hck
  have hcl := Hcell.out
  have hb : ∀ j, j < zs.length → (ad.add j).block < w1.heap.size := fun j hj => Nat.lt_of_lt_of_le (World.block_lt_of_cell? w _ (hcl j hj)) hb1.size
  have hB0 : Below w1.heap.size w1 ((w1.alloc (.cells #[.int .i64 0] 3)).alloc (.cells #[.slice (some ad) zs.length cap] 22)) := ((Below.refl _ w1).alloc (Nat.le_refl _) _).alloc (by simp) _
  have hc0 : ∀ j, j < zs.length → ((w1.alloc (.cells #[.int .i64 0] 3)).alloc (.cells #[.slice (some ad) zs.length cap] 22)).cell? (ad.add j) = some (.int .i64 (zs.getD j 0)) := fun j hj => (hB0.cell (hb j hj)).trans ((hb1.cell (World.block_lt_of_cell? w _ (hcl j hj))).trans (hcl j hj))
  have bS := (Boxed.new w1 3 (.int .i64 0)).alloc (.cells #[.slice (some ad) zs.length cap] 22)
  have bN := Boxed.new (w1.alloc (.cells #[.int .i64 0] 3)) 22 (.slice (some ad) zs.length cap)
  rw [World.size_alloc] at bN
  have hsz : ((w1.alloc (.cells #[.int .i64 0] 3)).alloc (.cells #[.slice (some ad) zs.length cap] 22)).heap.size = w1.heap.size + 2 := by simp
  clear hcl Hcell
  generalize (w1.alloc (.cells #[.int .i64 0] 3)).alloc (.cells #[.slice (some ad) zs.length cap] 22) = W0 at *
  refine wpIn_rangeFunc_ownH rfl (by omega) (gf := 79) (lb := #[.pointer (some ⟨w1.heap.size + 1, 0, none⟩)]) rfl trivial (enters_of Try.func79 (by kernel_rfl) rfl)
    (bkt_stops Fence.wide (3 - 1) trivial rfl (by omega) (w1.heap.size + 1) w1.heap.size ad cap zs hz W0 (by omega) (by omega) bN.cell hb hc0) belowK_t (belowK_b (by omega)) (Below.refl _ _) (fun _ => rfl)
    (fun pre W => Boxed W w1.heap.size 3 (.int .i64 (lastT pre)) ∧ Below w1.heap.size w1 W)
    (fun _ _ _ => False)
    (OwnFrom.and (Own.from (boxed_own _ _ _) _) (ownFrom_below (Nat.le_refl _) (by omega)))
    (fun _ _ _ _ _ hs _ _ => hs)
    ⟨bS, hB0⟩
    (fun x a' W => ∃ Bx, w1.heap.size < Bx ∧ Blk W Bx 81 #[.int .i64 x.1.2.1, .int .i64 x.1.2.2] ∧ a' = { tmps := #[.slice (some ad) zs.length cap, undef, .int .i64 0, .int .i64 0, .int .i64 0, .pointer (some ⟨w1.heap.size, 0, none⟩), undef, .pointer (some ⟨Bx, 0, none⟩), .slice (some ad) zs.length cap, .int .i64 0, .int .i64 0, .bool false, undef, .slice (some ad) zs.length cap, .func (.func 79) #[] #[.pointer (some ⟨w1.heap.size + 1, 0, none⟩)], .int .i64 (x.1.1 : Int), .agg #[.int .i64 x.1.2.1, .int .i64 x.1.2.2], undef, undef, undef, undef, undef, undef], defers := [] })
    (fun x a' _ X Y row hs hg hr => by obtain ⟨Bx, h1, h2, h3⟩ := hs; exact ⟨Bx, h1, blk_own Bx 81 _ () X Y row h2 hg (fun r e => (hr r e).2), h3⟩)
    ?assign ?body ?done ?stop
  case assign =>
    rintro l pre x W K ⟨bS1, hB1⟩ hK
    gi_wp2
    exact hK _ _ ((KeepsOthers.alloc _ _).from _) ((Below.refl _ W).alloc hB1.size _) ⟨bS1.alloc _, hB1.alloc hB1.size _⟩ ⟨W.heap.size, bS1.lt, Blk.new W 81 _, rfl⟩
  case body =>
    rintro l pre ⟨⟨xi, xa, xw⟩, hx⟩ a' W hl ⟨r, hr⟩ ⟨bS1, hB1⟩ ⟨Bx, hBx, bX, rfl⟩ hlt
    dsimp only at hx bX ⊢
    obtain ⟨y0, ⟨y1, y2⟩, y3, y4⟩ := hx
    have cS := bS1.cell
    have fS := bS1.frozen
    have x0 := bX.cell 0
    have x1 := bX.cell 1
    simp at x0 x1
    gi_wp2
    exact ⟨(KeepsOthers.setCell _ _ _).from _, (Below.refl _ W).setCell (p := ⟨w1.heap.size, 0, none⟩) (Nat.le_refl _) _, ⟨by rw [lastT_snoc]; exact bS1.set _, hB1.setCell (p := ⟨w1.heap.size, 0, none⟩) (Nat.le_refl _) _⟩⟩
  case done =>
    rintro D ys W hD rfl ⟨bS1, hB1⟩ hK
    rw [lastT_all zs hz hne] at bS1
    have cS := bS1.cell
    gi_wp2
    refine ⟨by simp, .inl ⟨_, _, rfl, run_takeDeferred hK, ?_⟩⟩
    exact ⟨_, results_tmp2 rfl _ _ _, rfl, bt hb1 (hB1.trans (belowK_b (w := w1) (Nat.le_refl _) W D _ _ (by omega) hK rfl rfl))⟩
  case stop =>
    rintro D c pre W _ _ h _
    exact h.elim
set_option maxHeartbeats 1000000 in
theorem total_no (A : Option Addr) (n cap : Nat) (w : World)
    (hck : Calls Try.prog 18 #[.slice A n cap] w fun e w'' => e = .returned (.int .i64 30) ∧ Drawn0 w w'') :
    Calls Try.prog 16 #[.slice A n cap] w fun e W' => e = .returned (.tuple #[.int .i64 0, .int .i64 30]) ∧ Below w.heap.size w W' := by
  have Hck := Lib.hid hck
  clear hck
  go_enter Try.func16, Try.ntmps16
  go_wp2_with (go_at_call 18; refine (Hck.out).mono ?_; rintro e w1 ⟨rfl, hd⟩)
  go_ret2
  exact ⟨rfl, hd.below⟩
/-- The sum of a curve's weights, or that it is none. -/
def totW (l : List Int) : Int × Int := if rightW l = true then (l.sum, 0) else (0, 30)
def curve_Total.f (l0 : List Int) : Option (Int × Int) := some (totW l0)
theorem row_cells {w : World} {A : Option Addr} {l : List Int} (h : Kd.C (Kd.int .i64) w A l.length l) (hn : 1 ≤ l.length) : ∃ ad, A = some ad ∧ ∀ j, j < l.length → w.cell? (ad.add j) = some (.int .i64 (l.getD j 0)) := by
  have hr : ReadsOf (Value.int .i64) 0 w A l.length l := Kd.reads_of_C h
  exact hr.2.2 (by omega)
theorem right_okZ {l : List Int} (h : rightW l = true) : okZ l ∧ 1 ≤ l.length := ⟨⟨(right_open h).1.2, (right_open h).2.1⟩, (right_open h).1.1⟩
theorem curve_Total.calls (A0 : Option Addr) (c0 : Nat) (l0 : List Int) (r1 r2 : Int) (w : World) (hr0 : Kd.C (Kd.int .i64) w A0 l0.length l0) (hc0 : l0.length ≤ c0) (h : curve_Total.f l0 = some (r1, r2)) :
    Calls Try.prog 16 #[.slice A0 l0.length c0] w fun e w' => e = .returned (.tuple #[.int .i64 r1, .int .i64 r2]) ∧ Below w.heap.size w w' := by
  have h := Option.some.inj h
  unfold totW at h
  by_cases c : rightW l0 = true
  · rw [if_pos c] at h
    cases h
    obtain ⟨hz, hne⟩ := right_okZ c
    obtain ⟨ad, rfl, hcell⟩ := row_cells hr0 hne
    exact total_ok ad c0 l0 hz hne w hcell fun w' hw => curve_Check.calls _ c0 l0 0 w' (Kd.C_below hr0 hw.below) hc0 (by unfold curve_Check.f; rw [if_pos c])
  · rw [if_neg c] at h
    cases h
    exact total_no A0 _ c0 w (curve_Check.calls _ c0 l0 30 w hr0 hc0 (by unfold curve_Check.f; rw [if_neg c]))
end Go.Proofs.Ytbkoahipcjknfaa.Hand
