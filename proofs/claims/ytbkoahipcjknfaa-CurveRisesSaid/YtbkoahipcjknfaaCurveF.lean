/- curve.Spread, walked: a quantity's parts, bucket by bucket. -/
import Derived.Test.YtbkoahipcjknfaaCurveE
set_option linter.unusedVariables false
set_option linter.unusedSimpArgs false
namespace Go.Proofs.Ytbkoahipcjknfaa.Hand
open Go Go.RowKit Go.Shelf Go.Proofs.YtbkoahipcjknfaaW.PrintWords Go.Proofs.YtbkoahipcjknfaaW.PrintMore Go.Proofs.Ytbkoahipcjknfaa.RL
attribute [local go_sem] Oper.semAt_some
theorem boxed_appended {W w1 : World} {n₀ n₁ B : Nat} {t e : TypeId} {size : Nat} {v v' : Value} {k m : Nat} {xs ys : List Value} {tmp : Obj}
    (hv : Boxed W B t v) (hte : t ≠ e) (hrow : W.ownsRow n₁ e size v k xs) (hn₀ : n₀ ≤ W.heap.size) (hn : n₀ ≤ n₁) (hB : n₀ ≤ B)
    (hown' : w1.ownsRow n₁ e size v' m ys) (hgrow : (W.alloc tmp).grownBy w1 v.ownBlock) :
    Boxed w1 B t v ∧ Boxed (w1.setCell ⟨B, 0, none⟩ v') B t v' ∧ (w1.setCell ⟨B, 0, none⟩ v').ownsRow n₁ e size v' m ys ∧ KeepsOthers W (w1.setCell ⟨B, 0, none⟩ v') ∧ Below n₀ W (w1.setCell ⟨B, 0, none⟩ v') := by
  have hv1 : Boxed w1 B t v := (hv.alloc tmp).kept hgrow (hv.not_row hte hrow)
  refine ⟨hv1, hv1.set v', hown'.kept (grownBy_setCell' w1 B v') (.inr (hv1.not_row hte hown').symm), ?_, ?_⟩
  · refine ((KeepsOthers.alloc W tmp).trans (KeepsOthers.of_grownBy hgrow fun j o ej hj => ?_)).trans (KeepsOthers.setCell _ _ _)
    rcases (hrow.alloc tmp).2 with ⟨rfl, _⟩ | ⟨g, cap, cur, rfl, _, hgb, _⟩
    · simp [Value.ownBlock] at ej
    · obtain rfl : g = j := by simpa [Value.ownBlock] using ej
      rw [hgb] at hj; cases hj; rfl
  · refine (((Below.refl n₀ W).alloc hn₀ tmp).grown hgrow (by simp; omega) fun j ej => ?_).setCell (p := ⟨B, 0, none⟩) hB v'
    exact Nat.le_trans hn (hrow.lt j ej).1
theorem boxed_grown {W w1 : World} {n₁ B : Nat} {t e : TypeId} {size : Nat} {u v : Value} {k : Nat} {xs : List Value} {tmp : Obj} (h : Boxed W B t u) (hlt : B < n₁) (hrow : W.ownsRow n₁ e size v k xs) (hgrow : (W.alloc tmp).grownBy w1 v.ownBlock) : Boxed w1 B t u :=
  (h.alloc tmp).kept hgrow (fun e' => by have := (hrow.lt B e'.symm).1; omega)
theorem row_other {W : World} {n₁ B : Nat} {e : TypeId} {size : Nat} {v : Value} {k : Nat} {xs : List Value} (hrow : W.ownsRow n₁ e size v k xs) (hlt : B < n₁) (u : Value) : (W.setCell ⟨B, 0, none⟩ u).ownsRow n₁ e size v k xs :=
  hrow.kept (grownBy_setCell' W B u) (.inr fun e' => by have := (hrow.lt B e').1; omega)
theorem own_base {w : World} {base base' : Nat} {e : TypeId} {size : Nat} {v : Value} {n : Nat} {xs : List Value} (h : w.ownsRow base e size v n xs) (hb : base' ≤ base) : w.ownsRow base' e size v n xs :=
  ⟨h.1, h.2.imp id fun ⟨g, cap, cur, e1, hg, r⟩ => ⟨g, cap, cur, e1, Nat.le_trans hb hg, r⟩⟩
theorem ownFrom_size {β : Type} (B n : Nat) : OwnFrom B (fun (_ : β) W => n ≤ W.heap.size) := fun _ _ _ _ hs hg _ => Nat.le_trans hs hg.size
/-- How much should be done when a bucket is over. -/
def nowOf (q all : Int) (x : Bkt) : Int := (fr q (x.1.2.1 + x.1.2.2) all false).1
def lastN (q all : Int) (pre : List Bkt) : Int := (pre.getLast?.map (nowOf q all)).getD 0
theorem lastN_snoc (q all : Int) (pre : List Bkt) (x : Bkt) : lastN q all (pre ++ [x]) = nowOf q all x := by simp [lastN]
/-- The parts. -/
def partsN (q all : Int) (pre : List Bkt) : List Int := (List.range pre.length).map fun i => wrap64 (lastN q all (pre.take (i + 1)) - lastN q all (pre.take i))
theorem partsN_snoc (q all : Int) (pre : List Bkt) (x : Bkt) : partsN q all (pre ++ [x]) = partsN q all pre ++ [wrap64 (nowOf q all x - lastN q all pre)] := by
  unfold partsN
  rw [List.length_append, List.length_singleton, List.range_succ, List.map_append]
  congr 1
  · apply List.map_congr_left
    intro i hi
    rw [List.mem_range] at hi
    rw [List.take_append_of_le_length (by omega), List.take_append_of_le_length (by omega)]
  · simp only [List.map_cons, List.map_nil]
    rw [List.take_append_of_le_length (Nat.le_refl _), List.take_length, List.take_of_length_le (by simp), lastN_snoc]
theorem partsN_len (q all : Int) (pre : List Bkt) : (partsN q all pre).length = pre.length := by simp [partsN]
theorem info_int : (Try.prog.info? 3).map (fun i => (i.zero, i.size, i.bytes)) = some (some (.int .i64 0), 1, 8) := by kernel_rfl
set_option maxRecDepth 100000 in
set_option maxHeartbeats 8000000 in
theorem spread_ok (ad : Addr) (cap : Nat) (zs : List Int) (hz : okZ zs) (hne : 1 ≤ zs.length) (q all : Int) (hq0 : 0 ≤ q) (hq1 : q ≤ 1099511627776) (ha0 : 1 ≤ all) (ha1 : all ≤ 67108864) (w : World) (hcell : ∀ j, j < zs.length → w.cell? (ad.add j) = some (.int .i64 (zs.getD j 0)))
    (htot : ∀ w', Below w.heap.size w w' → Calls Try.prog 16 #[.slice (some ad) zs.length cap] w' fun e w'' => e = .returned (.tuple #[.int .i64 all, .int .i64 0]) ∧ Below w'.heap.size w' w'')
    (hok : ∀ k, k < zs.length → (fr q ((bkt zs hz k).1.2.1 + (bkt zs hz k).1.2.2) all false).2 = 0) :
    Calls Try.prog 25 #[.int .i64 q, .slice (some ad) zs.length cap] w fun e W' => ∃ v, e = .returned (.tuple #[v, .int .i64 0]) ∧ W'.ownsRow w.heap.size 3 1 v (partsN q all (upto (bkt zs hz) zs.length)).length ((partsN q all (upto (bkt zs hz) zs.length)).map (Value.int .i64)) ∧ Below w.heap.size w W' := by
  refine (callsIn_wide (n := 3)).1 ?_
  refine callsIn_of_wp_marks Try.func25 rfl trivial ?_ rfl
  simp only [Try.ntmps25, List.size_toArray, List.length_cons, List.length_nil, Nat.reduceAdd, Nat.reduceSub, Array.replicate_succ, Array.replicate_zero, List.push_toArray, List.append_toArray, List.nil_append, List.cons_append]
  obtain ⟨i0, hi, hz0, hz1, hz2⟩ := info_parts info_int
  have Htot := Lib.hid htot
  have Hcell := Lib.hid hcell
  have Hok := Lib.hid hok
  clear htot hcell hok
  have bQ0 := ((Boxed.new w 3 (.int .i64 q)).alloc (.cells #[.slice none 0 0] 22)).alloc (.cells #[.int .i64 0] 24)
  have bR0 := (Boxed.new (w.alloc (.cells #[.int .i64 q] 3)) 22 (.slice none 0 0)).alloc (.cells #[.int .i64 0] 24)
  have bE0 := Boxed.new ((w.alloc (.cells #[.int .i64 q] 3)).alloc (.cells #[.slice none 0 0] 22)) 24 (.int .i64 0)
  simp only [World.size_alloc] at bR0 bE0
  have hB00 : Below w.heap.size w (((w.alloc (.cells #[.int .i64 q] 3)).alloc (.cells #[.slice none 0 0] 22)).alloc (.cells #[.int .i64 0] 24)) := (((Below.refl _ w).alloc (Nat.le_refl _) _).alloc (by simp) _).alloc (by simp; omega) _
  have l0 : w.heap.size < (((w.alloc (.cells #[.int .i64 q] 3)).alloc (.cells #[.slice none 0 0] 22)).alloc (.cells #[.int .i64 0] 24)).heap.size := by simp; omega
  have l1 : w.heap.size + 1 < (((w.alloc (.cells #[.int .i64 q] 3)).alloc (.cells #[.slice none 0 0] 22)).alloc (.cells #[.int .i64 0] 24)).heap.size := by simp
  have l2 : w.heap.size + 1 + 1 < (((w.alloc (.cells #[.int .i64 q] 3)).alloc (.cells #[.slice none 0 0] 22)).alloc (.cells #[.int .i64 0] 24)).heap.size := by simp
  have HQ0 := Lib.hid bQ0
  have HR0 := Lib.hid bR0
  have HE0 := Lib.hid bE0
  have HB0 := Lib.hid hB00
  clear bQ0 bR0 bE0 hB00
  refine wpIn_wide.2 ?_
  go_wp2_with (go_at_call 16; refine (Htot.out _ HB0.out).mono ?_; rintro e w1 ⟨rfl, hb1⟩; have cQ := (boxed_below HQ0.out hb1 l0).cell; have hz9 : w.heap.size < w1.heap.size := Nat.lt_of_lt_of_le l0 hb1.size)
  go_wp2_with (go_at_call 49; refine (callsIn_wide.1 (buckets_in Fence.wide 3 trivial rfl _ _ _ _)).mono ?_; rintro e w2 ⟨rfl, hw2⟩)
  clear hw2 Htot cQ
  have hcl := Hcell.out
  have hw1 : w.heap.size + 1 + 1 < w1.heap.size := Nat.lt_of_lt_of_le l2 hb1.size
  have hBw : Below w.heap.size w w1 := bt HB0.out hb1
  have bQ1 := ((((boxed_below HQ0.out hb1 l0).alloc (.cells #[.int .i64 all] 3)).alloc (.cells #[.slice none 0 0] 22)).alloc (.cells #[.int .i64 0] 3)).alloc (.cells #[.slice (some ad) zs.length cap] 22)
  have bR1 := ((((boxed_below HR0.out hb1 l1).alloc (.cells #[.int .i64 all] 3)).alloc (.cells #[.slice none 0 0] 22)).alloc (.cells #[.int .i64 0] 3)).alloc (.cells #[.slice (some ad) zs.length cap] 22)
  have bE1 := ((((boxed_below HE0.out hb1 l2).alloc (.cells #[.int .i64 all] 3)).alloc (.cells #[.slice none 0 0] 22)).alloc (.cells #[.int .i64 0] 3)).alloc (.cells #[.slice (some ad) zs.length cap] 22)
  have bA1 := (((Boxed.new w1 3 (.int .i64 all)).alloc (.cells #[.slice none 0 0] 22)).alloc (.cells #[.int .i64 0] 3)).alloc (.cells #[.slice (some ad) zs.length cap] 22)
  have bO1 := ((Boxed.new (w1.alloc (.cells #[.int .i64 all] 3)) 22 (.slice none 0 0)).alloc (.cells #[.int .i64 0] 3)).alloc (.cells #[.slice (some ad) zs.length cap] 22)
  have bL1 := (Boxed.new ((w1.alloc (.cells #[.int .i64 all] 3)).alloc (.cells #[.slice none 0 0] 22)) 3 (.int .i64 0)).alloc (.cells #[.slice (some ad) zs.length cap] 22)
  have bZ1 := Boxed.new (((w1.alloc (.cells #[.int .i64 all] 3)).alloc (.cells #[.slice none 0 0] 22)).alloc (.cells #[.int .i64 0] 3)) 22 (.slice (some ad) zs.length cap)
  simp only [World.size_alloc] at bO1 bL1 bZ1
  have hB1 : Below w.heap.size w ((((w1.alloc (.cells #[.int .i64 all] 3)).alloc (.cells #[.slice none 0 0] 22)).alloc (.cells #[.int .i64 0] 3)).alloc (.cells #[.slice (some ad) zs.length cap] 22)) := (((hBw.alloc hBw.size _).alloc (by simp; omega) _).alloc (by simp; omega) _).alloc (by simp; omega) _
  have hsz : ((((w1.alloc (.cells #[.int .i64 all] 3)).alloc (.cells #[.slice none 0 0] 22)).alloc (.cells #[.int .i64 0] 3)).alloc (.cells #[.slice (some ad) zs.length cap] 22)).heap.size = w1.heap.size + 4 := by simp
  have hb : ∀ j, j < zs.length → (ad.add j).block < w.heap.size := fun j hj => World.block_lt_of_cell? w _ (hcl j hj)
  have hc0 : ∀ j, j < zs.length → ((((w1.alloc (.cells #[.int .i64 all] 3)).alloc (.cells #[.slice none 0 0] 22)).alloc (.cells #[.int .i64 0] 3)).alloc (.cells #[.slice (some ad) zs.length cap] 22)).cell? (ad.add j) = some (.int .i64 (zs.getD j 0)) := fun j hj => (hB1.cell (hb j hj)).trans (hcl j hj)
  have hl64 := hz.1
  clear hcl Hcell HQ0 HR0 HE0 HB0 l0 l1 l2 hb1
  generalize ((((w1.alloc (.cells #[.int .i64 all] 3)).alloc (.cells #[.slice none 0 0] 22)).alloc (.cells #[.int .i64 0] 3)).alloc (.cells #[.slice (some ad) zs.length cap] 22)) = W0 at *
  refine (wpIn_wide (n := 3)).1 ?_
  refine wpIn_rangeFunc_ownH (F := Fence.wide) (n := 3) rfl (by omega) (gf := 79) (lb := #[.pointer (some ⟨w1.heap.size + 1 + 1 + 1, 0, none⟩)]) rfl trivial (enters_of Try.func79 (by kernel_rfl) rfl)
    (bkt_stops Fence.wide (3 - 1) trivial rfl (by omega) (w1.heap.size + 1 + 1 + 1) w.heap.size ad cap zs hz W0 (by omega) (by omega) bZ1.cell hb hc0) belowK_t (belowK_b (by omega)) (Below.refl _ _) (fun _ => rfl)
    (fun pre W => ((∃ v, Boxed W (w1.heap.size + 1) 22 v ∧ W.ownsRow W0.heap.size 3 1 v (partsN q all pre).length ((partsN q all pre).map (Value.int .i64)) ∧ True) ∧ ((Boxed W (w1.heap.size + 1 + 1) 3 (.int .i64 (lastN q all pre)) ∧ Boxed W w1.heap.size 3 (.int .i64 all)) ∧ (Boxed W w.heap.size 3 (.int .i64 q) ∧ (Boxed W (w.heap.size + 1) 22 (.slice none 0 0) ∧ Boxed W (w.heap.size + 1 + 1) 24 (.int .i64 0))))) ∧ (W0.heap.size ≤ W.heap.size ∧ Below w.heap.size w W))
    (fun c pre W => c = .ret ∧ ∃ (ini : List Bkt) (last : Bkt), pre = ini ++ [last] ∧ (fr q (last.1.2.1 + last.1.2.2) all false).2 ≠ 0)
    (OwnFrom.and (OwnFrom.and (Own.from (holdsRow_own W0.heap.size (w1.heap.size + 1) 22 3 1 (fun pre => (partsN q all pre).length) (fun pre => (partsN q all pre).map (Value.int .i64)) (fun _ _ => True)) _) (OwnFrom.and (OwnFrom.and (Own.from (boxed_own _ _ _) _) (Own.from (boxed_own _ _ _) _)) (OwnFrom.and (Own.from (boxed_own _ _ _) _) (OwnFrom.and (Own.from (boxed_own _ _ _) _) (Own.from (boxed_own _ _ _) _))))) (OwnFrom.and (ownFrom_size _ _) (ownFrom_below (Nat.le_refl _) (by omega))))
    (fun c => ownFrom_pure _ _)
    ⟨⟨⟨_, bO1, World.ownsRow_nil _ _ _ _, trivial⟩, ⟨⟨bL1, bA1⟩, ⟨bQ1, bR1, bE1⟩⟩⟩, ⟨Nat.le_refl _, hB1⟩⟩
    (fun x a' W => ∃ Bx, w1.heap.size < Bx ∧ Blk W Bx 81 #[.int .i64 x.1.2.1, .int .i64 x.1.2.2] ∧ a' = { tmps := #[.int .i64 q, .slice (some ad) zs.length cap, .pointer (some ⟨w.heap.size, 0, none⟩), undef, .pointer (some ⟨w.heap.size + 1, 0, none⟩), .pointer (some ⟨w.heap.size + 1 + 1, 0, none⟩), .pointer (some ⟨w1.heap.size, 0, none⟩), .int .i64 0, .pointer (some ⟨w1.heap.size + 1, 0, none⟩), .pointer (some ⟨w1.heap.size + 1 + 1, 0, none⟩), undef, .pointer (some ⟨Bx, 0, none⟩), undef, undef, .tuple #[.int .i64 all, .int .i64 0], .slice (some ad) zs.length cap, .tuple #[.int .i64 all, .int .i64 0], .int .i64 all, .int .i64 0, .int .i64 0, .bool false, undef, .int .i64 q, .bool (decide (q < 0)), .bool (decide (q < 0)), .int .i64 q, .bool (decide (1099511627776 < q)), .bool (decide (q < 0) || decide (1099511627776 < q)), .slice (some ad) zs.length cap, .func (.func 79) #[] #[.pointer (some ⟨w1.heap.size + 1 + 1 + 1, 0, none⟩)], .int .i64 (x.1.1 : Int), .agg #[.int .i64 x.1.2.1, .int .i64 x.1.2.2], undef, undef, undef, undef, undef, undef, undef, undef, undef, undef, undef, undef, undef, undef, undef, undef, undef, undef, undef, undef, undef, undef], defers := [] })
    (fun x a' _ X Y row hs hg hr => by obtain ⟨Bx, h1, h2, h3⟩ := hs; exact ⟨Bx, h1, blk_own Bx 81 _ () X Y row h2 hg (fun r e => (hr r e).2), h3⟩)
    ?assign ?body ?done ?stop
  case assign =>
    rintro l pre x W K ⟨⟨⟨v, bO, hrow, _⟩, ⟨⟨bL, bA⟩, ⟨bQ, bR, bE⟩⟩⟩, ⟨hsW, hB⟩⟩ hK
    gi_wp2
    exact hK _ _ ((KeepsOthers.alloc _ _).from _) ((Below.refl _ W).alloc hB.size _) ⟨⟨⟨v, bO.alloc _, hrow.alloc _, trivial⟩, ⟨⟨bL.alloc _, bA.alloc _⟩, ⟨bQ.alloc _, bR.alloc _, bE.alloc _⟩⟩⟩, ⟨Nat.le_trans hsW (by simp), hB.alloc hB.size _⟩⟩ ⟨W.heap.size, bA.lt, Blk.new W 81 _, rfl⟩
  case body =>
    rintro l pre ⟨⟨xi, xa, xw⟩, hx⟩ a' W hl ⟨r, hr⟩ ⟨⟨⟨v, bO, hrow, _⟩, ⟨⟨bL, bA⟩, ⟨bQ, bR, bE⟩⟩⟩, ⟨hsW, hB⟩⟩ ⟨Bx, hBx, bX, rfl⟩ hlt
    dsimp only at hx bX ⊢
    obtain ⟨y0, ⟨y1, y2⟩, y3, y4⟩ := hx
    have cQ := bQ.cell
    have cA := bA.cell
    have x0 := bX.cell 0
    have x1 := bX.cell 1
    simp at x0 x1
    have hD : ∀ w0, Calls Try.prog 50 #[.int .i64 q, .int .i64 (xa + xw), .int .i64 all] w0 fun e w' => e = .returned (.tuple #[.int .i64 (fr q (xa + xw) all false).1, .int .i64 (fr q (xa + xw) all false).2]) ∧ Below w0.heap.size w0 w' := fun w0 =>
      checked_Down.calls q (xa + xw) all _ _ w0 (by unfold checked_Down.f; rw [if_pos ⟨by unfold in64; omega, by unfold in64; omega, by unfold in64; omega⟩])
    have hnow : nowOf q all ⟨(xi, xa, xw), ⟨y0, ⟨y1, y2⟩, y3, y4⟩⟩ = (fr q (xa + xw) all false).1 := rfl
    have hps := partsN_snoc q all pre ⟨(xi, xa, xw), ⟨y0, ⟨y1, y2⟩, y3, y4⟩⟩
    have hls := lastN_snoc q all pre ⟨(xi, xa, xw), ⟨y0, ⟨y1, y2⟩, y3, y4⟩⟩
    rw [hnow] at hps hls
    have hpl := partsN_len q all pre
    have hpl2 : (partsN q all pre).length < 64 := by omega
    have HD := Lib.hid hD
    have Hps := Lib.hid hps
    have Hls := Lib.hid hls
    have Hx := Lib.hid bX
    clear hD hps hls hnow bX hpl
    have hww : w.heap.size + 2 < W0.heap.size := by omega
    have hw10 : w1.heap.size + 1 + 1 < W0.heap.size := by omega
    have hw11 : w1.heap.size + 1 < W0.heap.size := by omega
    have hw12 : w1.heap.size < W0.heap.size := by omega
    have keeps : ∀ w5 : World, Below W.heap.size W w5 → KeepsOthers W w5 := fun w5 hb5 => ⟨hb5.size, fun k o hk _ => (hb5.block k (Array.getElem?_eq_some_iff.1 hk).1).trans hk⟩
    have Hkeeps := Lib.hid keeps
    clear keeps
    by_cases he : (fr q (xa + xw) all false).2 = 0
    · rw [he] at HD
      generalize (fr q (xa + xw) all false).1 = p at *
      generalize hLp : lastN q all pre = L at *
      clear hLp he
      gi_wp2_with (first
        | (refine ⟨trivial, ?_⟩; gi_at_call 50; refine (CallsIn.inRound l (callsIn_wide.2 (HD.out _))).mono ?_; rintro e w5 ⟨rfl, hb5⟩; have bO5 := boxed_below bO hb5 bO.lt; have bL5 := boxed_below bL hb5 bL.lt; have bA5 := boxed_below bA hb5 bA.lt; have bQ5 := boxed_below bQ hb5 bQ.lt; have bR5 := boxed_below bR hb5 bR.lt; have bE5 := boxed_below bE hb5 bE.lt; have hrow5 := own_move hrow (fun k hk => hb5.block k (hrow.lt k hk).2); have cO5 := bO5.cell; have cL5 := bL5.cell; have cR5 := bR5.cell; have fR5 := bR5.frozen; have cE5 := bE5.cell; have fE5 := bE5.frozen; have hW5 : W0.heap.size ≤ w5.heap.size := Nat.le_trans hsW hb5.size)
        | (gi_at_builtin; refine wpListIn_append_own _ rfl _ _ 22 rfl W0.heap.size 3 i0 (.int .i64 0) 1 8 Try.underlying22 hi hz0 hz1 hz2 rfl (by decide) _ _ _ rfl (hrow5.alloc _) ⟨w5.heap.size, 0, none⟩ 1 1 [.int .i64 (wrap64 (p - L))] rfl rfl (cell_one_new _ _ _) (by simp [Value.oneCell']) (by unfold maxLen; omega) (by omega) (by simp; omega) ?_; intro v' w6 hown' hgrow _; obtain ⟨g', cap', rfl⟩ := ownsRow_succ hown'; have happ := boxed_appended bO5 (by decide) hrow5 (show w.heap.size ≤ w5.heap.size by omega) (show w.heap.size ≤ W0.heap.size by omega) (show w.heap.size ≤ w1.heap.size + 1 by omega) hown' hgrow; obtain ⟨hv1, hv2, hr2, hk2, hb2⟩ := happ; have hc1 := hv1.cell; have hf1 := hv1.frozen; have bL6 := boxed_grown bL5 hw10 hrow5 hgrow; have cL6 := bL6.cell; have fL6 := bL6.frozen))
      have bA6 := boxed_grown bA5 hw12 hrow5 hgrow
      have bQ6 := boxed_grown bQ5 (show w.heap.size < W0.heap.size by omega) hrow5 hgrow
      have bR6 := boxed_grown bR5 (show w.heap.size + 1 < W0.heap.size by omega) hrow5 hgrow
      have bE6 := boxed_grown bE5 (show w.heap.size + 1 + 1 < W0.heap.size by omega) hrow5 hgrow
      have hsz6 : w5.heap.size ≤ w6.heap.size := by have := hgrow.size; simp at this; omega
      refine ⟨(((Hkeeps.out _ hb5).trans hk2).trans (KeepsOthers.setCell _ _ _)).from _, (((hb5.mono hB.size).trans hb2)).setCell (p := ⟨w1.heap.size + 1 + 1, 0, none⟩) (by show w.heap.size ≤ w1.heap.size + 1 + 1; omega) _, ⟨⟨⟨_, hv2.other (by omega) _, ?_, trivial⟩, ⟨⟨?_, (bA6.other (by omega) _).other (by omega) _⟩, ⟨(bQ6.other (by omega) _).other (by omega) _, ⟨(bR6.other (by omega) _).other (by omega) _, (bE6.other (by omega) _).other (by omega) _⟩⟩⟩⟩, ⟨?_, ?_⟩⟩⟩
      · rw [Hps.out]
        have := row_other hr2 hw10 (.int .i64 p)
        simpa using this
      · rw [Hls.out]
        exact (bL6.other (by omega) _).set _
      · simp; omega
      · exact (hB.trans ((hb5.mono hB.size).trans hb2)).setCell (p := ⟨w1.heap.size + 1 + 1, 0, none⟩) (by show w.heap.size ≤ w1.heap.size + 1 + 1; omega) _
    · generalize (fr q (xa + xw) all false).1 = p at *
      have he2 : ((fr q (xa + xw) all false).2 == 0) = false := by simpa using he
      have He := Lib.hid he
      clear he
      have hIx : ∃ (ini : List Bkt) (last : Bkt), pre ++ [⟨(xi, xa, xw), ⟨y0, ⟨y1, y2⟩, y3, y4⟩⟩] = ini ++ [last] ∧ (fr q (last.1.2.1 + last.1.2.2) all false).2 ≠ 0 := ⟨pre, _, rfl, He.out⟩
      have HIx := Lib.hid hIx
      clear hIx He
      generalize (fr q (xa + xw) all false).2 = e2 at *
      gi_wp2_with (refine ⟨trivial, ?_⟩; gi_at_call 50; refine (CallsIn.inRound l (callsIn_wide.2 (HD.out _))).mono ?_; rintro e w5 ⟨rfl, hb5⟩; have bO5 := boxed_below bO hb5 bO.lt; have bL5 := boxed_below bL hb5 bL.lt; have bA5 := boxed_below bA hb5 bA.lt; have bQ5 := boxed_below bQ hb5 bQ.lt; have bR5 := boxed_below bR hb5 bR.lt; have bE5 := boxed_below bE hb5 bE.lt; have hrow5 := own_move hrow (fun k hk => hb5.block k (hrow.lt k hk).2); have cO5 := bO5.cell; have cL5 := bL5.cell; have cR5 := bR5.cell; have fR5 := bR5.frozen; have cE5 := bE5.cell; have fE5 := bE5.frozen; have hW5 : W0.heap.size ≤ w5.heap.size := Nat.le_trans hsW hb5.size)
      exact ⟨(((Hkeeps.out _ hb5).trans (KeepsOthers.setCell _ _ _)).trans (KeepsOthers.setCell _ _ _)).from _, rfl, HIx.out⟩
  case done =>
    rintro D ys W hD rfl ⟨⟨⟨v, bO, hrow, _⟩, ⟨⟨bL, bA⟩, ⟨bQ, bR, bE⟩⟩⟩, ⟨hsW, hB⟩⟩ hK
    obtain ⟨k, hk⟩ : ∃ k, zs.length = k + 1 := ⟨zs.length - 1, by omega⟩
    have hlen : (partsN q all (upto (bkt zs hz) zs.length)).length = k + 1 := by rw [partsN_len, upto_length, hk]
    have hrowK := hrow
    rw [hlen] at hrowK
    obtain ⟨g', cap', rfl⟩ := ownsRow_succ hrowK
    clear hrowK
    have Hrow := Lib.hid hrow
    clear hrow
    have cO := bO.cell
    have cR := bR.cell
    have fR := bR.frozen
    have cE := bE.cell
    have fE := bE.frozen
    gi_wp2_with fail
    go_wp2_with fail
    have bR2 := (bR.set (.slice (some ⟨g', 0, none⟩) (k + 1) cap')).other (B' := w.heap.size + 1 + 1) (by omega) (.int .i64 0)
    have bE2 := (bE.other (B' := w.heap.size + 1) (by omega) (.slice (some ⟨g', 0, none⟩) (k + 1) cap')).set (.int .i64 0)
    have hr2 := row_other (row_other Hrow.out (show w.heap.size + 1 < W0.heap.size by omega) (.slice (some ⟨g', 0, none⟩) (k + 1) cap')) (show w.heap.size + 1 + 1 < W0.heap.size by omega) (.int .i64 0)
    have hK1 := ((KeepsOthers.setCell W ⟨w.heap.size + 1, 0, none⟩ (.slice (some ⟨g', 0, none⟩) (k + 1) cap')).trans (KeepsOthers.setCell _ ⟨w.heap.size + 1 + 1, 0, none⟩ (.int .i64 0))).same D _ hK rfl
    have hBd := (hB.setCell (p := ⟨w.heap.size + 1, 0, none⟩) (by show w.heap.size ≤ w.heap.size + 1; omega) (.slice (some ⟨g', 0, none⟩) (k + 1) cap')).setCell (p := ⟨w.heap.size + 1 + 1, 0, none⟩) (by show w.heap.size ≤ w.heap.size + 1 + 1; omega) (.int .i64 0)
    generalize (W.setCell ⟨w.heap.size + 1, 0, none⟩ (.slice (some ⟨g', 0, none⟩) (k + 1) cap')).setCell ⟨w.heap.size + 1 + 1, 0, none⟩ (.int .i64 0) = W2 at *
    have hs0 := cell_kept bR2.cell (grownBy_putObj' _ D (.deferred none)) (fun r e => by cases e; exact ⟨_, hK1, rfl⟩)
    have hs1 := cell_kept bE2.cell (grownBy_putObj' _ D (.deferred none)) (fun r e => by cases e; exact ⟨_, hK1, rfl⟩)
    refine ⟨by simp, .inl ⟨_, _, rfl, run_takeDeferred hK1, ?_⟩⟩
    refine ⟨.tuple #[.slice (some ⟨g', 0, none⟩) (k + 1) cap', .int .i64 0], ?_, _, rfl, own_base (ownsRow_putObj hr2 (.deferred none) hK1 rfl) (by omega), hBd.trans (belowK_b (w := w) (Nat.le_refl _) _ D _ _ (by omega) hK1 rfl rfl)⟩
    simp [results, Try.results25, go_sem, hs0, hs1]
  case stop =>
    rintro D c pre W hD ⟨k, hk, rfl⟩ ⟨rfl, ini, last, e1, e2⟩ hK
    exfalso
    obtain ⟨k', rfl⟩ : ∃ k', k = k' + 1 := by
      cases k with
      | zero => simp [upto] at e1
      | succ k' => exact ⟨k', rfl⟩
    rw [upto_succ] at e1
    obtain ⟨rfl, e5⟩ := List.append_inj' e1 rfl
    obtain rfl : bkt zs hz k' = last := by simpa using e5
    exact e2 (Hok.out k' (by omega))
end Go.Proofs.Ytbkoahipcjknfaa.Hand
