/- PositionNone: of positions that are none there is nothing; no condition. -/
import Derived.Test.YthnmpnilcdnimaaPos3
import Derived.LoopTactic
set_option linter.unusedVariables false
set_option linter.unusedSimpArgs false
namespace Go.Proofs.Ythnmpnilcdnimaa.Walk
open Go Go.RowKit Go.Proofs.YthnmpnilcdnimaaW.PrintWords Go.Proofs.YthnmpnilcdnimaaW.PrintMore Go.Proofs.Ythnmpnilcdnimaa.Hand Go.Proofs.Ythnmpnilcdnimaa.PL
set_option maxHeartbeats 4000000 in
set_option maxRecDepth 100000 in
theorem lmove_none (P : Value) (i j sd q pr : Int) (bk : Bool) (W : World)
    (hm : ∀ (bk : Bool) (w : World), Below W.heap.size W w → Calls Try.prog 67 #[P, .int .i64 i, .int .i64 j, .int .i64 sd, .agg #[.int .i64 q, .int .i64 pr], .bool bk] w fun e w' => e = .returned (.int .i64 1) ∧ Below w.heap.size w w') :
    Calls Try.prog 18 #[P, .agg #[.int .i64 i, .int .i64 j, .int .i64 sd, .int .i64 q, .int .i64 pr, .bool bk]] W fun e w' => e = .returned (.int .i64 1) ∧ Below W.heap.size W w' := by
  have Hm := Lib.hid hm
  have Hb := Lib.hid ((Below.refl W.heap.size W).alloc (Nat.le_refl _) (.cells #[.int .i64 i, .int .i64 j, .int .i64 sd, .int .i64 q, .int .i64 pr, .bool bk] 30))
  clear hm
  cases bk
  · go_enter Try.func18, Try.ntmps18
    go_wp2_with (go_at_call 45; refine (fill_calls _ _ _ _ _ _ _ _ _ (Hm.out false _ Hb.out)).mono ?_; rintro e w1 ⟨rfl, hb1⟩)
    go_ret
    exact ⟨rfl, bt Hb.out hb1⟩
  · go_enter Try.func18, Try.ntmps18
    go_wp2_with (go_at_call 51; refine (bust_calls _ _ _ _ _ _ _ _ _ (Hm.out true _ Hb.out)).mono ?_; rintro e w1 ⟨rfl, hb1⟩)
    go_ret
    exact ⟨rfl, bt Hb.out hb1⟩
set_option maxHeartbeats 4000000 in
set_option maxRecDepth 100000 in
theorem PositionNone (a0_0 : Int) (a0_1 : Int) (a0_2 : Int) (a0_3 : Int) (a0_4 : Int) (a0_5 : Bool) (W : World) (w0_0 : (Lit.int .i64 a0_0).wf = true) (w0_1 : (Lit.int .i64 a0_1).wf = true) (w0_2 : (Lit.int .i64 a0_2).wf = true) (w0_3 : (Lit.int .i64 a0_3).wf = true) (w0_4 : (Lit.int .i64 a0_4).wf = true) :
    Calls Try.prog 4 #[.agg #[.int .i64 a0_0, .int .i64 a0_1, .int .i64 a0_2, .int .i64 a0_3, .int .i64 a0_4, .bool a0_5]] W fun e W' => e = .returned (.bool true) ∧ Below W.heap.size W W' := by
  have haw := fun w => awake18 w
  have Haw := Lib.hid haw
  clear haw w0_0 w0_1 w0_2 w0_3 w0_4
  have hO := Lib.hid (Blk.new W 30 #[.int .i64 a0_0, .int .i64 a0_1, .int .i64 a0_2, .int .i64 a0_3, .int .i64 a0_4, .bool a0_5])
  go_enter Try.func4, Try.ntmps4
  go_wp2_with fail
  refine (Haw.out _).mono ?_
  rintro e w1 ⟨rfl, hb1⟩
  have O1 := Blk.below hO.out hb1 hO.out.lt
  have hB1 : Below W.heap.size W w1 := bt ((Below.refl W.heap.size W).alloc (Nat.le_refl _) _) hb1
  go_wp2_with fail
  have Z1 := (Blk.new w1 39 #[.int .i64 0, .int .i64 0, .slice none 0 0]).alloc (.cells #[.pointer none, .pointer (some ⟨w1.heap.size, 0, none⟩)] 24)
  have L1 := Blk.new (w1.alloc (.cells #[.int .i64 0, .int .i64 0, .slice none 0 0] 39)) 24 #[.pointer none, .pointer (some ⟨w1.heap.size, 0, none⟩)]
  simp only [World.size_alloc] at L1
  have O2 := (O1.alloc (.cells #[.int .i64 0, .int .i64 0, .slice none 0 0] 39)).alloc (.cells #[.pointer none, .pointer (some ⟨w1.heap.size, 0, none⟩)] 24)
  have B2 := (hB1.alloc hB1.size (.cells #[.int .i64 0, .int .i64 0, .slice none 0 0] 39)).alloc (by have := hB1.size; simp; omega) (.cells #[.pointer none, .pointer (some ⟨w1.heap.size, 0, none⟩)] 24)
  clear hb1 O1 hB1 Haw hO
  generalize ((w1.alloc (.cells #[.int .i64 0, .int .i64 0, .slice none 0 0] 39)).alloc (.cells #[.pointer none, .pointer (some ⟨w1.heap.size, 0, none⟩)] 24)) = W2 at *
  generalize w1.heap.size = g at *
  generalize hob : W.heap.size = ob at *
  go_loopw [17] (fun i wr => ∃ k : Nat, k ≤ 2 ∧ i = .int .i64 k ∧ Blk wr g 39 #[.int .i64 0, .int .i64 0, .slice none 0 0] ∧ Blk wr (g + 1) 24 #[.pointer none, .pointer (some ⟨g, 0, none⟩)] ∧ Blk wr ob 30 #[.int .i64 a0_0, .int .i64 a0_1, .int .i64 a0_2, .int .i64 a0_3, .int .i64 a0_4, .bool a0_5] ∧ Below ob W wr) (fun i _ => 2 - (intOf i).toNat)
  case atStart => exact ⟨0, by omega, rfl, Z1, L1, O2, B2⟩
  case round =>
    obtain ⟨k, hk, rfl, z, l, o, b⟩ := hrel
    have hz0 : wr.cell? ⟨g, 0, none⟩ = some (.int .i64 0) := z.cell 0
    have hz1 : wr.cell? ⟨g, 1, none⟩ = some (.int .i64 0) := z.cell 1
    have hl0 : wr.cell? ⟨g + 1, 0, none⟩ = some (.pointer none) := l.cell 0
    have hl1 : wr.cell? ⟨g + 1, 1, none⟩ = some (.pointer (some ⟨g, 0, none⟩)) := l.cell 1
    have o0 : wr.cell? ⟨ob, 0, none⟩ = some (.int .i64 a0_0) := o.cell 0
    have o1 : wr.cell? ⟨ob, 1, none⟩ = some (.int .i64 a0_1) := o.cell 1
    have o2 : wr.cell? ⟨ob, 2, none⟩ = some (.int .i64 a0_2) := o.cell 2
    have o3 : wr.cell? ⟨ob, 3, none⟩ = some (.int .i64 a0_3) := o.cell 3
    have o4 : wr.cell? ⟨ob, 4, none⟩ = some (.int .i64 a0_4) := o.cell 4
    have o5 : wr.cell? ⟨ob, 5, none⟩ = some (.bool a0_5) := o.cell 5
    have hk3 : k = 0 ∨ k = 1 ∨ k = 2 := by omega
    rcases hk3 with rfl | rfl | rfl
    · go_wp2_with (first
        | (go_at_call 20; refine (bought_no _ _ _ _ (at_nil _ _ _)).mono ?_; rintro e w' ⟨rfl, rfl⟩)
        | (go_at_call 21; refine (sold_no _ _ _ _ (at_nil _ _ _)).mono ?_; rintro e w' ⟨rfl, rfl⟩)
        | (go_at_call 18; refine (lmove_none _ _ _ _ _ _ _ _ (fun bk w _ => move_nil _ _ _ _ _ bk w)).mono ?_; rintro e w4 ⟨rfl, hb4⟩; have z4 := Blk.below z hb4 z.lt; have l4 := Blk.below l hb4 l.lt; have O4 := Blk.below o hb4 o.lt; have q0 := (O4.cell 0).trans (show _ = some (.int .i64 a0_0) from rfl); have q1 := (O4.cell 1).trans (show _ = some (.int .i64 a0_1) from rfl))
        | (go_at_call 22; refine (net_no _ _ _ _ (bought_no _ _ _ _ (at_nil _ _ _)) (sold_no _ _ _ _ (at_nil _ _ _))).mono ?_; rintro e w' ⟨rfl, rfl⟩))
      exact ⟨⟨1, by omega, rfl, z4, l4, O4, b.trans (hb4.mono (by rw [← hob]; exact b.size))⟩, by simp [intOf]⟩
    · go_wp2_with (first
        | (go_at_call 20; refine (bought_no _ _ _ _ (at_no g 0 0 _ _ (.inl (by omega)) (by omega) (by omega) _ hz0 hz1)).mono ?_; rintro e w' ⟨rfl, rfl⟩)
        | (go_at_call 21; refine (sold_no _ _ _ _ (at_no g 0 0 _ _ (.inl (by omega)) (by omega) (by omega) _ hz0 hz1)).mono ?_; rintro e w' ⟨rfl, rfl⟩)
        | (go_at_call 18; refine (lmove_none _ _ _ _ _ _ _ _ (fun bk w hw => move_empty g _ _ _ _ _ bk w ((Blk.below z hw z.lt).cell 0))).mono ?_; rintro e w4 ⟨rfl, hb4⟩; have z4 := Blk.below z hb4 z.lt; have l4 := Blk.below l hb4 l.lt; have O4 := Blk.below o hb4 o.lt; have y0 := (z4.cell 0).trans (show _ = some (.int .i64 0) from rfl); have y1 := (z4.cell 1).trans (show _ = some (.int .i64 0) from rfl); have q0 := (O4.cell 0).trans (show _ = some (.int .i64 a0_0) from rfl); have q1 := (O4.cell 1).trans (show _ = some (.int .i64 a0_1) from rfl))
        | (go_at_call 22; refine (net_no _ _ _ _ (bought_no _ _ _ _ (at_no g 0 0 _ _ (.inl (by omega)) (by omega) (by omega) _ y0 y1)) (sold_no _ _ _ _ (at_no g 0 0 _ _ (.inl (by omega)) (by omega) (by omega) _ y0 y1))).mono ?_; rintro e w' ⟨rfl, rfl⟩))
      exact ⟨⟨2, by omega, rfl, z4, l4, O4, b.trans (hb4.mono (by rw [← hob]; exact b.size))⟩, by simp [intOf]⟩
    · go_wp2
      go_ret
      exact ⟨rfl, hob ▸ b⟩
end Go.Proofs.Ythnmpnilcdnimaa.Walk
