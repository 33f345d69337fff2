/- router.Split's own literal: what one offer is given; walked. -/
import Derived.Test.YtadjadakncidgaaRou2
import Derived.Test.YtadjadakncidgaaGrain
import Derived.Test.YtadjadakncidgaaPl
import Derived.Deep.RegionHeld3
import Derived.IntWalk
import Derived.Outline
set_option linter.unusedVariables false
set_option linter.unusedSimpArgs false
namespace Go.Proofs.Ytadjadakncidgaa.Hand
open Go Go.RowKit Go.Proofs.YtadjadakncidgaaW.PrintWords Go.Proofs.YtadjadakncidgaaW.PrintMore Go.Proofs.Ytadjadakncidgaa.RL Go.Proofs.Ytadjadakncidgaa.PL
/-- What one that has this step gets of what is left, no more than so much. -/
def giveV (s m l : Int) : Int := if s = 0 then 0 else (min m l) / s * s
theorem giveV_b {s m l : Int} (hs : 0 ≤ s) (hm : 0 ≤ m) (hl : 0 ≤ l) : 0 ≤ giveV s m l ∧ giveV s m l ≤ l := by
  unfold giveV
  by_cases h : s = 0
  · rw [if_pos h]; omega
  · rw [if_neg h]
    have hx : 0 ≤ (min m l) ∧ (min m l) ≤ l := by omega
    generalize (min m l) = x at *
    have := div_b (n := x) (s := s) (by omega) hx.1
    omega
/-- Two blocks were turned; all else is as it was. -/
def Two (g b : Nat) (W W' : World) : Prop := W.heap.size ≤ W'.heap.size ∧ (∀ x, x < W.heap.size → x ≠ g → x ≠ b → W'.heap[x]? = W.heap[x]?) ∧ ∀ n, n ≤ g → n ≤ b → Below n W W'
theorem Two.refl (g b : Nat) (W : World) : Two g b W W := ⟨Nat.le_refl _, fun _ _ _ _ => rfl, fun n _ _ => Below.refl n W⟩
theorem Two.blk {g b x : Nat} {W W' : World} {t : TypeId} {cs : Array Value} (h : Two g b W W') (hb : Blk W x t cs) (h1 : x ≠ g) (h2 : x ≠ b) : Blk W' x t cs := (h.2.1 x hb.lt h1 h2).trans hb
set_option maxHeartbeats 2000000 in
set_option maxRecDepth 100000 in
theorem give_calls (bs bl bg gg n c i : Nat) (A : Option Addr) (st G : List Int) (most left : Int) (W : World) (hi : i < n) (hn : n ≤ 100) (hst : st.length = n) (hG : G.length = n)
    (hs : Kd.C (Kd.int .i64) W A n st) (hbs : Blk W bs 59 #[.slice A n c]) (hbl : Blk W bl 3 #[.int .i64 left]) (hbg : Blk W bg 59 #[.slice (some ⟨gg, 0, none⟩) n n]) (hgg : Blk W gg 3 (ints G))
    (d1 : bl ≠ gg) (d2 : bs ≠ gg) (d3 : bg ≠ gg) (d4 : bs ≠ bl) (d5 : bg ≠ bl) (hs0 : 0 ≤ st.getD i 0) (hs1 : st.getD i 0 ≤ 1099511627776) (hm0 : 0 ≤ most) (hm1 : most ≤ 1099511627776) (hl0 : 0 ≤ left) (hl1 : left ≤ 1099511627776) (hg0 : 0 ≤ G.getD i 0) (hg1 : G.getD i 0 ≤ 1099511627776) :
    Calls Try.prog 29 #[.int .i64 i, .int .i64 most, .pointer (some ⟨bs, 0, none⟩), .pointer (some ⟨bl, 0, none⟩), .pointer (some ⟨bg, 0, none⟩)] W fun e w' => e = .returned (.tuple #[]) ∧ Blk w' gg 3 (ints (G.set i (G.getD i 0 + giveV (st.getD i 0) most left))) ∧ Blk w' bl 3 #[.int .i64 (left - giveV (st.getD i 0) most left)] ∧ Two gg bl W w' := by
  obtain ⟨ad, cc, rfl, _, hK, hc0⟩ := Kd.C_get hs 0 (i : Int) (by omega) (by omega)
  have e0 : cc = [.int .i64 (st.getD i 0)] := by have h := hK; rw [Int.toNat_natCast] at h; exact h
  subst e0
  have ca : W.cell? (ad.add i) = some (.int .i64 (st.getD i 0)) := by have := hc0 0 _ rfl; simpa [Kd.int, Kd.scalar] using this
  have cg : W.cell? ⟨gg, i, none⟩ = some (.int .i64 (G.getD i 0)) := by rw [hgg.cell i, ints_at G i (by omega)]; simp [hG, hi]
  have hb := giveV_b (m := most) hs0 hm0 hl0
  have c1 : W.cell? ⟨bs, 0, none⟩ = some (.slice (some ad) n c) := hbs.cell 0
  have c2 : W.cell? ⟨bl, 0, none⟩ = some (.int .i64 left) := hbl.cell 0
  have c3 : W.cell? ⟨bg, 0, none⟩ = some (.slice (some ⟨gg, 0, none⟩) n n) := hbg.cell 0
  generalize G.getD i 0 = y at *
  generalize st.getD i 0 = s at *
  by_cases hz : s = 0
  · subst hz
    have e1 : giveV 0 most left = 0 := rfl
    rw [e1]
    have e2 : G.set i (y + 0) = G := by
      have : y = G[i]'(by omega) := by have := cg.symm.trans (hgg.cell i); rw [ints_at G i (by omega)] at this; simpa using this
      rw [Int.add_zero, this]; exact List.set_getElem_self _
    rw [e2, Int.sub_zero]
    have R := Lib.hid (show Blk W gg 3 (ints G) ∧ Blk W bl 3 #[.int .i64 left] from ⟨hgg, hbl⟩)
    clear hs hbs hbl hbg hgg hc0 hK cg e1 e2 hb
    go_enter Try.func29, Try.ntmps29
    go_wp2_with fail
    exact bodyPost_ret (v := .tuple #[]) (by simp [results, Try.results29, go_sem]) rfl ⟨rfl, R.out.1, R.out.2, Two.refl _ _ _⟩
  · have hz' : (s == 0) = false := by simpa using hz
    have e1 : giveV s most left = (min most left) / s * s := by unfold giveV; rw [if_neg hz]
    have hmn : 0 ≤ (min most left) ∧ (min most left) ≤ 1099511627776 := by omega
    have hf : ∀ w, Calls Try.prog 30 #[.int .i64 (min most left), .int .i64 s] w fun e w' => e = .returned (.tuple #[.int .i64 (giveV s most left), .int .i64 0]) ∧ Below w.heap.size w w' := by
      intro w
      refine (grain_Floor.calls _ _ (giveV s most left) 0 w ?_)
      unfold grain_Floor.f
      rw [if_pos (by unfold in64; omega), if_neg (by omega), e1]
    clear e1
    generalize giveV s most left = v at *
    have Hf := Lib.hid hf
    have hbg0 := hbg
    have Hgg := Lib.hid hgg
    have Hbl := Lib.hid hbl
    clear hs hbs hbl hbg hgg hc0 hK hf hmn
    go_enter Try.func29, Try.ntmps29
    go_wp2_with fail
    have hlt1 := Hgg.out.lt
    have hlt2 := Hbl.out.lt
    have Hbg := Lib.hid hbg0
    clear hbg0 c3
    have yz0 : IntKind.i64.wrap (y + v) = y + v := IntWalk.i64_in _ (by omega)
    have lz0 : IntKind.i64.wrap (left - v) = left - v := IntWalk.i64_in _ (by omega)
    go_region_with (go_at_call 30; refine (Hf.out _).mono ?_; rintro e w1 ⟨rfl, hb1⟩; have g1 : Blk w1 gg 3 (ints G) := Blk.below (w := W.drew) Hgg.out hb1 hlt1; have l1 : Blk w1 bl 3 #[.int .i64 left] := Blk.below (w := W.drew) Hbl.out hb1 hlt2; have b1 : Blk w1 bg 59 #[.slice (some ⟨gg, 0, none⟩) n n] := Blk.below (w := W.drew) Hbg.out hb1 Hbg.out.lt; have cg1 : w1.cell? ⟨gg, i, none⟩ = some (.int .i64 y) := (g1.cell i).trans (by rw [← Hgg.out.cell i]; exact cg); have cb1 : w1.cell? ⟨bg, 0, none⟩ = some (.slice (some ⟨gg, 0, none⟩) n n) := b1.cell 0; have fg1 := g1.frozen i; have l2 := (l1.far (p := ⟨gg, i, none⟩) d1 (.int .i64 (y + v))); have cl2 : (w1.setCell ⟨gg, i, none⟩ (.int .i64 (y + v))).cell? ⟨bl, 0, none⟩ = some (.int .i64 left) := l2.cell 0; have fl2 := l2.frozen 0)
    all_goals
      go_wp2_with fail
      go_end0
      refine ⟨rfl, ?_, ?_, ?_⟩
      · rw [← ints_set]; exact (g1.put i _).far (p := ⟨bl, 0, none⟩) (Ne.symm d1) _
      · exact l2.put 0 _
      · refine ⟨?_, ?_, ?_⟩
        · have := hb1.size; simpa [World.setCell] using this
        · intro x hx h1 h2
          exact ((Below.heap_setCell _ ⟨bl, 0, none⟩ _ x h2).trans (Below.heap_setCell _ ⟨gg, i, none⟩ _ x h1)).trans (hb1.block x hx)
        · intro m hm1 hm2
          exact (((pw_below_drewN (Below.refl m W) 1).trans (hb1.mono (Nat.le_trans hm1 (Nat.le_of_lt hlt1)))).setCell (p := ⟨gg, i, none⟩) hm1 _).setCell (p := ⟨bl, 0, none⟩) hm2 _
end Go.Proofs.Ytadjadakncidgaa.Hand
