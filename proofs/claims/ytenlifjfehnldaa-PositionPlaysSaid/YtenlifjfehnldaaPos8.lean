/- position: a move of the law's, over a table. -/
import Derived.Test.YtenlifjfehnldaaPl18
set_option linter.unusedVariables false
set_option linter.unusedSimpArgs false
namespace Go.Proofs.Ytenlifjfehnldaa.Hand
open Go Go.RowKit Go.Proofs.YtenlifjfehnldaaW.PrintWords Go.Proofs.YtenlifjfehnldaaW.PrintMore Go.Proofs.Ytenlifjfehnldaa.RL Go.Proofs.Ytenlifjfehnldaa.PL
theorem Moved.pre {g : Nat} {L : List Int} {W w w' : World} (hb : Below W.heap.size W w) (hg : g < W.heap.size) (h : Moved g L w w') : Moved g L W w' :=
  ⟨h.1, Nat.le_trans hb.size h.2.1, fun x hx hne => (h.2.2.1 x (Nat.lt_of_lt_of_le hx hb.size) hne).trans (hb.block x hx), fun n hn => (hb.mono (Nat.le_trans hn (Nat.le_of_lt hg))).trans (h.2.2.2 n hn)⟩
set_option maxHeartbeats 4000000 in
set_option maxRecDepth 100000 in
theorem lmove_any (P : Value) (i j sd q pr r : Int) (bk : Bool) (W : World) (R : World → World → Prop)
    (hm : ∀ w : World, Below W.heap.size W w → Calls Try.prog 33 #[P, .int .i64 i, .int .i64 j, .int .i64 sd, .agg #[.int .i64 q, .int .i64 pr], .bool bk] w fun e w' => e = .returned (.int .i64 r) ∧ R w w') :
    Calls Try.prog 9 #[P, .agg #[.int .i64 i, .int .i64 j, .int .i64 sd, .int .i64 q, .int .i64 pr, .bool bk]] W fun e w' => e = .returned (.int .i64 r) ∧ ∃ w, Below W.heap.size W w ∧ R w w' := by
  have Hm := Lib.hid hm
  have Hb := Lib.hid ((Below.refl W.heap.size W).alloc (Nat.le_refl _) (.cells #[.int .i64 i, .int .i64 j, .int .i64 sd, .int .i64 q, .int .i64 pr, .bool bk] 30))
  clear hm
  cases bk
  · go_enter Try.func9, Try.ntmps9
    go_wp2_with (go_at_call 16; refine (fill_calls _ _ _ _ _ _ _ _ _ (Hm.out _ Hb.out)).mono ?_; rintro e w1 ⟨rfl, hr⟩)
    go_ret
    exact ⟨rfl, _, Hb.out, hr⟩
  · go_enter Try.func9, Try.ntmps9
    go_wp2_with (go_at_call 23; refine (bust_calls _ _ _ _ _ _ _ _ _ (Hm.out _ Hb.out)).mono ?_; rintro e w1 ⟨rfl, hr⟩)
    go_ret
    exact ⟨rfl, _, Hb.out, hr⟩
/-- The law's Op as a value. -/
def opV (x : Ex) : Value := .agg #[.int .i64 x.1, .int .i64 x.2.1, .int .i64 x.2.2.1, .int .i64 x.2.2.2.1, .int .i64 x.2.2.2.2.1, .bool x.2.2.2.2.2]
abbrev posC (a s g : Nat) : Array Value := #[.int .i64 a, .int .i64 s, .slice (some ⟨g, 0, none⟩) (a * s) (a * s)]
theorem lmove_is (p g a s : Nat) (L : List Int) (i j sd q pr : Int) (bk : Bool) (W : World) (ha : 1 ≤ a) (ha2 : a ≤ 16) (hs : 1 ≤ s) (hs2 : s ≤ 16) (hL : L.length = a * s * 4) (hin : inP L)
    (hp : Blk W p 48 (posC a s g)) (hg : Blk W g 71 (ints L)) (hpg : p ≠ g) :
    Calls Try.prog 9 #[.pointer (some ⟨p, 0, none⟩), .agg #[.int .i64 i, .int .i64 j, .int .i64 sd, .int .i64 q, .int .i64 pr, .bool bk]] W fun e w' => e = .returned (.int .i64 (mvx a s L (i, j, sd, q, pr, bk)).1) ∧ Moved g (mvx a s L (i, j, sd, q, pr, bk)).2 W w' := by
  refine (lmove_any _ i j sd q pr _ bk W (fun w w' => Moved g (mvx a s L (i, j, sd, q, pr, bk)).2 w w') fun w hb => move_is p g a s L i j sd q pr bk w ha ha2 hs hs2 hL hin (hp.below hb hp.lt) (hg.below hb hg.lt) hpg).mono ?_
  rintro e w' ⟨h, w, hb, hm⟩
  exact ⟨h, Moved.pre hb hg.lt hm⟩
theorem at_tab (p g a s i j : Nat) (hi : i < a) (hj : j < s) (ha : a ≤ 16) (hs : s ≤ 16) (W : World) (hp : Blk W p 48 (posC a s g)) :
    Calls Try.prog 25 #[.pointer (some ⟨p, 0, none⟩), .int .i64 i, .int .i64 j] W fun e w' => e = .returned (.pointer (some ⟨g, (i * s + j) * 4, none⟩)) ∧ Drawn0 W w' :=
  at_ok p g a s i j (a * s) rfl hi hj ha hs W hp
theorem tab_lt {a s i j : Nat} (hi : i < a) (hj : j < s) : i * s + j < a * s := by
  have e : (i + 1) * s ≤ a * s := Nat.mul_le_mul_right s hi
  rw [Nat.add_mul, Nat.one_mul] at e
  omega
theorem bought_tab (p g a s i j : Nat) (L : List Int) (hi : i < a) (hj : j < s) (ha : a ≤ 16) (hs : s ≤ 16) (hL : L.length = a * s * 4) (W : World) (hp : Blk W p 48 (posC a s g)) (hg : Blk W g 71 (ints L)) :
    Calls Try.prog 11 #[.pointer (some ⟨p, 0, none⟩), .int .i64 i, .int .i64 j] W fun e w' => e = .returned (.tuple #[.int .i64 (L.getD ((i * s + j) * 4) 0), .int .i64 (L.getD ((i * s + j) * 4 + 1) 0)]) ∧ Drawn0 W w' := by
  have := tab_lt hi hj
  exact bought_ok _ i j _ _ g (i * s + j) W (at_tab p g a s i j hi hj ha hs W hp) ((hg.cell _).trans (ints_get (by omega))) ((hg.cell _).trans (ints_get (by omega)))
theorem sold_tab (p g a s i j : Nat) (L : List Int) (hi : i < a) (hj : j < s) (ha : a ≤ 16) (hs : s ≤ 16) (hL : L.length = a * s * 4) (W : World) (hp : Blk W p 48 (posC a s g)) (hg : Blk W g 71 (ints L)) :
    Calls Try.prog 12 #[.pointer (some ⟨p, 0, none⟩), .int .i64 i, .int .i64 j] W fun e w' => e = .returned (.tuple #[.int .i64 (L.getD ((i * s + j) * 4 + 2) 0), .int .i64 (L.getD ((i * s + j) * 4 + 3) 0)]) ∧ Drawn0 W w' := by
  have := tab_lt hi hj
  exact sold_ok _ i j _ _ g (i * s + j) W (at_tab p g a s i j hi hj ha hs W hp) ((hg.cell _).trans (ints_get (by omega))) ((hg.cell _).trans (ints_get (by omega)))
end Go.Proofs.Ytenlifjfehnldaa.Hand
