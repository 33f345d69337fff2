/- router.Split, walked: what the pieces are, in plain words. -/
import Derived.Test.YtadjadakncidgaaRou3
import Derived.Test.YtadjadakncidgaaUx4
import Derived.Test.YtadjadakncidgaaUx7
import Derived.LoopTactic
set_option linter.unusedVariables false
set_option linter.unusedSimpArgs false
namespace Go.Proofs.Ytadjadakncidgaa.Hand
open Go Go.RowKit Go.Proofs.YtadjadakncidgaaW.PrintWords Go.Proofs.YtadjadakncidgaaW.PrintMore Go.Proofs.Ytadjadakncidgaa.RL Go.Proofs.Ytadjadakncidgaa.PL Go.Proofs.Ytadjadakncidgaa.St
abbrev Pie := U.S45
/-- One pass over the offers: what each has got, what is left. -/
def run (st : List Int) (ms : Nat → Int → Int) (G : List Int) (left : Int) : Nat → List Int × Int
  | 0 => (G, left)
  | k + 1 => ((run st ms G left k).1.set k ((run st ms G left k).1.getD k 0 + giveV (st.getD k 0) (ms k (run st ms G left k).2) (run st ms G left k).2), (run st ms G left k).2 - giveV (st.getD k 0) (ms k (run st ms G left k).2) (run st ms G left k).2)
theorem run_len (st : List Int) (ms : Nat → Int → Int) (G : List Int) (left : Int) (k : Nat) : (run st ms G left k).1.length = G.length := by
  induction k with
  | zero => rfl
  | succ k ih => simp only [run, List.length_set]; exact ih
def okG (q : Int) (a : List Int × Int) : Prop := 0 ≤ a.2 ∧ a.2 ≤ q ∧ ∀ i, 0 ≤ a.1.getD i 0 ∧ a.1.getD i 0 + a.2 ≤ q
theorem getD_set0 (L : List Int) (o k : Nat) (x : Int) : (L.set o x).getD k 0 = if k = o ∧ o < L.length then x else L.getD k 0 := by
  by_cases e : k = o
  · subst e
    by_cases h : k < L.length
    · rw [if_pos ⟨rfl, h⟩]; simp [h]
    · rw [if_neg (fun q => h q.2)]; simp [h]
  · rw [if_neg (fun q => e q.1)]; simp [List.getElem?_set, Ne.symm e]
theorem run_ok {q : Int} {st : List Int} {ms : Nat → Int → Int} {G : List Int} {left : Int} (h : okG q (G, left)) (hs : ∀ i, 0 ≤ st.getD i 0) (hm : ∀ k l, 0 ≤ l → l ≤ q → 0 ≤ ms k l) (k : Nat) : okG q (run st ms G left k) := by
  induction k with
  | zero => exact h
  | succ k ih =>
    simp only [run]
    have hb := giveV_b (hs k) (hm k _ ih.1 ih.2.1) ih.1
    generalize giveV (st.getD k 0) (ms k (run st ms G left k).2) (run st ms G left k).2 = v at *
    generalize run st ms G left k = a at *
    obtain ⟨h1, h2, h3⟩ := ih
    refine ⟨by show 0 ≤ a.2 - v; omega, by show a.2 - v ≤ q; omega, fun i => ?_⟩
    show 0 ≤ (a.1.set k (a.1.getD k 0 + v)).getD i 0 ∧ (a.1.set k (a.1.getD k 0 + v)).getD i 0 + (a.2 - v) ≤ q
    rw [getD_set0]
    have := h3 i
    have := h3 k
    split <;> omega
def offD (R : List Off) (k : Nat) : Off := R.getD k U.z35
/-- The pieces: who has got something. -/
def pcs (R : List Off) (G : List Int) : Nat → List Pie
  | 0 => []
  | k + 1 => if 0 < G.getD k 0 then pcs R G k ++ [⟨(offD R k).f0, G.getD k 0⟩] else pcs R G k
theorem pcs_len (R : List Off) (G : List Int) (k : Nat) : (pcs R G k).length ≤ k := by
  induction k with
  | zero => exact Nat.le_refl _
  | succ k ih =>
    simp only [pcs]
    split
    · simp; exact ih
    · omega
def got1 (R : List Off) (st : List Int) (q : Int) : List Int × Int := run st (fun k _ => (offD R k).f3) (List.replicate R.length 0) q R.length
def got2 (R : List Off) (st : List Int) (q : Int) : List Int × Int := run st (fun _ l => l) (got1 R st q).1 (got1 R st q).2 R.length
def splitS (R : List Off) (st : List Int) (q : Int) : List Pie := pcs R (got2 R st q).1 R.length
theorem make_ints0 (n : Nat) (hn : n ≤ 1000) (w : World) : (Instr.makeSlice 59 (.int .i64 n) (.int .i64 n)).run Try.prog w = .ok (.slice (some ⟨w.heap.size, 0, none⟩) n n) (w.alloc (.cells (ints (List.replicate n 0)) 3)) := by
  have info : (Try.prog.info? 3).map (fun i => (i.zero, i.size, i.bytes)) = some (some (.int .i64 0), 1, 8) := by kernel_rfl
  obtain ⟨i0, hi, hz0, hz1, hz2⟩ := info_parts info
  have := run_makeSlice (P := Try.prog) (w := w) 59 3 i0 (.int .i64 0) Try.underlying59 hi hz0 .i64 .i64 (n : Int) (n : Int) (by omega) (Int.le_refl _) (by rw [hz1]; omega) (by rw [hz2]; omega) (by omega)
  rw [this, hz1]
  have e : madeCells (Value.int .i64 0).cells (Int.toNat n * 1) = ints (List.replicate n 0) := by
    unfold ints
    apply Array.ext'
    rw [show (Value.int .i64 0).cells = #[.int .i64 0] from rfl, toList_madeCells_one]
    simp
  rw [e]
  rfl
theorem add_block (x : Addr) (m : Nat) : (x.add m).block = x.block := by unfold Addr.add; split <;> rfl
/-- What was below stays so behind a turn of two blocks. -/
theorem Two.bel {g b B : Nat} {w0 W W' : World} (h : Two g b W W') (hb : Below B w0 W) (h1 : B ≤ g) (h2 : B ≤ b) : Below B w0 W' := hb.trans (h.2.2 B h1 h2)
theorem add_zero (g m : Nat) : (⟨g, 0, none⟩ : Addr).add m = ⟨g, m, none⟩ := by unfold Addr.add; split <;> simp_all
theorem cell_same {w w' : World} {a : Addr} (h : w'.heap[a.block]? = w.heap[a.block]?) : w'.cell? a = w.cell? a := by unfold World.cell?; rw [h]
theorem OffR.same {w w' : World} {g : Nat} {l : List Off} (h : OffR w (some ⟨g, 0, none⟩) l) (he : w'.heap[g]? = w.heap[g]?) : OffR w' (some ⟨g, 0, none⟩) l := by
  intro i hi
  obtain ⟨x, e, c0, c1, c2, c3, c4⟩ := h i hi
  cases e
  exact ⟨_, rfl, (cell_same (a := (⟨g, 0, none⟩ : Addr).add _) (by rw [add_block]; exact he)).trans c0, (cell_same (a := (⟨g, 0, none⟩ : Addr).add _) (by rw [add_block]; exact he)).trans c1, (cell_same (a := (⟨g, 0, none⟩ : Addr).add _) (by rw [add_block]; exact he)).trans c2, (cell_same (a := (⟨g, 0, none⟩ : Addr).add _) (by rw [add_block]; exact he)).trans c3, (cell_same (a := (⟨g, 0, none⟩ : Addr).add _) (by rw [add_block]; exact he)).trans c4⟩
set_option maxHeartbeats 8000000 in
set_option maxRecDepth 100000 in
theorem split_walk (k : Nat) (q lot : Int) (A : Option Addr) (c : Nat) (l : List Off) (st : List Int) (w : World) (hl : Kd.C U.k35 w A l.length l) (hc : l.length ≤ c) (hA : A = none → l.length = 0)
    (hask : U.router_asked.f k q lot l = some 0) (hst : U.router_steps.f k lot (isortB ahd l) = some st) (h8 : l.length ≤ 8) (hsl : st.length = l.length)
    (hs : ∀ i, 0 ≤ st.getD i 0 ∧ st.getD i 0 ≤ 1099511627776) (hq : 0 ≤ q ∧ q ≤ 1099511627776) (hsh : ∀ i, 0 ≤ (offD (isortB ahd l) i).f3 ∧ (offD (isortB ahd l) i).f3 ≤ 1099511627776) :
    Calls Try.prog 14 #[.int .i64 q, .int .i64 lot, .slice A l.length c] w fun e w' => ∃ v0_ : Value, e = .returned (.tuple #[v0_, .int .i64 0]) ∧ Kd.R U.k45 45 w' w.heap.size (fun _ => True) v0_ (splitS (isortB ahd l) st q) ∧ Below w.heap.size w w' := by
  have hRl : (isortB ahd l).length = l.length := isortB_length ahd l
  have h1 := fun w1 (hb : Below w.heap.size w w1) => U.router_asked.calls k q lot A c l 0 w1 (Kd.C_below hl hb) hc hask
  have h2 := fun w1 (hb : Below w.heap.size w w1) => rank_few A c l.length l rfl (by omega) w1 ((offR_of hl).below hb) hA
  have h3 := fun (w1 : World) g c2 (hr : OffR w1 (some ⟨g, 0, none⟩) (isortB ahd l)) (hc2 : l.length ≤ c2) => U.router_steps.calls k lot (some ⟨g, 0, none⟩) c2 (isortB ahd l) st w1 (offR_to (by omega) hr) (by omega) hst
  rw [hRl] at h3
  have hm := fun w => make_ints0 l.length (by omega) w
  have H1 := Lib.hid h1; have H2 := Lib.hid h2; have H3 := Lib.hid h3
  have HRl := Lib.hid hRl; have Hsl := Lib.hid hsl; have Hs := Lib.hid hs; have Hsh := Lib.hid hsh
  clear h1 h2 h3 hl hA hask hst hRl hsl hs hsh
  generalize isortB ahd l = R at *
  generalize hn : l.length = n at *
  clear hn l
  go_enter Try.func14, Try.ntmps14
  go_wp2_with fail
  refine (H1.out _ (Below.refl _ _)).mono ?_
  rintro e w1 ⟨rfl, b1⟩
  go_wp2_with fail
  refine (H2.out _ b1).mono ?_
  rintro e w2 ⟨rfl, o2, b2, z12⟩
  have B2 : Below w.heap.size w w2 := bt b1 b2
  go_wp2_with fail
  refine (H3.out w2 _ _ o2 (Nat.le_refl _)).mono ?_
  rintro e w3 ⟨v3, rfl, hR3, b3⟩
  have r3 : Kd.R (Kd.int .i64) 3 w3 w2.heap.size (fun k => k < w3.heap.size) v3 st := Kd.R_mono (Kd.R_bound hR3) (fun k hk => hk.2.2.1)
  obtain ⟨A2, c2, rfl⟩ := Kd.R_slice hR3
  rw [Hsl.out] at r3 ⊢
  have o3 := o2.below b3
  have z23 := b3.size
  have zw := b1.size
  have B3 : Below w.heap.size w w3 := bt B2 b3
  have O3 := Lib.hid o3; have R3 := Lib.hid r3
  clear hR3 o2 r3 o3 b1 b2 b3 B2 H1 H2 H3 hc
  go_wp2_with fail
  have hbs := (((Blk.new w3 59 #[.slice A2 n c2]).alloc (.cells (ints (List.replicate n 0)) 3)).alloc (.cells #[.slice (some ⟨w3.heap.size + 1, 0, none⟩) n n] 59)).alloc (.cells #[.int .i64 q] 3)
  have hgg := ((Blk.new (w3.alloc (.cells #[.slice A2 n c2] 59)) 3 (ints (List.replicate n 0))).alloc (.cells #[.slice (some ⟨w3.heap.size + 1, 0, none⟩) n n] 59)).alloc (.cells #[.int .i64 q] 3)
  have hbg := (Blk.new ((w3.alloc (.cells #[.slice A2 n c2] 59)).alloc (.cells (ints (List.replicate n 0)) 3)) 59 #[.slice (some ⟨w3.heap.size + 1, 0, none⟩) n n]).alloc (.cells #[.int .i64 q] 3)
  have hbl := Blk.new (((w3.alloc (.cells #[.slice A2 n c2] 59)).alloc (.cells (ints (List.replicate n 0)) 3)).alloc (.cells #[.slice (some ⟨w3.heap.size + 1, 0, none⟩) n n] 59)) 3 #[.int .i64 q]
  simp only [World.size_alloc] at hgg hbg hbl
  have B34 : Below w3.heap.size w3 ((((w3.alloc (.cells #[.slice A2 n c2] 59)).alloc (.cells (ints (List.replicate n 0)) 3)).alloc (.cells #[.slice (some ⟨w3.heap.size + 1, 0, none⟩) n n] 59)).alloc (.cells #[.int .i64 q] 3)) := ((((Below.refl _ w3).alloc (Nat.le_refl _) _).alloc (by simp) _).alloc (by simp; omega) _).alloc (by simp; omega) _
  have O4 := O3.out.below B34
  have R4 := Kd.R_below R3.out B34
  have B4 := bt B3 B34
  generalize ((((w3.alloc (.cells #[.slice A2 n c2] 59)).alloc (.cells (ints (List.replicate n 0)) 3)).alloc (.cells #[.slice (some ⟨w3.heap.size + 1, 0, none⟩) n n] 59)).alloc (.cells #[.int .i64 q] 3)) = W4 at *
  generalize w3.heap.size = z at *
  generalize w1.heap.size = g0 at *
  generalize w2.heap.size = y2 at *
  have hw4 := B4.size
  clear B34 B3 O3 R3 w3 w1 w2 hm
  have hG0 : okG q (List.replicate n 0, q) := ⟨hq.1, Int.le_refl _, fun i => by
    have e : (List.replicate n (0 : Int)).getD i 0 = 0 := by by_cases hi : i < n <;> simp [hi]
    rw [e]; show 0 ≤ 0 ∧ 0 + q ≤ q; omega⟩
  have HG0 := Lib.hid hG0
  clear hG0
  go_loopw [39] (fun i wr => ∃ (k : Nat) (G : List Int) (left : Int), k ≤ n ∧ i = .int .i64 k ∧ Blk wr z 59 #[.slice A2 n c2] ∧ Blk wr (z + 1) 3 (ints G) ∧ Blk wr (z + 1 + 1) 59 #[.slice (some ⟨z + 1, 0, none⟩) n n] ∧ Blk wr (z + 1 + 1 + 1) 3 #[.int .i64 left] ∧ Hid (OffR wr (some ⟨g0, 0, none⟩) R ∧ Kd.R (Kd.int .i64) 3 wr y2 (fun k => k < z) (.slice A2 n c2) st ∧ Below w.heap.size w wr ∧ run st (fun k _ => (offD R k).f3) (List.replicate n 0) q k = (G, left))) (fun i _ => n - (intOf i).toNat)
  case atStart => exact ⟨0, _, _, Nat.zero_le _, rfl, hbs, hgg, hbg, hbl, Lib.hid ⟨O4, R4, B4, rfl⟩⟩
  case round =>
    clear hbs hgg hbg hbl O4 R4 B4
    obtain ⟨k, G, left, hk, rfl, kbs, kgg, kbg, kbl, H⟩ := hrel
    by_cases hlt : k < n
    · obtain ⟨o, r, b, hrun⟩ := H.out
      obtain ⟨x, hx, c0, c1, c2', c3, c4⟩ := o k (by rw [HRl.out]; exact hlt)
      cases hx
      have eo : R[k]'(by rw [HRl.out]; exact hlt) = offD R k := by unfold offD; simp [HRl.out, hlt]
      rw [eo] at c0 c1 c2' c3 c4
      rw [add_zero] at c0 c1 c2' c3 c4
      have q0 : g0 < wr.heap.size := World.block_lt_of_cell? wr _ c0
      have hsr := Hs.out k
      have hsk := Hsh.out k
      have gok := run_ok HG0.out (fun i => (Hs.out i).1) (ms := fun k _ => (offD R k).f3) (fun k l _ _ => (Hsh.out k).1) k
      rw [hrun] at gok
      obtain ⟨gk1, gk2, gk3⟩ := gok
      simp only at gk1 gk2 gk3
      have gk3 := gk3 k
      have gl : G.length = n := by have := run_len st (fun k _ => (offD R k).f3) (List.replicate n 0) q k; rw [hrun] at this; simpa using this
      have hnext : run st (fun k _ => (offD R k).f3) (List.replicate n 0) q (k + 1) = (G.set k (G.getD k 0 + giveV (st.getD k 0) (offD R k).f3 left), left - giveV (st.getD k 0) (offD R k).f3 left) := by simp only [run, hrun]
      have W5b : Below wr.heap.size wr (wr.alloc (.cells #[.int .i64 (offD R k).f0, .int .i64 (offD R k).f1, .int .i64 (offD R k).f2, .int .i64 (offD R k).f3, .bool (offD R k).f4] 35)) := (Below.refl _ _).alloc (Nat.le_refl _) _
      have hc := give_calls z (z + 1 + 1 + 1) (z + 1 + 1) (z + 1) n c2 k A2 st G (offD R k).f3 left _ hlt (by omega) Hsl.out gl (Kd.C_below (by have := (Kd.R_reads' r).2.2; rw [Hsl.out] at this; exact this) W5b) (kbs.below W5b kbs.lt) (kbl.below W5b kbl.lt) (kbg.below W5b kbg.lt) (kgg.below W5b kgg.lt) (by omega) (by omega) (by omega) (by omega) (by omega) hsr.1 hsr.2 hsk.1 hsk.2 gk1 (by omega) gk3.1 (by omega)
      have HC := Lib.hid hc
      have HN := Lib.hid hnext
      have HK := Lib.hid (show Blk wr z _ _ ∧ Blk wr (z + 1 + 1) _ _ ∧ z + 1 + 1 + 1 < wr.heap.size from ⟨kbs, kbg, kbl.lt⟩)
      clear hc hnext gk1 gk2 gk3 gl hsr hsk hrun o r b eo kbs kgg kbg kbl W5b
      go_wp2_with fail
      refine (HC.out).mono ?_
      rintro e w5 ⟨rfl, m1, m2, tt⟩
      obtain ⟨o, r, b, hrun⟩ := H.out
      obtain ⟨kbs, kbg, klt⟩ := HK.out
      have nb := kbs.lt
      have W5b : Below wr.heap.size wr (wr.alloc (.cells #[.int .i64 (offD R k).f0, .int .i64 (offD R k).f1, .int .i64 (offD R k).f2, .int .i64 (offD R k).f3, .bool (offD R k).f4] 35)) := (Below.refl _ _).alloc (Nat.le_refl _) _
      have k1 := tt.blk (kbs.below W5b kbs.lt) (by omega) (by omega)
      have k2 := tt.blk (kbg.below W5b kbg.lt) (by omega) (by omega)
      have o5 := OffR.same (o.below W5b) (tt.2.1 g0 (by simp; omega) (by omega) (by omega))
      have r5 := Kd.R_move (Kd.R_below r W5b) (fun x hx => tt.2.1 x (by simp; omega) (by omega) (by omega))
      have b5 := tt.bel (b.alloc b.size (.cells #[.int .i64 (offD R k).f0, .int .i64 (offD R k).f1, .int .i64 (offD R k).f2, .int .i64 (offD R k).f3, .bool (offD R k).f4] 35)) (by omega) (by omega)
      have HF := Lib.hid (show OffR w5 (some ⟨g0, 0, none⟩) R ∧ Kd.R (Kd.int .i64) 3 w5 y2 (fun k => k < z) (.slice A2 n c2) st ∧ Below w.heap.size w w5 ∧ _ from ⟨o5, r5, b5, HN.out⟩)
      clear W5b o r b hrun kbs kbg nb tt o5 r5 b5 HK HN HC H c0 c1 c2' c3 c4
      go_wp2_with fail
      go_roundw
      case rel => exact ⟨k + 1, _, _, by omega, by go_num, k1, m1, k2, m2, HF⟩
      case measure => simp [intOf]; omega
    · obtain rfl : k = n := by omega
      obtain ⟨o, r, b, hrun⟩ := H.out
      have hg1 : got1 R st q = (G, left) := by unfold got1; rw [HRl.out]; exact hrun
      have gok1 := run_ok HG0.out (fun i => (Hs.out i).1) (ms := fun k _ => (offD R k).f3) (fun k l _ _ => (Hsh.out k).1) k
      rw [hrun] at gok1
      have gl0 : G.length = k := by have := run_len st (fun k _ => (offD R k).f3) (List.replicate k 0) q k; rw [hrun] at this; simpa using this
      have O5 := Lib.hid o; have R5 := Lib.hid r; have B5 := Lib.hid b
      have Hg1 := Lib.hid hg1; have Gok1 := Lib.hid gok1; have Gl0 := Lib.hid gl0
      clear o r b hrun hg1 gok1 gl0 H hlt hk
      have hw5 := kbl.lt
      go_wp2_with fail
      go_loopw [52] (fun i wr => ∃ (j : Nat) (G2 : List Int) (left2 : Int), j ≤ k ∧ i = .int .i64 j ∧ Blk wr z 59 #[.slice A2 k c2] ∧ Blk wr (z + 1) 3 (ints G2) ∧ Blk wr (z + 1 + 1) 59 #[.slice (some ⟨z + 1, 0, none⟩) k k] ∧ Blk wr (z + 1 + 1 + 1) 3 #[.int .i64 left2] ∧ Hid (OffR wr (some ⟨g0, 0, none⟩) R ∧ Kd.R (Kd.int .i64) 3 wr y2 (fun k => k < z) (.slice A2 k c2) st ∧ Below w.heap.size w wr ∧ run st (fun _ l => l) G left j = (G2, left2))) (fun i _ => k - (intOf i).toNat)
      case atStart => exact ⟨0, _, _, Nat.zero_le _, rfl, kbs, kgg, kbg, kbl, Lib.hid ⟨O5.out, R5.out, B5.out, rfl⟩⟩
      case round =>
        clear kbs kgg kbg kbl O5 R5 B5
        obtain ⟨j, G2, left2, hj, rfl, kbs, kgg, kbg, kbl, H⟩ := hrel
        by_cases hlt : j < k
        · obtain ⟨o, r, b, hrun⟩ := H.out
          have hsr := Hs.out j
          have gok := run_ok Gok1.out (fun i => (Hs.out i).1) (ms := fun _ l => l) (fun k l h _ => h) j
          rw [hrun] at gok
          obtain ⟨gk1, gk2, gk3⟩ := gok
          simp only at gk1 gk2 gk3
          have gk3 := gk3 j
          have gl : G2.length = k := by have := run_len st (fun _ l => l) G left j; rw [hrun] at this; rw [this]; exact Gl0.out
          have hnext : run st (fun _ l => l) G left (j + 1) = (G2.set j (G2.getD j 0 + giveV (st.getD j 0) left2 left2), left2 - giveV (st.getD j 0) left2 left2) := by simp only [run, hrun]
          have hc := give_calls z (z + 1 + 1 + 1) (z + 1 + 1) (z + 1) k c2 j A2 st G2 left2 left2 _ hlt (by omega) Hsl.out gl (by have := (Kd.R_reads' r).2.2; rw [Hsl.out] at this; exact this) kbs kbl kbg kgg (by omega) (by omega) (by omega) (by omega) (by omega) hsr.1 hsr.2 gk1 (by omega) gk1 (by omega) gk3.1 (by omega)
          have HC := Lib.hid hc
          have HN := Lib.hid hnext
          have HK := Lib.hid (show Blk wr z _ _ ∧ Blk wr (z + 1 + 1) _ _ ∧ z + 1 + 1 + 1 < wr.heap.size from ⟨kbs, kbg, kbl.lt⟩)
          have cl : wr.cell? ⟨z + 1 + 1 + 1, 0, none⟩ = some (.int .i64 left2) := kbl.cell 0
          clear hc hnext gk1 gk2 gk3 gl hsr hrun o r b kbs kgg kbg kbl
          go_wp2_with fail
          refine (HC.out).mono ?_
          rintro e w5 ⟨rfl, m1, m2, tt⟩
          obtain ⟨o, r, b, hrun⟩ := H.out
          obtain ⟨kbs, kbg, klt⟩ := HK.out
          have nb := kbs.lt
          have k1 := tt.blk kbs (by omega) (by omega)
          have k2 := tt.blk kbg (by omega) (by omega)
          have o5 := OffR.same o (tt.2.1 g0 (by omega) (by omega) (by omega))
          have r5 := Kd.R_move r (fun x hx => tt.2.1 x (by omega) (by omega) (by omega))
          have b5 := tt.bel b (by omega) (by omega)
          have HF := Lib.hid (show OffR w5 (some ⟨g0, 0, none⟩) R ∧ Kd.R (Kd.int .i64) 3 w5 y2 (fun k => k < z) (.slice A2 k c2) st ∧ Below w.heap.size w w5 ∧ _ from ⟨o5, r5, b5, HN.out⟩)
          clear o r b hrun kbs kbg nb tt o5 r5 b5 HK HN HC H cl
          go_wp2_with fail
          go_roundw
          case rel => exact ⟨j + 1, _, _, by omega, by go_num, k1, m1, k2, m2, HF⟩
          case measure => simp [intOf]; omega
        · obtain rfl : j = k := by omega
          obtain ⟨o, r, b, hrun⟩ := H.out
          have hg2 : (got2 R st q).1 = G2 := by unfold got2; rw [Hg1.out, HRl.out]; simp only [hrun]
          have gl : G2.length = j := by have := run_len st (fun _ l => l) G left j; rw [hrun] at this; rw [this]; exact Gl0.out
          have O6 := Lib.hid o; have B6 := Lib.hid b
          have Hg2 := Lib.hid hg2; have Gl := Lib.hid gl
          clear o r b hrun hg2 gl H hlt hj kbs kbl Gl0 Gok1 Hg1 HG0
          go_wp2_with fail
          have Hbs : Hid (wr.heap.size = wr.heap.size) := Lib.hid rfl
          have zg := kgg.lt
          have zb := kbg.lt
          obtain ⟨base, hbase⟩ : ∃ b : Nat, b = wr.heap.size := ⟨_, rfl⟩
          have hB0 : base ≤ wr.heap.size := Nat.le_of_eq hbase
          have zg' : z + 1 + 1 < base := by omega
          have zw' : w.heap.size ≤ base := by omega
          clear hbase zg zb Hbs hw5 hw4
          have info45 : (Try.prog.info? 45).map (fun i => (i.zero, i.size, i.bytes)) = some (some (.agg #[.int .i64 0, .int .i64 0]), 2, 16) := by kernel_rfl
          have Hinf := Lib.hid info45
          clear info45
          go_loopw [17, 62] (fun v i wq => ∃ m : Nat, m ≤ j ∧ i = .int .i64 m ∧ Blk wq (z + 1) 3 (ints G2) ∧ Blk wq (z + 1 + 1) 59 #[.slice (some ⟨z + 1, 0, none⟩) j j] ∧ base ≤ wq.heap.size ∧ Hid (OffR wq (some ⟨g0, 0, none⟩) R ∧ Kd.R U.k45 45 wq base (fun _ => True) v (pcs R G2 m) ∧ Below w.heap.size w wq)) (fun _ i _ => j - (intOf i).toNat)
          case atStart => exact ⟨0, Nat.zero_le _, rfl, kgg, kbg, hB0, Lib.hid ⟨O6.out, Kd.R_nil _ _ _ _ _, B6.out⟩⟩
          case round =>
            clear kgg kbg O6 B6 hB0
            obtain ⟨m, hm, rfl, kgg, kbg, hB, H⟩ := hrel
            by_cases hlt : m < j
            · obtain ⟨o, r, b⟩ := H.out
              obtain ⟨x, hx, c0, c1, c2', c3, c4⟩ := o m (by rw [HRl.out]; exact hlt)
              cases hx
              have eo : R[m]'(by rw [HRl.out]; exact hlt) = offD R m := by unfold offD; simp [HRl.out, hlt]
              rw [eo] at c0 c1 c2' c3 c4
              rw [add_zero] at c0 c1 c2' c3 c4
              have q0 : g0 < wr.heap.size := World.block_lt_of_cell? wr _ c0
              have W5b : Below wr.heap.size wr (wr.alloc (.cells #[.int .i64 (offD R m).f0, .int .i64 (offD R m).f1, .int .i64 (offD R m).f2, .int .i64 (offD R m).f3, .bool (offD R m).f4] 35)) := (Below.refl _ _).alloc (Nat.le_refl _) _
              have kbx := Blk.new wr 35 #[.int .i64 (offD R m).f0, .int .i64 (offD R m).f1, .int .i64 (offD R m).f2, .int .i64 (offD R m).f3, .bool (offD R m).f4]
              have k1 := kgg.below W5b kgg.lt
              have k2 := kbg.below W5b kbg.lt
              have o5 := o.below W5b
              have r5 := Kd.R_below r W5b
              have b5 := b.alloc b.size (.cells #[.int .i64 (offD R m).f0, .int .i64 (offD R m).f1, .int .i64 (offD R m).f2, .int .i64 (offD R m).f3, .bool (offD R m).f4] 35)
              have e2 : (wr.alloc (.cells #[.int .i64 (offD R m).f0, .int .i64 (offD R m).f1, .int .i64 (offD R m).f2, .int .i64 (offD R m).f3, .bool (offD R m).f4] 35)).cell? ⟨z + 1 + 1, 0, none⟩ = some (.slice (some ⟨z + 1, 0, none⟩) j j) := k2.cell 0
              have e3 : (wr.alloc (.cells #[.int .i64 (offD R m).f0, .int .i64 (offD R m).f1, .int .i64 (offD R m).f2, .int .i64 (offD R m).f3, .bool (offD R m).f4] 35)).cell? ⟨z + 1, m, none⟩ = some (.int .i64 (G2.getD m 0)) := (k1.cell m).trans (by rw [ints_at G2 m (by rw [Gl.out]; exact hlt)]; simp [Gl.out, hlt])
              have O5 := Lib.hid o5; have R5 := Lib.hid r5; have B5 := Lib.hid b5; have K1 := Lib.hid k1; have K2 := Lib.hid k2; have KX := Lib.hid kbx
              clear o r b o5 r5 b5 eo W5b k1 k2 kgg kbg kbx
              by_cases hp : 0 < G2.getD m 0
              · have hpc : pcs R G2 (m + 1) = pcs R G2 m ++ [⟨(offD R m).f0, G2.getD m 0⟩] := by simp only [pcs]; rw [if_pos hp]
                have HP := Lib.hid hpc
                clear hpc
                generalize G2.getD m 0 = gv at *
                go_wp2_with fail
                generalize hW5 : (wr.alloc (.cells #[.int .i64 (offD R m).f0, .int .i64 (offD R m).f1, .int .i64 (offD R m).f2, .int .i64 (offD R m).f3, .bool (offD R m).f4] 35)) = W5 at *
                have hB5 : base ≤ W5.heap.size := by rw [← hW5]; simp; omega
                generalize wr.heap.size = bx at *
                have kx0 : W5.cell? ⟨bx, 0, none⟩ = some (.int .i64 (offD R m).f0) := KX.out.cell 0
                clear hW5 KX
                have hlen : (pcs R G2 m).length ≤ m := pcs_len R G2 m
                go_region_law (refine Kd.R_append_step U.k45 (w0 := W5.drew) (W := W5.drew) base (by rfl) (.tmp 72) (.tmp 80) 38 45 (.agg #[.int .i64 0, .int .i64 0]) 16 rfl Try.underlying38 Hinf.out rfl (by decide) (by omega) u17 (pcs R G2 m) (⟨(offD R m).f0, gv⟩ : Pie) [.int .i64 (offD R m).f0, .int .i64 gv] (fun _ => True) (fun _ => False) rfl rfl (U.k45_mkM _ _ _ _) (fun _ hk => hk.elim) (fun _ _ => trivial) (Kd.R_move R5.out (fun _ _ => rfl)) (Below.refl base _) hB5 (by omega) ?_; intro v1 w6 ho hb hg hat)
                all_goals
                  have k1 : Blk w6 (z + 1) 3 (ints G2) := Blk.below (w := W5.drew) K1.out hb (by omega)
                  have k2 : Blk w6 (z + 1 + 1) 59 #[.slice (some ⟨z + 1, 0, none⟩) j j] := Blk.below (w := W5.drew) K2.out hb zg'
                  have o6 : OffR w6 (some ⟨g0, 0, none⟩) R := OffR.same (w := W5) O5.out (hb.block g0 (by omega))
                  have b6 : Below w.heap.size w w6 := (pw_below_drewN B5.out 1).trans (hb.mono zw')
                  have s6 : base ≤ w6.heap.size := Nat.le_trans hB5 hb.size
                  have HF := Lib.hid (show OffR w6 (some ⟨g0, 0, none⟩) R ∧ Kd.R U.k45 45 w6 base (fun _ => True) v1 (pcs R G2 (m + 1)) ∧ Below w.heap.size w w6 from ⟨o6, by rw [HP.out]; exact ho, b6⟩)
                  clear O5 R5 B5 K1 K2 HP ho hb hg hat o6 b6 hB5 kx0 e2 e3
                  go_wp2_with fail
                  go_roundw
                  case rel => exact ⟨m + 1, by omega, by go_num, k1, k2, s6, HF⟩
                  case measure => simp [intOf]; omega
              · have hpc : pcs R G2 (m + 1) = pcs R G2 m := by simp only [pcs]; rw [if_neg hp]
                have HP := Lib.hid hpc
                clear hpc
                generalize G2.getD m 0 = gv at *
                go_wp2_with fail
                have hB5 : base ≤ (wr.alloc (.cells #[.int .i64 (offD R m).f0, .int .i64 (offD R m).f1, .int .i64 (offD R m).f2, .int .i64 (offD R m).f3, .bool (offD R m).f4] 35)).heap.size := by simp; omega
                go_roundw
                case rel => exact ⟨m + 1, by omega, by go_num, K1.out, K2.out, hB5, Lib.hid ⟨O5.out, by rw [HP.out]; exact R5.out, B5.out⟩⟩
                case measure => simp [intOf]; omega
            · obtain rfl : m = j := by omega
              have H' := H.out
              clear kgg kbg
              go_wp2_with fail
              go_ret2
              obtain ⟨o, r, b⟩ := H'
              refine ⟨_, rfl, ?_, b⟩
              have e : splitS R st q = pcs R G2 m := by unfold splitS; rw [Hg2.out, HRl.out]
              rw [e]
              exact Kd.R_lower r zw'
end Go.Proofs.Ytadjadakncidgaa.Hand
