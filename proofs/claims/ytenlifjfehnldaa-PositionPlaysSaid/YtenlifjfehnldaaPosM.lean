/- The document's list of executions: May, Move walked. -/
import Derived.Test.YtenlifjfehnldaaPosS
set_option linter.unusedVariables false
set_option linter.unusedSimpArgs false
namespace Go.Proofs.Ytenlifjfehnldaa.Hand
open Go Go.RowKit Go.Proofs.YtenlifjfehnldaaW.PrintWords Go.Proofs.YtenlifjfehnldaaW.PrintMore Go.Proofs.YtenlifjfehnldaaW.PrintLast Go.Proofs.Ytenlifjfehnldaa.RL Go.Proofs.Ytenlifjfehnldaa.PL
def mayZ (z : Int) : Bool := decide (0 ≤ z ∧ z ≤ 9223372036854775807)
set_option maxHeartbeats 1000000 in
theorem may_walk (z : Int) (hz : small z) (A : Option Addr) (c b0 : Nat) (w : World) (h0 : Num w b0 z A c) :
    Calls Try.prog 22 #[numV z A c] w fun e w' => e = .returned (.bool (mayZ z)) ∧ Below w.heap.size w w' := by
  have hI := Lib.hid (show ∀ w1, Below w.heap.size w w1 → _ from fun w1 hb => num_int z hz A c b0 w1 (h0.below hb))
  have hB := Lib.hid ((Below.refl w.heap.size w).alloc (Nat.le_refl _) (.cells #[.bool (enc z).1, .slice A (enc z).2.length c] 51))
  have hv : (intV z).2 = decide (in64 z) := intV_ok z
  have hv2 : in64 z → (intV z).1 = z := fun h => by rw [intV_in h]
  have hm : mayZ z = ((intV z).2 && decide ((intV z).1 ≥ 0)) := by
    by_cases h : in64 z
    · rw [hv, hv2 h, decide_eq_true h]
      unfold mayZ in64 at *
      rw [Bool.true_and, decide_eq_decide]; omega
    · rw [hv, decide_eq_false h]
      unfold mayZ in64 at *
      rw [Bool.false_and, decide_eq_false_iff_not]; omega
  rw [hm]
  clear hm hv hv2 h0
  unfold numV at *
  generalize (intV z).2 = b at *
  generalize (intV z).1 = v at *
  cases b
  all_goals
    go_enter Try.func22, Try.ntmps22
    go_wp2_with fail
    refine (hI.out _ hB.out).mono ?_
    rintro e w2 ⟨rfl, b2⟩
    go_wp2_with fail
    go_ret
    exact ⟨by simp, bt hB.out b2⟩
/-- What becomes of the list by an execution that may be. -/
def moveR (x : Ex) (l : List Ex) : List Ex × Int := if (mayZ (sm (qOf x.1 x.2.1 x.2.2.1) (l ++ [x])) && mayZ (sm (wOf x.1 x.2.1 x.2.2.1) (l ++ [x])) && mayZ (x.2.2.2.1 * x.2.2.2.2.1)) = true then (l ++ [x], 0) else (l, 10)
theorem fin_no {w w' : World} {b c n : Nat} {A : Option Addr} {l M : List Ex} {f : Int} (hn : l.length = n) (hk : l = M ∧ 10 = f) (hC : Kd.C kE w' A n l) (hc : n ≤ c) (hb : Below b w w') :
    ∃ A' c', Ending.returned (.tuple #[.slice A n c, .int .i64 10]) = .returned (.tuple #[.slice A' M.length c', .int .i64 f]) ∧ Kd.C kE w' A' M.length M ∧ M.length ≤ c' ∧ Below b w w' := by
  obtain ⟨rfl, rfl⟩ := hk; subst hn
  exact ⟨A, c, rfl, hC, hc, hb⟩
theorem fin_yes {w w' : World} {b c n e : Nat} {A : Option Addr} {L1 M : List Ex} {f : Int} {base : Nat} {ok : Nat → Prop} (hn : L1.length = n) (hk : L1 = M ∧ 0 = f) (hR : Kd.R kE e w' base ok (.slice A L1.length c) L1) (hb : Below b w w') :
    ∃ A' c', Ending.returned (.tuple #[.slice A n c, .int .i64 0]) = .returned (.tuple #[.slice A' M.length c', .int .i64 f]) ∧ Kd.C kE w' A' M.length M ∧ M.length ≤ c' ∧ Below b w w' := by
  obtain ⟨rfl, rfl⟩ := hk; subst hn
  have h := Kd.R_reads' hR
  exact ⟨A, c, rfl, h.2.2, h.2.1, hb⟩
theorem Blk.on {w w' : World} {g : Nat} {t : TypeId} {cs : Array Value} (h : Blk w g t cs) (hb : Below w.heap.size w w') : Blk w' g t cs := h.below hb h.lt
/-- An execution may be, of so many accounts and symbols. -/
def okR (a s : Int) (x : Ex) : Prop := (0 ≤ x.1 ∧ x.1 < a ∧ 0 ≤ x.2.1 ∧ x.2.1 < s) ∧ (1 ≤ x.2.2.1 ∧ x.2.2.1 ≤ 2) ∧ rngE x
set_option maxHeartbeats 4000000 in
set_option maxRecDepth 100000 in
theorem rmove_no (a s : Int) (x : Ex) (hx : ¬ okR a s x) (A : Option Addr) (c n : Nat) (w : World) :
    Calls Try.prog 8 #[.slice A n c, .int .i64 a, .int .i64 s, .agg (cE x).toArray] w fun e w' => e = .returned (.tuple #[.slice A n c, .int .i64 2]) ∧ Below w.heap.size w w' := by
  obtain ⟨xi, xj, xs, xq, xp, xb⟩ := x
  dsimp only [okR, rngE] at hx
  unfold cE
  have hB := Lib.hid ((Below.refl w.heap.size w).alloc (Nat.le_refl _) (.cells #[.int .i64 xi, .int .i64 xj, .int .i64 xs, .int .i64 xq, .int .i64 xp, .bool xb] 33))
  have HX := Lib.hid hx
  clear hx
  go_enter Try.func8, Try.ntmps8
  go_wp2_with fail
  all_goals first
    | exact bodyPost_ret (v := .tuple #[.slice A n c, .int .i64 2]) (by simp [results, Try.results8, go_sem]) rfl ⟨rfl, hB.out⟩
    | (exfalso; have h := HX.out; omega)
set_option maxHeartbeats 4000000 in
set_option maxRecDepth 100000 in
theorem rmove_walk (a s : Int) (x : Ex) (hx : okR a s x) (A : Option Addr) (c n : Nat) (l M : List Ex) (f : Int) (hM : moveR x l = (M, f)) (hn : l.length = n) (hn2 : n ≤ 100) (hr : ∀ x ∈ l, rngE x) (w : World) (hl : Kd.C kE w A n l) (hc : n ≤ c) :
    Calls Try.prog 8 #[.slice A n c, .int .i64 a, .int .i64 s, .agg (cE x).toArray] w fun e w' => ∃ A' c', e = .returned (.tuple #[.slice A' M.length c', .int .i64 f]) ∧ Kd.C kE w' A' M.length M ∧ M.length ≤ c' ∧ Below w.heap.size w w' := by
  obtain ⟨xi, xj, xs, xq, xp, xb⟩ := x
  unfold moveR at hM
  dsimp only [okR, rngE] at hx
  dsimp only at hM
  have HM1 := Lib.hid hM
  clear hM
  obtain ⟨⟨h1, h2, h3, h4⟩, ⟨h5, h6⟩, ⟨h7, h8⟩, h9, h10⟩ := hx
  unfold cE
  have hB := Lib.hid ((Below.refl w.heap.size w).alloc (Nat.le_refl _) (.cells #[.int .i64 xi, .int .i64 xj, .int .i64 xs, .int .i64 xq, .int .i64 xp, .bool xb] 33))
  have hX := Lib.hid (Blk.new w 33 #[.int .i64 xi, .int .i64 xj, .int .i64 xs, .int .i64 xq, .int .i64 xp, .bool xb])
  have hL := Lib.hid (Kd.C_below hl hB.out)
  have hs0 : w.heap.size ≤ (w.alloc (.cells #[.int .i64 xi, .int .i64 xj, .int .i64 xs, .int .i64 xq, .int .i64 xp, .bool xb] 33)).heap.size := hB.out.size
  have HC0 := Lib.hid (show ∀ w', Below w.heap.size w w' → Kd.C kE w' A n l from fun w' h => Kd.C_below hl h)
  clear hl
  go_enter Try.func8, Try.ntmps8
  have hinf : (Try.prog.info? 33).map (fun i => (i.zero, i.size, i.bytes)) = some (some (.agg #[.int .i64 0, .int .i64 0, .int .i64 0, .int .i64 0, .int .i64 0, .bool false]), 6, 48) := by kernel_rfl
  have Hinf := Lib.hid hinf
  have hKM : ∀ x cs, kE.K (w.alloc (.cells #[.int .i64 xi, .int .i64 xj, .int .i64 xs, .int .i64 xq, .int .i64 xp, .bool xb] 33)) x cs → kE.M (w.alloc (.cells #[.int .i64 xi, .int .i64 xj, .int .i64 xs, .int .i64 xq, .int .i64 xp, .bool xb] 33)) w.heap.size (fun _ => False) x cs := fun x cs h => by rw [kE_open h]; exact kE_mkM _ _ _ _
  have HKM := Lib.hid hKM
  clear hinf hKM
  go_upto_region 3 with (fail)
  generalize (w.alloc (.cells #[.int .i64 xi, .int .i64 xj, .int .i64 xs, .int .i64 xq, .int .i64 xp, .bool xb] 33)) = W5 at *
  have xl := hX.out.lt
  generalize hbw : w.heap.size = b at *
  have HBW := Lib.hid hbw
  clear hbw
  go_upto_region 5 with (at_builtin; (refine Kd.R_append_rows kE (w0 := w) b rfl (.tmp 65) (.tmp 66) 28 33 (.agg #[.int .i64 0, .int .i64 0, .int .i64 0, .int .i64 0, .int .i64 0, .bool false]) 48 rfl Try.underlying28 Hinf.out rfl (by decide) (by omega) (.slice none 0 0) [] l A n c (fun _ => True) (fun _ => False) rfl rfl (Kd.R_nil _ _ _ _ _) hL.out HKM.out (fun _ hk => hk.elim) (fun _ _ => trivial) hB.out hs0 (by simp; omega) ?_); intro v1 w6 ho hb hg hat)
  have g6 := hX.out.same (hg.block b xl (by simp [Value.ownBlock]))
  have x0 : w6.cell? ⟨b, 0, none⟩ = some (.int .i64 xi) := g6.cell 0
  have x1 : w6.cell? ⟨b, 1, none⟩ = some (.int .i64 xj) := g6.cell 1
  have x2 : w6.cell? ⟨b, 2, none⟩ = some (.int .i64 xs) := g6.cell 2
  have x3 : w6.cell? ⟨b, 3, none⟩ = some (.int .i64 xq) := g6.cell 3
  have x4 : w6.cell? ⟨b, 4, none⟩ = some (.int .i64 xp) := g6.cell 4
  have x5 : w6.cell? ⟨b, 5, none⟩ = some (.bool xb) := g6.cell 5
  rw [List.nil_append] at ho
  have hb6 : b ≤ w6.heap.size := Nat.le_of_lt g6.lt
  have hne : some b ≠ v1.ownBlock := by
    rcases hat with h | ⟨k, h, hk⟩
    · rw [h]; simp [Value.ownBlock]
    · rw [h]; intro q; injection q with q; omega
  have G6 := Lib.hid g6
  clear hat hg hX hL HKM g6
  go_wp2_with (at_builtin; (refine Kd.R_append kE (w0 := w) b rfl (.tmp 68) (.tmp 70) 28 33 (.agg #[.int .i64 0, .int .i64 0, .int .i64 0, .int .i64 0, .int .i64 0, .bool false]) 48 rfl Try.underlying28 Hinf.out rfl (by decide) (by omega) v1 l (xi, xj, xs, xq, xp, xb) [.int .i64 xi, .int .i64 xj, .int .i64 xs, .int .i64 xq, .int .i64 xp, .bool xb] (fun _ => True) (fun _ => False) rfl rfl (kE_mkM _ _ _ (xi, xj, xs, xq, xp, xb)) (fun _ hk => hk.elim) (fun _ _ => trivial) ho hb hb6 (by omega) ?_); intro v2 w7 ho2 hb2 hg2 hat2; have G7 := Lib.hid (G6.out.same (hg2.block b G6.out.lt hne)); obtain ⟨A2, c2, rfl⟩ := Kd.R_slice ho2; clear x0 x1 x2 x3 x4 x5 ho hb hg2 hat2 hne G6; have x0 : w7.cell? ⟨b, 0, none⟩ = some (.int .i64 xi) := G7.out.cell 0; have x1 : w7.cell? ⟨b, 1, none⟩ = some (.int .i64 xj) := G7.out.cell 1; have x2 : w7.cell? ⟨b, 2, none⟩ = some (.int .i64 xs) := G7.out.cell 2)
  have hr1 : ∀ x ∈ l ++ [(xi, xj, xs, xq, xp, xb)], rngE x := by
    intro x hx
    rcases List.mem_append.1 hx with h | h
    · exact hr x h
    · rw [List.mem_singleton.1 h]; exact ⟨⟨h7, h8⟩, h9, h10⟩
  have hsQ : small (sm (qOf xi xj xs) (l ++ [(xi, xj, xs, xq, xp, xb)])) := sm_smallQ hr1 (by simp; omega)
  have hsV : small (sm (wOf xi xj xs) (l ++ [(xi, xj, xs, xq, xp, xb)])) := sm_smallW hr1 (by simp; omega)
  have hrd := Kd.R_reads' ho2
  have HS := Lib.hid (sum_walk xi xj xs A2 c2 (n + 1) (l ++ [(xi, xj, xs, xq, xp, xb)]) (by simp [hn]) (by omega) hr1 w7 (by have := hrd.2.2; simp only [List.length_append, List.length_singleton, hn] at this; exact this) (by have := hrd.2.1; simp only [List.length_append, List.length_singleton, hn] at this; exact this))
  have R7 := Lib.hid ho2
  have B7 := Lib.hid hb2
  clear hrd ho2 hb2
  generalize sm (qOf xi xj xs) (l ++ [(xi, xj, xs, xq, xp, xb)]) = Q at *
  generalize sm (wOf xi xj xs) (l ++ [(xi, xj, xs, xq, xp, xb)]) = V at *
  refine HS.out.mono ?_
  rintro e w8 ⟨A3, c3, A4, c4, rfl, n3, n4, b8⟩
  dsimp only [numV]
  clear HS
  have k0 : Below w8.heap.size w8 ((w8.alloc (.cells #[.bool (enc Q).1, .slice A3 (enc Q).2.length c3] 51)).alloc (.cells #[.bool (enc V).1, .slice A4 (enc V).2.length c4] 51)) := ((Below.refl _ _).alloc (Nat.le_refl _) _).alloc (by simp) _
  have gq := (Blk.new w8 51 #[.bool (enc Q).1, .slice A3 (enc Q).2.length c3]).alloc (.cells #[.bool (enc V).1, .slice A4 (enc V).2.length c4] 51)
  have gv := Blk.new (w8.alloc (.cells #[.bool (enc Q).1, .slice A3 (enc Q).2.length c3] 51)) 51 #[.bool (enc V).1, .slice A4 (enc V).2.length c4]
  rw [show (w8.alloc (.cells #[.bool (enc Q).1, .slice A3 (enc Q).2.length c3] 51)).heap.size = w8.heap.size + 1 by simp] at gv
  have nq := n3.below k0
  have nv := n4.below k0
  have b9 := bt b8 k0
  have g9 := G7.out.on b9
  have R9 := Lib.hid (Kd.R_below R7.out b9)
  have B9 := Lib.hid (B7.out.trans (b9.mono (Nat.le_of_lt G7.out.lt)))
  go_upto_region 7 with (fail)
  generalize ((w8.alloc (.cells #[.bool (enc Q).1, .slice A3 (enc Q).2.length c3] 51)).alloc (.cells #[.bool (enc V).1, .slice A4 (enc V).2.length c4] 51)) = W9 at *
  generalize w8.heap.size = gQ at *
  have GQ := Lib.hid gq; have GV := Lib.hid gv; have NQ := Lib.hid nq; have NV := Lib.hid nv; have G9 := Lib.hid g9
  clear gq gv nq nv g9 k0 n3 n4 b8 b9 R7 B7 G7 x0 x1 x2
  have keepS : ∀ w', Below W9.heap.size W9 w' → w'.cell? ⟨b, 3, none⟩ = some (.int .i64 xq) ∧ w'.cell? ⟨b, 4, none⟩ = some (.int .i64 xp) ∧ Below W9.heap.size W9 w' :=
    fun w' h => ⟨(G9.out.on h).cell 3, (G9.out.on h).cell 4, h⟩
  have HM := Lib.hid (show ∀ W A5 c5 b5 A6 c6 b6, Num W b5 xq A5 c5 → Num W b6 xp A6 c6 → _ from fun W A5 c5 b5 A6 c6 b6 n5 n6 => num_mul xq xp (small_of (by omega)) (small_of (by omega)) A5 A6 c5 c6 b5 b6 W n5 n6)
  have HO1 := Lib.hid (show ∀ W, _ from fun W => num_of xq (by unfold in64; omega) W)
  have HO2 := Lib.hid (show ∀ W, _ from fun W => num_of xp (by unfold in64; omega) W)
  have KS := Lib.hid keepS
  obtain ⟨k0, k1, k2⟩ := keepS W9 (Below.refl _ _)
  clear keepS k2
  go_cut [13] from 83 to 89 (fun v wx => ∃ g A c, v = .pointer (some ⟨g, 0, none⟩) ∧ Hid (Below W9.heap.size W9 wx ∧ W9.heap.size ≤ g ∧ Blk wx g 51 (numC (xq * xp) A c) ∧ Num wx W9.heap.size (xq * xp) A c))
  case first =>
    go_region_held3 (fun w' => w'.cell? ⟨b, 3, none⟩ = some (.int .i64 xq) ∧ w'.cell? ⟨b, 4, none⟩ = some (.int .i64 xp) ∧ Below W9.heap.size W9 w')
      (first
        | exact KS.out _ (by repeat (first | exact Below.refl _ _ | assumption | apply pw_below_drewN | apply below_drew1 | apply below_alloc | refine bt ?_ hb1 | refine bt ?_ hb2 | refine bt ?_ hb3 | refine Below.setCell ?_ (by show W9.heap.size ≤ _; first | exact Nat.le_refl _ | exact (bt (bt (pw_below_drewN (Below.refl _ _) _) hb1) hb2).size | exact (bt (pw_below_drewN (Below.refl _ _) _) hb1).size) _)))
      (first
        | (go_at_call 21; (with_reducible refine (HO1.out _).mono ?_); rintro e wa ⟨A5, c5, rfl, n5, hb1⟩; dsimp only [numV]; first | (have u := bcell_newd hb1 0; have v := bcell_newd hb1 1; obtain ⟨u0, i0, is⟩ := u; obtain ⟨u1, i1, _⟩ := v; simp at u0 u1 i0 i1) | (have u := bcell_new hb1 0; have v := bcell_new hb1 1; obtain ⟨u0, i0, is⟩ := u; obtain ⟨u1, i1, _⟩ := v; simp at u0 u1 i0 i1) | skip)
        | (go_at_call 21; (with_reducible refine (HO2.out _).mono ?_); rintro e wb ⟨A6, c6, rfl, n6, hb2⟩; dsimp only [numV]; first | (have y0 := ((bcell hb2).1 _ 0 is).trans u0; have y1 := ((bcell hb2).1 _ 1 is).trans u1; have j0 := ((bcell hb2).2 _ 0 is).trans i0; have j1 := ((bcell hb2).2 _ 1 is).trans i1; have js := Nat.lt_of_lt_of_le is hb2.size) | (have u := bcell_newd hb2 0; have v := bcell_newd hb2 1; obtain ⟨y0, j0, js⟩ := u; obtain ⟨y1, j1, _⟩ := v; simp at y0 y1 j0 j1) | (have u := bcell_new hb2 0; have v := bcell_new hb2 1; obtain ⟨y0, j0, js⟩ := u; obtain ⟨y1, j1, _⟩ := v; simp at y0 y1 j0 j1) | skip)
        | (go_at_call 20; refine (HM.out _ A5 c5 _ A6 c6 _ (n5.below (by repeat (first | exact Below.refl _ _ | apply pw_below_drewN | apply below_drew1 | apply below_alloc | refine bt ?_ hb2))) (n6.below (by repeat (first | exact Below.refl _ _ | apply pw_below_drewN | apply below_drew1 | apply below_alloc | refine bt ?_ hb2)))).mono ?_; rintro e w3 ⟨A7, c7, rfl, n7, hb3⟩; dsimp only [numV]; first | (have z0 := ((bcell hb3).1 _ 0 js).trans y0; have z1 := ((bcell hb3).1 _ 1 js).trans y1; have k0' := ((bcell hb3).2 _ 0 js).trans j0; have k1' := ((bcell hb3).2 _ 1 js).trans j1) | (have u := bcell_newd hb3 0; have v := bcell_newd hb3 1; obtain ⟨z0, k0', _⟩ := u; obtain ⟨z1, k1', _⟩ := v; simp at z0 z1 k0' k1') | (have u := bcell_new hb3 0; have v := bcell_new hb3 1; obtain ⟨z0, k0', _⟩ := u; obtain ⟨z1, k1', _⟩ := v; simp at z0 z1 k0' k1') | skip))
    all_goals (go_wp2_with fail; go_meet)
    all_goals
      first
        | exact ⟨_, A7, c7, rfl, Lib.hid (num_new (bt (bt (bt (pw_below_drewN (Below.refl _ _) 1) hb1) hb2) hb3) n7 (bt (bt (pw_below_drewN (Below.refl _ _) 1) hb1) hb2).size)⟩
        | exact ⟨_, A7, c7, rfl, Lib.hid (num_put (bt (below_alloc (bt (bt (pw_below_drewN (Below.refl _ _) 1) hb1) hb2) _) hb3) ((Blk.new _ _ #[.bool false, .slice none 0 0]).below hb3 (alloc_lt _ _)) rfl (bt (bt (pw_below_drewN (Below.refl _ _) 1) hb1) hb2).size n7 (below_alloc (bt (bt (pw_below_drewN (Below.refl _ _) 1) hb1) hb2) _).size)⟩
        | exact ⟨_, A7, c7, rfl, Lib.hid (num_put (bt (bt (below_alloc (bt (pw_below_drewN (Below.refl _ _) 1) hb1) _) hb2) hb3) (((Blk.new wa 51 #[.bool false, .slice none 0 0]).on hb2).on hb3) rfl (bt (pw_below_drewN (Below.refl _ _) 1) hb1).size n7 (bt (below_alloc (bt (pw_below_drewN (Below.refl _ _) 1) hb1) _) hb2).size)⟩
        | exact ⟨_, A7, c7, rfl, Lib.hid (num_put (bt (bt (bt (pw_below_drewN (below_alloc (Below.refl _ _) _) 1) hb1) hb2) hb3) ((((show Blk (W9.alloc (.cells #[.bool false, .slice none 0 0] 51)).drew W9.heap.size 51 #[.bool false, .slice none 0 0] from Blk.new W9 _ _).on hb1).on hb2).on hb3) rfl (Nat.le_refl _) n7 (bt (bt (pw_below_drewN (below_alloc (Below.refl _ _) _) 1) hb1) hb2).size)⟩
  case rest =>
    obtain ⟨g1, A7, c7, rfl, HC⟩ := hcut
    have hb9 : b ≤ W9.heap.size := Nat.le_of_lt G9.out.lt
    have GQ1 := Lib.hid (GQ.out.on HC.out.1)
    have GV1 := Lib.hid (GV.out.on HC.out.1)
    have NQ1 := Lib.hid (NQ.out.below HC.out.1)
    have NV1 := Lib.hid (NV.out.below HC.out.1)
    have R1 := Lib.hid (Kd.R_below R9.out HC.out.1)
    have B1 := Lib.hid (B9.out.trans (HC.out.1.mono hb9))
    have hwc : b ≤ wc.heap.size := Nat.le_trans hb9 HC.out.1.size
    clear GQ GV NQ NV R9 B9 G9 HM HO1 HO2 KS k0 k1
    have hsO : small (xq * xp) := small_of (by have := prodE_bnd ⟨h7, h8⟩ ⟨h9, h10⟩; omega)
    have HQ := Lib.hid (show ∀ W, Below wc.heap.size wc W → _ from fun W h => may_walk Q hsQ A3 c3 _ W (NQ1.out.below h))
    have HV := Lib.hid (show ∀ W, Below wc.heap.size wc W → _ from fun W h => may_walk V hsV A4 c4 _ W (NV1.out.below h))
    have HO := Lib.hid (show ∀ W, Below wc.heap.size wc W → _ from fun W h => may_walk (xq * xp) hsO A7 c7 _ W (HC.out.2.2.2.below h))
    have y0 : wc.cell? ⟨gQ, 0, none⟩ = some (.bool (enc Q).1) := GQ1.out.cell 0
    have y1 : wc.cell? ⟨gQ, 1, none⟩ = some (.slice A3 (enc Q).2.length c3) := GQ1.out.cell 1
    have y2 : wc.cell? ⟨gQ + 1, 0, none⟩ = some (.bool (enc V).1) := GV1.out.cell 0
    have y3 : wc.cell? ⟨gQ + 1, 1, none⟩ = some (.slice A4 (enc V).2.length c4) := GV1.out.cell 1
    have y4 : wc.cell? ⟨g1, 0, none⟩ = some (.bool (enc (xq * xp)).1) := HC.out.2.2.1.cell 0
    have y5 : wc.cell? ⟨g1, 1, none⟩ = some (.slice A7 (enc (xq * xp)).2.length c7) := HC.out.2.2.1.cell 1
    have HG1 := Lib.hid HC.out.2.2.1
    clear HC NQ1 NV1 hsO
    generalize mayZ Q = bq at *
    generalize mayZ V = bv at *
    generalize mayZ (xq * xp) = bo at *
    cases bq with
    | false =>
      go_wp2_with fail
      refine (HQ.out _ (Below.refl _ _)).mono ?_
      rintro e w10 ⟨rfl, b10⟩
      go_wp2_with fail
      have WB := B1.out.trans (b10.mono hwc)
      exact bodyPost_ret (v := .tuple #[.slice A n c, .int .i64 10]) (by simp [results, Try.results8, go_sem]) rfl (fin_no hn (by have h := HM1.out; simp at h; exact h) (HC0.out _ WB) hc (by rw [HBW.out]; exact WB))
    | true =>
      go_wp2_with fail
      refine (HQ.out _ (Below.refl _ _)).mono ?_
      rintro e w10 ⟨rfl, b10⟩
      have y2 : w10.cell? ⟨gQ + 1, 0, none⟩ = some (.bool (enc V).1) := (GV1.out.on b10).cell 0
      have y3 : w10.cell? ⟨gQ + 1, 1, none⟩ = some (.slice A4 (enc V).2.length c4) := (GV1.out.on b10).cell 1
      cases bv with
      | false =>
        go_wp2_with fail
        refine (HV.out _ b10).mono ?_
        rintro e w11 ⟨rfl, b11⟩
        go_wp2_with fail
        have WB := B1.out.trans ((bt b10 b11).mono hwc)
        exact bodyPost_ret (v := .tuple #[.slice A n c, .int .i64 10]) (by simp [results, Try.results8, go_sem]) rfl (fin_no hn (by have h := HM1.out; simp at h; exact h) (HC0.out _ WB) hc (by rw [HBW.out]; exact WB))
      | true =>
        go_wp2_with fail
        refine (HV.out _ b10).mono ?_
        rintro e w11 ⟨rfl, b11⟩
        have y4 : w11.cell? ⟨g1, 0, none⟩ = some (.bool (enc (xq * xp)).1) := (HG1.out.on (bt b10 b11)).cell 0
        have y5 : w11.cell? ⟨g1, 1, none⟩ = some (.slice A7 (enc (xq * xp)).2.length c7) := (HG1.out.on (bt b10 b11)).cell 1
        cases bo with
        | false =>
          go_wp2_with fail
          refine (HO.out _ (bt b10 b11)).mono ?_
          rintro e w12 ⟨rfl, b12⟩
          go_wp2_with fail
          have WB := B1.out.trans ((bt (bt b10 b11) b12).mono hwc)
          exact bodyPost_ret (v := .tuple #[.slice A n c, .int .i64 10]) (by simp [results, Try.results8, go_sem]) rfl (fin_no hn (by have h := HM1.out; simp at h; exact h) (HC0.out _ WB) hc (by rw [HBW.out]; exact WB))
        | true =>
          go_wp2_with fail
          refine (HO.out _ (bt b10 b11)).mono ?_
          rintro e w12 ⟨rfl, b12⟩
          go_wp2_with fail
          have WC := bt (bt b10 b11) b12
          have WB := B1.out.trans (WC.mono hwc)
          exact bodyPost_ret (v := .tuple #[.slice A2 (n + 1) c2, .int .i64 0]) (by simp [results, Try.results8, go_sem]) rfl (fin_yes (show (l ++ [(xi, xj, xs, xq, xp, xb)]).length = n + 1 by rw [List.length_append, hn]; rfl) (by have h := HM1.out; simp at h; exact h) (Kd.R_below R1.out WC) (by rw [HBW.out]; exact WB))
end Go.Proofs.Ytenlifjfehnldaa.Hand
