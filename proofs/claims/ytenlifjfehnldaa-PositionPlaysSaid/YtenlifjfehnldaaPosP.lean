/- The table and the document's list say the same. -/
import Derived.Test.YtenlifjfehnldaaPosM
set_option linter.unusedVariables false
set_option linter.unusedSimpArgs false
namespace Go.Proofs.Ytenlifjfehnldaa.Hand
open Go Go.RowKit Go.Proofs.YtenlifjfehnldaaW.PrintWords Go.Proofs.YtenlifjfehnldaaW.PrintMore Go.Proofs.Ytenlifjfehnldaa.RL Go.Proofs.Ytenlifjfehnldaa.PL
instance (a s : Int) (x : Ex) : Decidable (okR a s x) := by unfold okR rngE; infer_instance
def inT (a s : Nat) (i j sd : Int) : Prop := (0 ≤ i ∧ i < a ∧ 0 ≤ j ∧ j < s) ∧ 1 ≤ sd ∧ sd ≤ 2
/-- The table holds the list's sums. -/
structure Tie (a s : Nat) (L : List Int) (l : List Ex) : Prop where
  len : L.length = a * s * 4
  ok : ∀ x ∈ l, okR a s x
  pos : inP L
  val : ∀ i j sd, inT a s i j sd → L.getD (plc s i j sd) 0 = sm (qOf i j sd) l ∧ L.getD (plc s i j sd + 1) 0 = sm (wOf i j sd) l
/-- The document's Move. -/
def rmv (a s : Nat) (l : List Ex) (x : Ex) : List Ex × Int := if okR a s x then moveR x l else (l, 2)
theorem place_inj {s i j i' j' : Nat} (hj : j < s) (hj' : j' < s) (h : i * s + j = i' * s + j') : i = i' ∧ j = j' := by
  have e1 : (i * s + j) / s = i := by rw [Nat.add_comm, Nat.add_mul_div_right _ _ (by omega), Nat.div_eq_of_lt hj, Nat.zero_add]
  have e2 : (i' * s + j') / s = i' := by rw [Nat.add_comm, Nat.add_mul_div_right _ _ (by omega), Nat.div_eq_of_lt hj', Nat.zero_add]
  have : i = i' := by rw [← e1, ← e2, h]
  subst this
  exact ⟨rfl, by omega⟩
theorem plc_inj {a s : Nat} {i j sd i' j' sd' : Int} (h : inT a s i j sd) (h' : inT a s i' j' sd') (e : plc s i j sd = plc s i' j' sd') : i = i' ∧ j = j' ∧ sd = sd' := by
  obtain ⟨⟨h1, h2, h3, h4⟩, h5, h6⟩ := h
  obtain ⟨⟨k1, k2, k3, k4⟩, k5, k6⟩ := h'
  unfold plc at e
  generalize hu : i.toNat * s + j.toNat = u at e
  generalize hv : i'.toNat * s + j'.toNat = v at e
  have e2 : u = v := by omega
  subst e2
  have := place_inj (by omega) (by omega) (hu.trans hv.symm)
  omega
theorem plc_odd {s : Nat} {i j sd i' j' sd' : Int} : plc s i j sd ≠ plc s i' j' sd' + 1 := by
  unfold plc
  generalize i.toNat * s + j.toNat = u
  generalize i'.toNat * s + j'.toNat = v
  omega
theorem getD_set2 (L : List Int) (o k : Nat) (x y : Int) (h : o + 1 < L.length) : ((L.set o x).set (o + 1) y).getD k 0 = if k = o + 1 then y else if k = o then x else L.getD k 0 := by
  rw [getD_set _ _ _ _ (by simp; omega)]
  split
  · rfl
  · rw [getD_set _ _ _ _ (by omega)]
theorem tie_step {a s : Nat} {L : List Int} {l : List Ex} (h : Tie a s L l) (x : Ex) : (mvx a s L x).1 = (rmv a s l x).2 ∧ Tie a s (mvx a s L x).2 (rmv a s l x).1 := by
  obtain ⟨xi, xj, xs, xq, xp, xb⟩ := x
  by_cases ho : okR a s (xi, xj, xs, xq, xp, xb)
  · have hoM : okM a s xi xj xs xq xp := ho
    have hin : inT a s xi xj xs := ⟨ho.1, ho.2.1⟩
    have hp := prodE_bnd ho.2.2.1 ho.2.2.2
    have hv := h.val xi xj xs hin
    have hlt := (plc_lt hin).2
    have hq : qOf xi xj xs (xi, xj, xs, xq, xp, xb) = sgB xb xq := by unfold qOf sgB; simp
    have hw : wOf xi xj xs (xi, xj, xs, xq, xp, xb) = sgB xb (xq * xp) := by unfold wOf sgB; simp
    have eQ : sm (qOf xi xj xs) (l ++ [(xi, xj, xs, xq, xp, xb)]) = L.getD (plc s xi xj xs) 0 + sgB xb xq := by rw [sm_append, ← hv.1]; simp [sm, hq]
    have eV : sm (wOf xi xj xs) (l ++ [(xi, xj, xs, xq, xp, xb)]) = L.getD (plc s xi xj xs + 1) 0 + sgB xb (xq * xp) := by rw [sm_append, ← hv.2]; simp [sm, hw]
    have hres : mvS a s L xi xj xs xq xp xb = (if (mayZ (L.getD (plc s xi xj xs) 0 + sgB xb xq) && mayZ (L.getD (plc s xi xj xs + 1) 0 + sgB xb (xq * xp)) && mayZ (xq * xp)) = true then (0, (L.set (plc s xi xj xs) (L.getD (plc s xi xj xs) 0 + sgB xb xq)).set (plc s xi xj xs + 1) (L.getD (plc s xi xj xs + 1) 0 + sgB xb (xq * xp))) else (10, L)) := by
      unfold mvS
      rw [if_pos hoM]
      unfold plusS mayZ
      generalize L.getD (plc s xi xj xs) 0 + sgB xb xq = u
      generalize L.getD (plc s xi xj xs + 1) 0 + sgB xb (xq * xp) = v
      generalize xq * xp = z at *
      by_cases c : z ≤ 9223372036854775807
      · rw [if_pos c]
        have cz : decide (0 ≤ z ∧ z ≤ 9223372036854775807) = true := decide_eq_true (by omega)
        rw [cz, Bool.and_true]
        by_cases d : (0 ≤ u ∧ u ≤ 9223372036854775807) ∧ 0 ≤ v ∧ v ≤ 9223372036854775807
        · rw [if_pos d, decide_eq_true d.1, decide_eq_true d.2]; rfl
        · rw [if_neg d, if_neg (by rw [Bool.and_eq_true, decide_eq_true_eq, decide_eq_true_eq]; exact d)]
      · rw [if_neg c, if_neg (by rw [Bool.and_eq_true, decide_eq_true_eq]; omega)]
    unfold mvx rmv moveR
    dsimp only
    rw [if_pos ho, hres, eQ, eV]
    split
    · rename_i hc
      have hm : (0 ≤ L.getD (plc s xi xj xs) 0 + sgB xb xq ∧ L.getD (plc s xi xj xs) 0 + sgB xb xq ≤ 9223372036854775807) ∧ 0 ≤ L.getD (plc s xi xj xs + 1) 0 + sgB xb (xq * xp) ∧ L.getD (plc s xi xj xs + 1) 0 + sgB xb (xq * xp) ≤ 9223372036854775807 := by
        rw [Bool.and_eq_true, Bool.and_eq_true] at hc
        unfold mayZ at hc
        simp only [decide_eq_true_eq] at hc
        exact hc.1
      refine ⟨rfl, ?_, ?_, ?_, ?_⟩
      · simp [h.len]
      · intro y hy
        rcases List.mem_append.1 hy with k | k
        · exact h.ok y k
        · rw [List.mem_singleton.1 k]; exact ho
      · exact inP_set (inP_set h.pos _ _ hm.1) _ _ hm.2
      · intro i j sd hi
        have hl := (plc_lt hi).2
        have hvi := h.val i j sd hi
        have hlen := h.len
        rw [getD_set2 _ _ _ _ _ (by omega), getD_set2 _ _ _ _ _ (by omega), sm_append, sm_append, ← hvi.1, ← hvi.2, if_neg plc_odd]
        by_cases e : i = xi ∧ j = xj ∧ sd = xs
        · obtain ⟨rfl, rfl, rfl⟩ := e
          rw [if_pos rfl, if_pos rfl]
          simp [sm, hq, hw]
        · have hne : plc s i j sd ≠ plc s xi xj xs := fun q => e (plc_inj hi hin q)
          rw [if_neg hne, if_neg (by omega), if_neg (fun q => plc_odd q.symm)]
          have e0 : qOf i j sd (xi, xj, xs, xq, xp, xb) = 0 := by unfold qOf; dsimp only; rw [if_neg (fun q => e ⟨q.1.symm, q.2.1.symm, q.2.2.symm⟩)]
          have e1 : wOf i j sd (xi, xj, xs, xq, xp, xb) = 0 := by unfold wOf; dsimp only; rw [if_neg (fun q => e ⟨q.1.symm, q.2.1.symm, q.2.2.symm⟩)]
          simp [sm, e0, e1]
    · exact ⟨rfl, h⟩
  · have hoM : ¬ okM a s xi xj xs xq xp := ho
    unfold mvx rmv mvS
    dsimp only
    rw [if_neg ho, if_neg hoM]
    exact ⟨rfl, h⟩
theorem tie_zero (a s : Nat) : Tie a s (List.replicate (a * s * 4) 0) [] := by
  refine ⟨by simp, by simp, ?_, ?_⟩
  · intro x hx; rw [(List.mem_replicate.1 hx).2]; omega
  · intro i j sd hi
    have z : ∀ k, (List.replicate (a * s * 4) (0 : Int)).getD k 0 = 0 := fun k => by by_cases hk : k < a * s * 4 <;> simp [hk]
    rw [z, z]; exact ⟨rfl, rfl⟩
/-- What a tally out of the table is: nothing. -/
theorem sm_out {a s : Nat} {l : List Ex} (h : ∀ x ∈ l, okR a s x) {i j : Int} (hij : ¬ (0 ≤ i ∧ i < a ∧ 0 ≤ j ∧ j < s)) (sd : Int) : sm (qOf i j sd) l = 0 ∧ sm (wOf i j sd) l = 0 := by
  induction l with
  | nil => exact ⟨rfl, rfl⟩
  | cons x l ih =>
    have hx := (h x List.mem_cons_self).1
    have hne : ¬ (x.1 = i ∧ x.2.1 = j ∧ x.2.2.1 = sd) := fun q => hij (by rw [← q.1, ← q.2.1]; exact hx)
    obtain ⟨h1, h2⟩ := ih (fun y hy => h y (List.mem_cons_of_mem _ hy))
    simp only [sm, h1, h2]
    unfold qOf wOf
    rw [if_neg hne, if_neg hne]
    exact ⟨rfl, rfl⟩
end Go.Proofs.Ytenlifjfehnldaa.Hand
namespace Go.Proofs.Ytenlifjfehnldaa.Hand
open Go Go.RowKit Go.Proofs.YtenlifjfehnldaaW.PrintWords Go.Proofs.YtenlifjfehnldaaW.PrintMore Go.Proofs.YtenlifjfehnldaaW.PrintLast Go.Proofs.Ytenlifjfehnldaa.RL Go.Proofs.Ytenlifjfehnldaa.PL
/-- The document's Move, in and out of its bounds. -/
theorem rmove_is (a s : Nat) (x : Ex) (A : Option Addr) (c n : Nat) (l M : List Ex) (f : Int) (hM : rmv a s l x = (M, f)) (hn : l.length = n) (hn2 : n ≤ 100) (hr : ∀ x ∈ l, rngE x) (w : World) (hl : Kd.C kE w A n l) (hc : n ≤ c) :
    Calls Try.prog 8 #[.slice A n c, .int .i64 a, .int .i64 s, .agg (cE x).toArray] w fun e w' => ∃ A' c', e = .returned (.tuple #[.slice A' M.length c', .int .i64 f]) ∧ Kd.C kE w' A' M.length M ∧ M.length ≤ c' ∧ Below w.heap.size w w' := by
  unfold rmv at hM
  split at hM
  · rename_i h; exact rmove_walk a s x h A c n l M f hM hn hn2 hr w hl hc
  · rename_i h
    cases hM
    refine (rmove_no a s x h A c n w).mono ?_
    rintro e w' ⟨rfl, hb⟩
    subst hn
    exact ⟨A, c, rfl, Kd.C_below hl hb, hc, hb⟩
theorem intV_u {z : Int} (h : 0 ≤ z ∧ z ≤ 9223372036854775807) : intV z = (z, true) := by
  rw [intV_in (by unfold in64; omega)]
set_option maxHeartbeats 4000000 in
set_option maxRecDepth 100000 in
theorem told18 (P : Value) (i j : Int) (A : Option Addr) (c n : Nat) (l : List Ex) (hn : l.length = n) (hn2 : n ≤ 1000) (hr : ∀ x ∈ l, rngE x) (x1 y1 x2 y2 : Int) (w : World) (hl : Kd.C kE w A n l) (hc : n ≤ c)
    (e1 : sm (qOf i j 1) l = x1) (e2 : sm (wOf i j 1) l = y1) (e3 : sm (qOf i j 2) l = x2) (e4 : sm (wOf i j 2) l = y2)
    (u1 : 0 ≤ x1 ∧ x1 ≤ 9223372036854775807) (u2 : 0 ≤ y1 ∧ y1 ≤ 9223372036854775807) (u3 : 0 ≤ x2 ∧ x2 ≤ 9223372036854775807) (u4 : 0 ≤ y2 ∧ y2 ≤ 9223372036854775807)
    (hB : ∀ w', Below w.heap.size w w' → Calls Try.prog 11 #[P, .int .i64 i, .int .i64 j] w' fun e w'' => e = .returned (.tuple #[.int .i64 x1, .int .i64 y1]) ∧ Below w'.heap.size w' w'')
    (hS : ∀ w', Below w.heap.size w w' → Calls Try.prog 12 #[P, .int .i64 i, .int .i64 j] w' fun e w'' => e = .returned (.tuple #[.int .i64 x2, .int .i64 y2]) ∧ Below w'.heap.size w' w'')
    (hN : ∀ w', Below w.heap.size w w' → Calls Try.prog 17 #[P, .int .i64 i, .int .i64 j] w' fun e w'' => e = .returned (.int .i64 (x1 - x2)) ∧ Below w'.heap.size w' w'') :
    Calls Try.prog 10 #[P, .slice A n c, .int .i64 i, .int .i64 j] w fun e w' => e = .returned (.bool true) ∧ Below w.heap.size w w' := by
  have h1 := fun w' (hb : Below w.heap.size w w') => sum_walk i j 1 A c n l hn hn2 hr w' (Kd.C_below hl hb) hc
  have h2 := fun w' (hb : Below w.heap.size w w') => sum_walk i j 2 A c n l hn hn2 hr w' (Kd.C_below hl hb) hc
  rw [e1, e2] at h1
  rw [e3, e4] at h2
  have H1 := Lib.hid h1; have H2 := Lib.hid h2; have HB := Lib.hid hB; have HS := Lib.hid hS; have HN := Lib.hid hN
  clear h1 h2 hB hS hN hl hr e1 e2 e3 e4
  go_enter Try.func10, Try.ntmps10
  go_wp2_with fail
  refine (H1.out w (Below.refl _ _)).mono ?_
  rintro e w1 ⟨A1, c1, A2, c2, rfl, n1, n2, b1⟩
  dsimp only [numV]
  go_wp2_with fail
  have k1 : Below w1.heap.size w1 ((w1.alloc (.cells #[.bool (enc x1).1, .slice A1 (enc x1).2.length c1] 51)).alloc (.cells #[.bool (enc y1).1, .slice A2 (enc y1).2.length c2] 51)) := ((Below.refl _ _).alloc (Nat.le_refl _) _).alloc (by simp) _
  have g1 := (Blk.new w1 51 #[.bool (enc x1).1, .slice A1 (enc x1).2.length c1]).alloc (.cells #[.bool (enc y1).1, .slice A2 (enc y1).2.length c2] 51)
  have g2 := Blk.new (w1.alloc (.cells #[.bool (enc x1).1, .slice A1 (enc x1).2.length c1] 51)) 51 #[.bool (enc y1).1, .slice A2 (enc y1).2.length c2]
  rw [show (w1.alloc (.cells #[.bool (enc x1).1, .slice A1 (enc x1).2.length c1] 51)).heap.size = w1.heap.size + 1 by simp] at g2
  have n1 := n1.below k1
  have n2 := n2.below k1
  have b1 := bt b1 k1
  generalize ((w1.alloc (.cells #[.bool (enc x1).1, .slice A1 (enc x1).2.length c1] 51)).alloc (.cells #[.bool (enc y1).1, .slice A2 (enc y1).2.length c2] 51)) = W1 at *
  generalize w1.heap.size = k1s at *
  refine (H2.out W1 b1).mono ?_
  rintro e w2 ⟨A3, c3, A4, c4, rfl, n3, n4, b2⟩
  dsimp only [numV]
  have k2 : Below w2.heap.size w2 ((w2.alloc (.cells #[.bool (enc x2).1, .slice A3 (enc x2).2.length c3] 51)).alloc (.cells #[.bool (enc y2).1, .slice A4 (enc y2).2.length c4] 51)) := ((Below.refl _ _).alloc (Nat.le_refl _) _).alloc (by simp) _
  have g3 := (Blk.new w2 51 #[.bool (enc x2).1, .slice A3 (enc x2).2.length c3]).alloc (.cells #[.bool (enc y2).1, .slice A4 (enc y2).2.length c4] 51)
  have g4 := Blk.new (w2.alloc (.cells #[.bool (enc x2).1, .slice A3 (enc x2).2.length c3] 51)) 51 #[.bool (enc y2).1, .slice A4 (enc y2).2.length c4]
  rw [show (w2.alloc (.cells #[.bool (enc x2).1, .slice A3 (enc x2).2.length c3] 51)).heap.size = w2.heap.size + 1 by simp] at g4
  have n3 := n3.below k2
  have n4 := n4.below k2
  have b2 := bt b2 k2
  have g1 := g1.on b2
  have g2 := g2.on b2
  have n1 := n1.below b2
  have n2 := n2.below b2
  have b2 := bt b1 b2
  go_upto_region 2 with (fail)
  generalize ((w2.alloc (.cells #[.bool (enc x2).1, .slice A3 (enc x2).2.length c3] 51)).alloc (.cells #[.bool (enc y2).1, .slice A4 (enc y2).2.length c4] 51)) = W2 at *
  generalize w2.heap.size = k2s at *
  clear k1 k2 b1
  refine (HB.out W2 b2).mono ?_
  rintro e w3 ⟨rfl, d3⟩
  have b3 := bt b2 d3
  go_upto_region 2 with (fail)
  refine (HS.out w3 b3).mono ?_
  rintro e w4 ⟨rfl, d4⟩
  have b4 := bt b3 d4
  have d := bt d3 d4
  have g1 := g1.on d
  have g2 := g2.on d
  have g3 := g3.on d
  have g4 := g4.on d
  have n1 := n1.below d
  have n2 := n2.below d
  have n3 := n3.below d
  have n4 := n4.below d
  clear d d3 d4 b3 b2 HB HS
  have y0 : w4.cell? ⟨k1s, 0, none⟩ = some (.bool (enc x1).1) := g1.cell 0
  have y1' : w4.cell? ⟨k1s, 1, none⟩ = some (.slice A1 (enc x1).2.length c1) := g1.cell 1
  go_upto_region 2 with (fail)
  have hI := num_int x1 (small_of (by omega)) A1 c1 _ w4 n1
  rw [intV_u u1] at hI
  refine hI.mono ?_
  rintro e w5 ⟨rfl, d5⟩
  have b5 := bt b4 d5
  clear hI
  have y2' : w5.cell? ⟨k1s + 1, 0, none⟩ = some (.bool (enc y1).1) := (g2.on d5).cell 0
  have y3' : w5.cell? ⟨k1s + 1, 1, none⟩ = some (.slice A2 (enc y1).2.length c2) := (g2.on d5).cell 1
  go_upto_region 2 with (fail)
  have hI := num_int y1 (small_of (by omega)) A2 c2 _ w5 (n2.below d5)
  rw [intV_u u2] at hI
  refine hI.mono ?_
  rintro e w6 ⟨rfl, d6⟩
  have b6 := bt b5 d6
  have d6 := bt d5 d6
  clear hI
  have y4' : w6.cell? ⟨k2s, 0, none⟩ = some (.bool (enc x2).1) := (g3.on d6).cell 0
  have y5' : w6.cell? ⟨k2s, 1, none⟩ = some (.slice A3 (enc x2).2.length c3) := (g3.on d6).cell 1
  go_upto_region 2 with (fail)
  have hI := num_int x2 (small_of (by omega)) A3 c3 _ w6 (n3.below d6)
  rw [intV_u u3] at hI
  refine hI.mono ?_
  rintro e w7 ⟨rfl, d7⟩
  have b7 := bt b6 d7
  have d7 := bt d6 d7
  clear hI
  have y6' : w7.cell? ⟨k2s + 1, 0, none⟩ = some (.bool (enc y2).1) := (g4.on d7).cell 0
  have y7' : w7.cell? ⟨k2s + 1, 1, none⟩ = some (.slice A4 (enc y2).2.length c4) := (g4.on d7).cell 1
  go_upto_region 2 with (fail)
  have hI := num_int y2 (small_of (by omega)) A4 c4 _ w7 (n4.below d7)
  rw [intV_u u4] at hI
  refine hI.mono ?_
  rintro e w8 ⟨rfl, d8⟩
  have b8 := bt b7 d8
  clear hI
  go_wp2_with fail
  refine (HN.out w8 b8).mono ?_
  rintro e w9 ⟨rfl, d9⟩
  have b9 := bt b8 d9
  go_wp2_with fail
  go_ret
  exact ⟨rfl, b9⟩
theorem drawn0_bel {w w' : World} (h : Drawn0 w w') : Below w.heap.size w w' := by obtain ⟨⟨n, rfl⟩⟩ := h; exact pw_below_drewN (Below.refl _ _) n
theorem tie_rng {a s : Nat} {L : List Int} {l : List Ex} (h : Tie a s L l) : ∀ x ∈ l, rngE x := fun x hx => (h.ok x hx).2.2
theorem tie_in {L : List Int} (h : inP L) (k : Nat) : 0 ≤ L.getD k 0 ∧ L.getD k 0 ≤ 9223372036854775807 := by
  by_cases hk : k < L.length
  · have e : L.getD k 0 = L[k] := by simp [hk]
    rw [e]; exact h _ (List.getElem_mem hk)
  · have e : L.getD k 0 = 0 := by rw [List.getD_eq_getElem?_getD, List.getElem?_eq_none (by omega)]; rfl
    rw [e]; omega
theorem told_is (p g a s : Nat) (L : List Int) (l : List Ex) (i j : Int) (A : Option Addr) (c n : Nat) (hn : l.length = n) (hn2 : n ≤ 1000) (ha : a ≤ 16) (hs : s ≤ 16) (ht : Tie a s L l) (w : World) (hl : Kd.C kE w A n l) (hc : n ≤ c)
    (hp : Blk w p 48 (posC a s g)) (hg : Blk w g 71 (ints L)) :
    Calls Try.prog 10 #[.pointer (some ⟨p, 0, none⟩), .slice A n c, .int .i64 i, .int .i64 j] w fun e w' => e = .returned (.bool true) ∧ Below w.heap.size w w' := by
  by_cases hij : 0 ≤ i ∧ i < a ∧ 0 ≤ j ∧ j < s
  · obtain ⟨h1, h2, h3, h4⟩ := hij
    obtain ⟨i', rfl⟩ := Int.eq_ofNat_of_zero_le h1
    obtain ⟨j', rfl⟩ := Int.eq_ofNat_of_zero_le h3
    have hi : i' < a := by omega
    have hj : j' < s := by omega
    have v1 := ht.val i' j' 1 ⟨⟨h1, h2, h3, h4⟩, by omega, by omega⟩
    have v2 := ht.val i' j' 2 ⟨⟨h1, h2, h3, h4⟩, by omega, by omega⟩
    have p1 : plc s (i' : Int) (j' : Int) 1 = (i' * s + j') * 4 := by unfold plc; simp
    have p2 : plc s (i' : Int) (j' : Int) 2 = (i' * s + j') * 4 + 2 := by unfold plc; simp
    rw [p1] at v1
    rw [p2] at v2
    have u1 := tie_in ht.pos ((i' * s + j') * 4)
    have u2 := tie_in ht.pos ((i' * s + j') * 4 + 1)
    have u3 := tie_in ht.pos ((i' * s + j') * 4 + 2)
    have u4 := tie_in ht.pos ((i' * s + j') * 4 + 3)
    have cB := fun w' (hb : Below w.heap.size w w') => bought_tab p g a s i' j' L hi hj ha hs ht.len w' (hp.below hb hp.lt) (hg.below hb hg.lt)
    have cS := fun w' (hb : Below w.heap.size w w') => sold_tab p g a s i' j' L hi hj ha hs ht.len w' (hp.below hb hp.lt) (hg.below hb hg.lt)
    have cN := fun w' (hb : Below w.heap.size w w') => net_ok (.pointer (some ⟨p, 0, none⟩)) i' j' _ _ _ _ w' (fun w1 hd => cB w1 (hb.trans ((drawn0_bel hd).mono hb.size))) (fun w1 hd => cS w1 (hb.trans ((drawn0_bel hd).mono hb.size)))
    refine told18 _ i' j' A c n l hn hn2 (tie_rng ht) _ _ _ _ w hl hc v1.1.symm v1.2.symm v2.1.symm v2.2.symm u1 u2 u3 u4 (fun w' hb => (cB w' hb).mono fun e w'' h => ⟨h.1, drawn0_bel h.2⟩) (fun w' hb => (cS w' hb).mono fun e w'' h => ⟨h.1, drawn0_bel h.2⟩) (fun w' hb => (cN w' hb).mono fun e w'' h => ⟨h.1.trans ?_, drawn0_bel h.2⟩)
    rw [w64 (by omega) (by omega)]
  · have o1 := sm_out ht.ok hij 1
    have o2 := sm_out ht.ok hij 2
    have hno : ((i < 0 ∨ (a : Int) ≤ i) ∨ (0 ≤ i ∧ i ≤ (a : Int) - 1 ∧ (j < 0 ∨ (s : Int) ≤ j))) := by omega
    have cA := fun w' (hb : Below w.heap.size w w') => at_no p a s i j hno ha hs w' ((hp.below hb hp.lt).cell 0) ((hp.below hb hp.lt).cell 1)
    have cB := fun w' (hb : Below w.heap.size w w') => bought_no (.pointer (some ⟨p, 0, none⟩)) i j w' (cA w' hb)
    have cS := fun w' (hb : Below w.heap.size w w') => sold_no (.pointer (some ⟨p, 0, none⟩)) i j w' (cA w' hb)
    have cN := fun w' (hb : Below w.heap.size w w') => net_no (.pointer (some ⟨p, 0, none⟩)) i j w' (cB w' hb) (cS w' hb)
    have z : ∀ w' w'' : World, w' = w'' → Below w'.heap.size w' w'' := fun w' w'' h => h ▸ Below.refl _ _
    exact told18 _ i j A c n l hn hn2 (tie_rng ht) 0 0 0 0 w hl hc o1.1 o1.2 o2.1 o2.2 (by omega) (by omega) (by omega) (by omega) (fun w' hb => (cB w' hb).mono fun e w'' h => ⟨h.1, z _ _ h.2⟩) (fun w' hb => (cS w' hb).mono fun e w'' h => ⟨h.1, z _ _ h.2⟩) (fun w' hb => (cN w' hb).mono fun e w'' h => ⟨h.1, z _ _ h.2⟩)
end Go.Proofs.Ytenlifjfehnldaa.Hand
