/- position.move over a table of whole numbers: what it answers, and the table behind it. -/
import Derived.Test.YtenlifjfehnldaaPos6
set_option linter.unusedVariables false
set_option linter.unusedSimpArgs false
namespace Go.Proofs.Ytenlifjfehnldaa.Hand
open Go Go.RowKit Go.Proofs.YtenlifjfehnldaaW.PrintWords Go.Proofs.YtenlifjfehnldaaW.PrintMore Go.Proofs.Ytenlifjfehnldaa.RL Go.Proofs.Ytenlifjfehnldaa.PL
/-- The place of a tally in the table. -/
def plc (s : Nat) (i j sd : Int) : Nat := (i.toNat * s + j.toNat) * 4 + (sd.toNat - 1) * 2
def okM (a s : Nat) (i j sd q pr : Int) : Prop := (0 ≤ i ∧ i < a ∧ 0 ≤ j ∧ j < s) ∧ (1 ≤ sd ∧ sd ≤ 2) ∧ (1 ≤ q ∧ q ≤ 1099511627776) ∧ 1 ≤ pr ∧ pr ≤ 1099511627776
instance (a s : Nat) (i j sd q pr : Int) : Decidable (okM a s i j sd q pr) := by unfold okM; infer_instance
def sgB (bk : Bool) (z : Int) : Int := if bk = true then -z else z
/-- What a move answers, and the table behind it. -/
def mvS (a s : Nat) (L : List Int) (i j sd q pr : Int) (bk : Bool) : Int × List Int :=
  if okM a s i j sd q pr then
    if q * pr ≤ 9223372036854775807 then
      match plusS (L.getD (plc s i j sd) 0) (L.getD (plc s i j sd + 1) 0) (sgB bk q) (sgB bk (q * pr)) with
      | some (x, y) => (0, (L.set (plc s i j sd) x).set (plc s i j sd + 1) y)
      | none => (10, L)
    else (10, L)
  else (2, L)
def inP (L : List Int) : Prop := ∀ x ∈ L, 0 ≤ x ∧ x ≤ 9223372036854775807
theorem mvS_len (a s : Nat) (L : List Int) (i j sd q pr : Int) (bk : Bool) : (mvS a s L i j sd q pr bk).2.length = L.length := by
  unfold mvS
  split
  · split
    · split <;> simp
    · rfl
  · rfl
theorem plusS_in {tq tw q v x y : Int} (h : plusS tq tw q v = some (x, y)) : (0 ≤ x ∧ x ≤ 9223372036854775807) ∧ 0 ≤ y ∧ y ≤ 9223372036854775807 := by
  unfold plusS at h
  split at h
  · rename_i c; cases h; exact c
  · cases h
theorem inP_set {L : List Int} (h : inP L) (o : Nat) (x : Int) (hx : 0 ≤ x ∧ x ≤ 9223372036854775807) : inP (L.set o x) := by
  intro y hy
  rcases List.mem_or_eq_of_mem_set hy with h' | rfl
  · exact h y h'
  · exact hx
theorem mvS_in {a s : Nat} {L : List Int} {i j sd q pr : Int} {bk : Bool} (h : inP L) : inP (mvS a s L i j sd q pr bk).2 := by
  unfold mvS
  split
  · split
    · split
      · rename_i x y he
        have := plusS_in he
        exact inP_set (inP_set h _ _ this.1) _ _ this.2
      · exact h
    · exact h
  · exact h
/-- Block g was turned, and holds the table; all else is as it was. -/
def Moved (g : Nat) (L : List Int) (W W' : World) : Prop := Blk W' g 71 (ints L) ∧ W.heap.size ≤ W'.heap.size ∧ (∀ x, x < W.heap.size → x ≠ g → W'.heap[x]? = W.heap[x]?) ∧ ∀ n, n ≤ g → Below n W W'
theorem Moved.of_below {g : Nat} {L : List Int} {W W' : World} (hg : Blk W g 71 (ints L)) (h : Below W.heap.size W W') : Moved g L W W' :=
  ⟨hg.below h hg.lt, h.size, fun x hx _ => h.block x hx, fun n hn => h.mono (Nat.le_trans hn (Nat.le_of_lt hg.lt))⟩
theorem Moved.blk {g g' : Nat} {L : List Int} {W W' : World} {t : TypeId} {cs : Array Value} (h : Moved g L W W') (hb : Blk W g' t cs) (hne : g' ≠ g) : Blk W' g' t cs := (h.2.2.1 g' hb.lt hne).trans hb
theorem ints_get {L : List Int} {o : Nat} (h : o < L.length) : (ints L)[o]? = some (.int .i64 (L.getD o 0)) := by rw [ints_at L o h]; simp [h]
theorem ints_set2 (L : List Int) (o : Nat) (x y : Int) : ((ints L).setIfInBounds o (.int .i64 x)).setIfInBounds (o + 1) (.int .i64 y) = ints ((L.set o x).set (o + 1) y) := by rw [ints_set, ints_set]
theorem inP_get {L : List Int} (h : inP L) {o : Nat} (ho : o < L.length) : in64 (L.getD o 0) := by
  have : L.getD o 0 = L[o] := by simp [ho]
  rw [this]
  have := h _ (List.getElem_mem ho)
  unfold in64; omega
theorem plc_lt {a s : Nat} {i j sd : Int} (h : (0 ≤ i ∧ i < a ∧ 0 ≤ j ∧ j < s) ∧ (1 ≤ sd ∧ sd ≤ 2)) : i.toNat * s + j.toNat < a * s ∧ plc s i j sd + 1 < a * s * 4 := by
  obtain ⟨⟨h1, h2, h3, h4⟩, h5, h6⟩ := h
  have e : (i.toNat + 1) * s ≤ a * s := Nat.mul_le_mul_right s (by omega)
  rw [Nat.add_mul, Nat.one_mul] at e
  unfold plc
  omega
set_option maxHeartbeats 1000000 in
theorem move_is (p g a s : Nat) (L : List Int) (i j sd q pr : Int) (bk : Bool) (W : World) (ha : 1 ≤ a) (ha2 : a ≤ 16) (hs : 1 ≤ s) (hs2 : s ≤ 16) (hL : L.length = a * s * 4) (hin : inP L)
    (hp : Blk W p 48 #[.int .i64 a, .int .i64 s, .slice (some ⟨g, 0, none⟩) (a * s) (a * s)]) (hg : Blk W g 71 (ints L)) (hpg : p ≠ g) :
    Calls Try.prog 33 #[.pointer (some ⟨p, 0, none⟩), .int .i64 i, .int .i64 j, .int .i64 sd, .agg #[.int .i64 q, .int .i64 pr], .bool bk] W fun e w' => e = .returned (.int .i64 (mvS a s L i j sd q pr bk).1) ∧ Moved g (mvS a s L i j sd q pr bk).2 W w' := by
  have h0 : (a : Int) ≠ 0 := by omega
  have c0 := hp.cell 0
  by_cases hij : 0 ≤ i ∧ i < a ∧ 0 ≤ j ∧ j < s
  · obtain ⟨hi0, hi1, hj0, hj1⟩ := hij
    obtain ⟨i', rfl⟩ := Int.eq_ofNat_of_zero_le hi0
    obtain ⟨j', rfl⟩ := Int.eq_ofNat_of_zero_le hj0
    have hat : ∀ w', Below W.heap.size W w' → Calls Try.prog 25 #[.pointer (some ⟨p, 0, none⟩), .int .i64 i', .int .i64 j'] w' fun e w'' => e = .returned (.pointer (some ⟨g, (i' * s + j') * 4, none⟩)) ∧ Drawn0 w' w'' :=
      fun w' hb => at_ok p g a s i' j' (a * s) rfl (by omega) (by omega) ha2 hs2 w' (hp.below hb hp.lt)
    by_cases hsd : 1 ≤ sd ∧ sd ≤ 2
    · by_cases hq : 1 ≤ q ∧ q ≤ 1099511627776
      · by_cases hpr : 1 ≤ pr ∧ pr ≤ 1099511627776
        · have hok : okM a s i' j' sd q pr := ⟨⟨hi0, hi1, hj0, hj1⟩, hsd, hq, hpr⟩
          have hlt := plc_lt (a := a) (s := s) (i := (i' : Int)) (j := (j' : Int)) (sd := sd) ⟨⟨hi0, hi1, hj0, hj1⟩, hsd⟩
          simp only [Int.toNat_natCast] at hlt
          have hm : 0 ≤ q * pr := Int.mul_nonneg (by omega) (by omega)
          have hwv : ∀ w', Calls Try.prog 14 #[.int .i64 q, .int .i64 pr] w' fun e w'' => e = .returned (.tuple #[.int .i64 (tell (q * pr)).1, .int .i64 (tell (q * pr)).2]) ∧ Below w'.heap.size w' w'' :=
            fun w' => worth_in q pr (by omega) (by omega) w'
          unfold mvS
          rw [if_pos hok]
          by_cases hv : q * pr ≤ 9223372036854775807
          · rw [if_pos hv]
            have hvi : in64 (q * pr) := ⟨by omega, hv⟩
            rw [tell_in hvi] at hwv
            generalize q * pr = v at *
            have hqi : in64 (sgB bk q) := by unfold sgB in64; split <;> omega
            have hvi2 : in64 (sgB bk v) := by unfold sgB in64; split <;> omega
            have hsd3 : sd = 1 ∨ sd = 2 := by omega
            rcases hsd3 with rfl | rfl
            · have ho : plc s (i' : Int) (j' : Int) 1 = (i' * s + j') * 4 := by unfold plc; simp
              rw [ho] at hlt ⊢
              generalize hmm : i' * s + j' = m at *
              have x0 := ints_get (L := L) (o := m * 4) (by omega)
              have x1 := ints_get (L := L) (o := m * 4 + 1) (by omega)
              have i0 := inP_get hin (o := m * 4) (by omega)
              have i1 := inP_get hin (o := m * 4 + 1) (by omega)
              cases hpl : plusS (L.getD (m * 4) 0) (L.getD (m * 4 + 1) 0) (sgB bk q) (sgB bk v) with
              | some r =>
                obtain ⟨x, y⟩ := r
                cases bk
                · refine (move_ok1 p g m a _ _ q pr v _ _ x y W h0 c0 _ hg hpg x0 x1 hq.1 hq.2 hpr.1 hpr.2 hat hwv (plus_some i0 i1 hqi hvi2 hpl)).mono ?_
                  rintro e w' ⟨rfl, h1, h2, h3, h4⟩
                  rw [ints_set2] at h1
                  exact ⟨rfl, h1, h2, h3, h4⟩
                · refine (move_ok1b p g m a _ _ q pr v _ _ x y W h0 c0 _ hg hpg x0 x1 hq.1 hq.2 hpr.1 hpr.2 hm hv hat hwv (plus_some i0 i1 hqi hvi2 hpl)).mono ?_
                  rintro e w' ⟨rfl, h1, h2, h3, h4⟩
                  rw [ints_set2] at h1
                  exact ⟨rfl, h1, h2, h3, h4⟩
              | none =>
                cases bk
                · exact (move_er1 p g m a _ _ q pr v _ _ _ _ W h0 c0 _ hg hpg x0 x1 hq.1 hq.2 hpr.1 hpr.2 hat hwv (plus_none i0 i1 hqi hvi2 hpl)).mono fun e w' ⟨h1, h2⟩ => ⟨h1, Moved.of_below hg h2⟩
                · exact (move_er1b p g m a _ _ q pr v _ _ _ _ W h0 c0 _ hg hpg x0 x1 hq.1 hq.2 hpr.1 hpr.2 hm hv hat hwv (plus_none i0 i1 hqi hvi2 hpl)).mono fun e w' ⟨h1, h2⟩ => ⟨h1, Moved.of_below hg h2⟩
            · have ho : plc s (i' : Int) (j' : Int) 2 = (i' * s + j') * 4 + 2 := by unfold plc; simp
              rw [ho] at hlt ⊢
              generalize hmm : i' * s + j' = m at *
              have x0 := ints_get (L := L) (o := m * 4 + 2) (by omega)
              have x1 := ints_get (L := L) (o := m * 4 + 2 + 1) (by omega)
              have i0 := inP_get hin (o := m * 4 + 2) (by omega)
              have i1 := inP_get hin (o := m * 4 + 2 + 1) (by omega)
              cases hpl : plusS (L.getD (m * 4 + 2) 0) (L.getD (m * 4 + 2 + 1) 0) (sgB bk q) (sgB bk v) with
              | some r =>
                obtain ⟨x, y⟩ := r
                cases bk
                · refine (move_ok2 p g m a _ _ q pr v _ _ x y W h0 c0 _ hg hpg x0 x1 hq.1 hq.2 hpr.1 hpr.2 hat hwv (plus_some i0 i1 hqi hvi2 hpl)).mono ?_
                  rintro e w' ⟨rfl, h1, h2, h3, h4⟩
                  rw [show m * 4 + 3 = m * 4 + 2 + 1 by omega, ints_set2] at h1
                  exact ⟨rfl, h1, h2, h3, h4⟩
                · refine (move_ok2b p g m a _ _ q pr v _ _ x y W h0 c0 _ hg hpg x0 x1 hq.1 hq.2 hpr.1 hpr.2 hm hv hat hwv (plus_some i0 i1 hqi hvi2 hpl)).mono ?_
                  rintro e w' ⟨rfl, h1, h2, h3, h4⟩
                  rw [show m * 4 + 3 = m * 4 + 2 + 1 by omega, ints_set2] at h1
                  exact ⟨rfl, h1, h2, h3, h4⟩
              | none =>
                cases bk
                · exact (move_er2 p g m a _ _ q pr v _ _ _ _ W h0 c0 _ hg hpg x0 x1 hq.1 hq.2 hpr.1 hpr.2 hat hwv (plus_none i0 i1 hqi hvi2 hpl)).mono fun e w' ⟨h1, h2⟩ => ⟨h1, Moved.of_below hg h2⟩
                · exact (move_er2b p g m a _ _ q pr v _ _ _ _ W h0 c0 _ hg hpg x0 x1 hq.1 hq.2 hpr.1 hpr.2 hm hv hat hwv (plus_none i0 i1 hqi hvi2 hpl)).mono fun e w' ⟨h1, h2⟩ => ⟨h1, Moved.of_below hg h2⟩
          · rw [if_neg hv]
            rw [tell_out (fun h => hv h.2)] at hwv
            exact (move_no_w p g _ a _ _ sd q pr 0 10 bk W h0 c0 hsd.1 hsd.2 hq.1 hq.2 hpr.1 hpr.2 (by decide) hwv hat).mono fun e w' ⟨h1, h2⟩ => ⟨h1, Moved.of_below hg h2⟩
        · unfold mvS
          rw [if_neg (fun h => hpr h.2.2.2)]
          exact (move_no_p p g _ a _ _ sd q pr bk W h0 c0 hsd.1 hsd.2 hq.1 hq.2 (by omega) hat).mono fun e w' ⟨h1, h2⟩ => ⟨h1, Moved.of_below hg h2⟩
      · unfold mvS
        rw [if_neg (fun h => hq h.2.2.1)]
        exact (move_no_q p g _ a _ _ sd q pr bk W h0 c0 hsd.1 hsd.2 (by omega) hat).mono fun e w' ⟨h1, h2⟩ => ⟨h1, Moved.of_below hg h2⟩
    · unfold mvS
      rw [if_neg (fun h => hsd h.2.1)]
      exact (move_no_s p g _ a _ _ sd q pr bk W h0 c0 (by omega) hat).mono fun e w' ⟨h1, h2⟩ => ⟨h1, Moved.of_below hg h2⟩
  · unfold mvS
    rw [if_neg (fun h => hij h.1)]
    have c1 := hp.cell 1
    refine (move_at p g 0 a i j sd q pr bk W h0 c0 fun w' hb => ?_).mono fun e w' ⟨h1, h2⟩ => ⟨h1, Moved.of_below hg h2⟩
    have hp' := hp.below hb hp.lt
    refine (at_no p a s i j ?_ ha2 hs2 w' (hp'.cell 0) (hp'.cell 1)).mono fun e w'' ⟨h1, h2⟩ => ⟨h1, h2 ▸ Drawn0.refl _⟩
    omega
end Go.Proofs.Ytenlifjfehnldaa.Hand
