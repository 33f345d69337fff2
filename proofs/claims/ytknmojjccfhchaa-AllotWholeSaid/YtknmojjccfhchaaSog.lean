/- slices.symMergeCmpFunc at elements of one cell, walked: the whole of it. -/
import Derived.Test.YtknmojjccfhchaaSos
set_option linter.unusedVariables false
set_option linter.unusedSimpArgs false
namespace Go.Proofs.Ytknmojjccfhchaa.St
open Go Go.RowKit Go.Lib Go.Sort Go.Shelf Go.Proofs.YtknmojjccfhchaaW.PrintWords Go.Proofs.YtknmojjccfhchaaW.PrintMore Go.Proofs.Ytknmojjccfhchaa.RL Go.Proofs.Ytknmojjccfhchaa.PL
/-- What the search finds. -/
theorem sym_cut {α : Type} {lt : α → α → Bool} (O : WO lt) {A B : List α} (sA : Srt lt A) (sB : Srt lt B) (u v : Nat) (hu : u ≤ A.length) (hv : v ≤ B.length)
    (h1 : u = 0 ∨ v = B.length ∨ ∃ hA : u - 1 < A.length, ∃ hB : v < B.length, 0 < u ∧ lt B[v] A[u - 1] = false)
    (h2 : u = A.length ∨ v = 0 ∨ ∃ hA : u < A.length, ∃ hB : v - 1 < B.length, 0 < v ∧ lt B[v - 1] A[u] = true) :
    mergeS lt A B = mergeS lt (A.take u) (B.take v) ++ mergeS lt (A.drop u) (B.drop v) := by
  have e := merge_split lt (A.take u) (A.drop u) (B.take v) (B.drop v) ?_ ?_ ?_
  · rw [List.take_append_drop, List.take_append_drop] at e; exact e
  · rcases h2 with h | h | ⟨hA, hB, h0, h⟩
    · rw [List.drop_eq_nil_of_le (by omega)]; intro b hb y hy; cases hy
    · rw [h]; intro b hb; simp at hb
    · intro b hb y hy
      have q := srt_take O sB A[u] v (v - 1) hB (by omega) h b hb
      obtain ⟨t, ht, rfl⟩ := List.getElem_of_mem hy
      rw [List.length_drop] at ht
      rw [List.getElem_drop]
      by_cases e : t = 0
      · subst e; exact q
      · exact O.pos q (List.pairwise_iff_getElem.1 sA u (u + t) hA (by omega) (by omega))
  · rcases h1 with h | h | ⟨hA, hB, h0, h⟩
    · rw [h]; intro b hb x hx; simp at hx
    · rw [List.drop_eq_nil_of_le (by omega)]; intro b hb; cases hb
    · intro b hb x hx
      have q := srt_drop O sB A[u - 1] v hB h b hb
      obtain ⟨t, ht, rfl⟩ := List.getElem_of_mem hx
      rw [List.length_take] at ht
      rw [List.getElem_take]
      by_cases e : t = u - 1
      · subst e; exact q
      · exact O.neg A[t] A[u - 1] b (List.pairwise_iff_getElem.1 sA t (u - 1) (by omega) hA (by omega)) q
  · intro b hb x hx
    have := List.pairwise_append.1 (show Srt lt (B.take v ++ B.drop v) by rw [List.take_append_drop]; exact sB)
    exact this.2.2 x hx b hb
theorem srt_tk {α : Type} {lt : α → α → Bool} {B : List α} (sB : Srt lt B) (v : Nat) : Srt lt (B.take v) ∧ Srt lt (B.drop v) := by
  have := List.pairwise_append.1 (show Srt lt (B.take v ++ B.drop v) by rw [List.take_append_drop]; exact sB)
  exact ⟨this.1, this.2.1⟩
variable {α : Type} [Inhabited α]
/-- What a merge gives. -/
def SymOk (enc : α → Value) (cf : α → α → Int) (g : Nat) (cb : Array Value) (blk off cap : Nat) (d0 : Array α) (w0 : World) (K : Nat) : Prop :=
  ∀ (P A B Z : List α) (a m b : Nat) (w : World), A.length + B.length ≤ K → 0 < A.length → 0 < B.length → Srt (ltOf cf) A → Srt (ltOf cf) B → a = P.length → m = P.length + A.length → b = P.length + A.length + B.length → d0.size = (P ++ A ++ B ++ Z).length → SW enc w0 blk off (P ++ A ++ B ++ Z).toArray w →
    Calls Try.prog 68 #[.slice (some ⟨blk, off, none⟩) d0.size cap, .int .i64 a, .int .i64 m, .int .i64 b, .func (.func g) #[] cb] w fun e w' => e = .returned (.tuple #[]) ∧ Aside (SW enc w0 blk off (P ++ mergeS (ltOf cf) A B ++ Z).toArray w')
set_option maxHeartbeats 16000000 in
set_option maxRecDepth 1000000 in
theorem sym_step (enc : α → Value) (cf : α → α → Int) (g : Nat) (cb : Array Value) (blk off cap : Nat) (O : WO (ltOf cf)) (d0 : Array α) (w0 : World) (R : Row1 enc w0 blk off d0) (hsz : d0.size ≤ 1000000)
    (eg : ∀ args w, (callFunc g args).run Try.prog w = .ok (.enter g args) w) (hcmp : CmpLays1 Try.prog g cb enc cf blk off d0.size w0)
    (K : Nat) (IH : SymOk enc cf g cb blk off cap d0 w0 K)
    (P A B Z : List α) (a m b : Nat) (w : World) (hK : A.length + B.length ≤ K + 1) (hA : 2 ≤ A.length) (hB : 2 ≤ B.length) (sA : Srt (ltOf cf) A) (sB : Srt (ltOf cf) B) (ha : a = P.length) (hm : m = P.length + A.length) (hb : b = P.length + A.length + B.length) (hs : d0.size = (P ++ A ++ B ++ Z).length) (S : SW enc w0 blk off (P ++ A ++ B ++ Z).toArray w) :
    Calls Try.prog 68 #[.slice (some ⟨blk, off, none⟩) d0.size cap, .int .i64 a, .int .i64 m, .int .i64 b, .func (.func g) #[] cb] w fun e w' => e = .returned (.tuple #[]) ∧ SW enc w0 blk off (P ++ mergeS (ltOf cf) A B ++ Z).toArray w' := by
  have mixed : Try.prog.follows Departure.mixedOrders = true := by kernel_rfl
  have hcl0 := R.hO.cells
  simp only [Value.cells] at hcl0
  have hst := R.hO.store Try.prog
  have HC : Aside _ := hcmp
  have hl : Aside ((P ++ A ++ B ++ Z).toArray.size = d0.size) := by show _ = _; rw [hs]; simp
  have hS : Aside (b ≤ d0.size ∧ d0.size = P.length + A.length + B.length + Z.length) := by show _ ∧ _; rw [hs]; simp; omega
  have hAi : Aside (∀ i, a ≤ i → ∀ h : i - a < A.length, (P ++ A ++ B ++ Z).toArray[i]! = A[i - a]) := by
    show ∀ i, _
    intro i h1 h
    have := arr_at2 P A (B ++ Z) (i - a) h
    rw [show P.length + (i - a) = i by omega] at this
    rw [← this, List.append_assoc (P ++ A)]
  have hBi : Aside (∀ i, m ≤ i → ∀ h : i - m < B.length, (P ++ A ++ B ++ Z).toArray[i]! = B[i - m]) := by
    show ∀ i, _
    intro i h1 h
    have := arr_at2 (P ++ A) B Z (i - m) h
    rw [show (P ++ A).length + (i - m) = i by simp; omega] at this
    exact this
  obtain ⟨mid, hmid⟩ : ∃ x : Nat, x = (a + b) / 2 := ⟨_, rfl⟩
  obtain ⟨n, hn⟩ : ∃ x : Nat, x = mid + m := ⟨_, rfl⟩
  obtain ⟨p, hp⟩ : ∃ x : Nat, x + 1 = n := ⟨n - 1, by omega⟩
  have e1 : Aside (a + A.length = m ∧ m + B.length = b ∧ b ≤ 1000000 ∧ mid = (a + b) / 2 ∧ n = mid + m ∧ p + 1 = n ∧ b ≤ d0.size) := by show _ ∧ _; have := hS.out; omega
  -- the rest, once start is known
  have hrest : Aside (∀ s, a ≤ s → s ≤ m → s ≤ mid → mid - s ≤ B.length →
      (s = a ∨ mid - s = B.length ∨ ∃ hA : s - 1 - a < A.length, ∃ hB : mid - s < B.length, a < s ∧ ltOf cf B[mid - s] A[s - 1 - a] = false) →
      (s = m ∨ mid - s = 0 ∨ ∃ hA : s - a < A.length, ∃ hB : mid - 1 - s < B.length, s < mid ∧ ltOf cf B[mid - 1 - s] A[s - a] = true) →
      ∃ D1 D2 : Array α,
        (s < m → s < mid → ∀ w, Aside (SW enc w0 blk off (P ++ A ++ B ++ Z).toArray w) → Calls Try.prog 73 #[.slice (some ⟨blk, off, none⟩) d0.size cap, .int .i64 s, .int .i64 m, .int .i64 ((n : Int) - (s : Int)), .func (.func g) #[] cb] w fun e w' => e = .returned (.tuple #[]) ∧ Aside (SW enc w0 blk off D1 w')) ∧
        (¬ (s < m ∧ s < mid) → ∀ w, Aside (SW enc w0 blk off (P ++ A ++ B ++ Z).toArray w) → Aside (SW enc w0 blk off D1 w)) ∧
        (a < s → s < mid → ∀ w, Aside (SW enc w0 blk off D1 w) → Calls Try.prog 68 #[.slice (some ⟨blk, off, none⟩) d0.size cap, .int .i64 a, .int .i64 s, .int .i64 mid, .func (.func g) #[] cb] w fun e w' => e = .returned (.tuple #[]) ∧ Aside (SW enc w0 blk off D2 w')) ∧
        (¬ (a < s ∧ s < mid) → ∀ w, Aside (SW enc w0 blk off D1 w) → Aside (SW enc w0 blk off D2 w)) ∧
        (s < m → n - s < b → ∀ w, Aside (SW enc w0 blk off D2 w) → Calls Try.prog 68 #[.slice (some ⟨blk, off, none⟩) d0.size cap, .int .i64 mid, .int .i64 ((n : Int) - (s : Int)), .int .i64 b, .func (.func g) #[] cb] w fun e w' => e = .returned (.tuple #[]) ∧ Aside (SW enc w0 blk off (P ++ mergeS (ltOf cf) A B ++ Z).toArray w')) ∧
        (¬ (s < m ∧ n - s < b) → ∀ w, Aside (SW enc w0 blk off D2 w) → Aside (SW enc w0 blk off (P ++ mergeS (ltOf cf) A B ++ Z).toArray w))) := by
    show ∀ s, _
    intro s h1 h2 h3 h4 h5 h6
    have hcut := sym_cut O sA sB (s - a) (mid - s) (by omega) h4 (by
      rcases h5 with h | h | ⟨x1, x2, x3, x4⟩
      · exact .inl (by omega)
      · exact .inr (.inl h)
      · exact .inr (.inr ⟨by omega, x2, by omega, by rw [← x4]; congr 2; omega⟩)) (by
      rcases h6 with h | h | ⟨x1, x2, x3, x4⟩
      · exact .inl (by omega)
      · exact .inr (.inl h)
      · exact .inr (.inr ⟨x1, by omega, by omega, by rw [← x4]; congr 2; omega⟩))
    have eA : A.take (s - a) ++ A.drop (s - a) = A := List.take_append_drop _ _
    have eB : B.take (mid - s) ++ B.drop (mid - s) = B := List.take_append_drop _ _
    have lA1 : (A.take (s - a)).length = s - a := by rw [List.length_take]; omega
    have lA2 : (A.drop (s - a)).length = m - s := by rw [List.length_drop]; omega
    have lB1 : (B.take (mid - s)).length = mid - s := by rw [List.length_take]; omega
    have lB2 : (B.drop (mid - s)).length = b - (n - s) := by rw [List.length_drop]; omega
    have sA1 := (srt_tk sA (s - a)).1
    have sA2 := (srt_tk sA (s - a)).2
    have sB1 := (srt_tk sB (mid - s)).1
    have sB2 := (srt_tk sB (mid - s)).2
    generalize A.take (s - a) = A1 at *
    generalize A.drop (s - a) = A2 at *
    generalize B.take (mid - s) = B1 at *
    generalize B.drop (mid - s) = B2 at *
    have hln := hS.out.2
    have lM1 := mergeS_length (ltOf cf) A1 B1
    have lM2 := mergeS_length (ltOf cf) A2 B2
    rw [hcut]
    have eD : (P ++ A ++ B ++ Z) = P ++ A1 ++ A2 ++ (B1 ++ (B2 ++ Z)) := by rw [← eA, ← eB]; simp
    rw [eD]
    refine ⟨(P ++ A1 ++ B1 ++ (A2 ++ (B2 ++ Z))).toArray, (P ++ mergeS (ltOf cf) A1 B1 ++ (A2 ++ (B2 ++ Z))).toArray, ?_, ?_, ?_, ?_, ?_, ?_⟩
    · intro c1 c2 w S
      have := rotate_s enc g cb blk off cap (s : Int) (m : Int) ((n : Int) - (s : Int)) d0 (P ++ A1) A2 B1 (B2 ++ Z) (by omega) (by omega) w0 w R hsz (by rw [hs, ← eA, ← eB]; simp) (by simpa using S.out) (by simp; omega) (by simp; omega) (by simp; omega)
      refine this.mono ?_
      rintro e w' ⟨he, hw⟩
      exact ⟨he, by show SW _ _ _ _ _ _; simpa using hw⟩
    · intro hno w S
      show SW _ _ _ _ _ _
      have S := S.out
      rcases Nat.eq_zero_or_pos B1.length with h | h
      · obtain rfl : B1 = [] := List.length_eq_zero_iff.1 h
        simpa using S
      · obtain rfl : A2 = [] := List.length_eq_zero_iff.1 (by omega)
        simpa using S
    · intro c1 c2 w S
      exact IH P A1 B1 (A2 ++ (B2 ++ Z)) a s mid w (by omega) (by omega) (by omega) sA1 sB1 ha (by omega) (by omega) (by rw [hs, ← eA, ← eB]; simp; omega) S.out
    · intro hno w S
      show SW _ _ _ _ _ _
      have S := S.out
      rcases Nat.eq_zero_or_pos B1.length with h | h
      · obtain rfl : B1 = [] := List.length_eq_zero_iff.1 h
        rw [mergeS_nil]; simpa using S
      · obtain rfl : A1 = [] := List.length_eq_zero_iff.1 (by omega)
        rw [mergeS_none (ltOf cf) B1 sB1]; simpa using S
    · intro c1 c2 w S
      have := IH (P ++ mergeS (ltOf cf) A1 B1) A2 B2 Z mid (n - s) b w (by omega) (by omega) (by omega) sA2 sB2 (by simp; omega) (by simp; omega) (by simp; omega) (by rw [hs, ← eA, ← eB]; simp; omega) (by simpa using S.out)
      rw [show ((n - s : Nat) : Int) = (n : Int) - (s : Int) by omega] at this
      simpa using this
    · intro hno w S
      show SW _ _ _ _ _ _
      have S := S.out
      rcases Nat.eq_zero_or_pos A2.length with h | h
      · obtain rfl : A2 = [] := List.length_eq_zero_iff.1 h
        rw [mergeS_none (ltOf cf) B2 sB2]; simpa using S
      · obtain rfl : B2 = [] := List.length_eq_zero_iff.1 (by omega)
        rw [mergeS_nil]; simpa using S
  have S0 : Aside (SW enc w0 blk off (P ++ A ++ B ++ Z).toArray w) := S
  obtain ⟨D, hD⟩ : ∃ D, D = (P ++ A ++ B ++ Z).toArray := ⟨_, rfl⟩
  obtain ⟨T, hTT⟩ : ∃ T, T = (P ++ mergeS (ltOf cf) A B ++ Z).toArray := ⟨_, rfl⟩
  rw [← hD] at S0 hl hAi hBi hrest
  rw [← hTT] at hrest ⊢
  have f0 : ((m : Int) - (a : Int) == 1) = false := by rw [beq_eq_false_iff_ne]; omega
  have f1 : ((b : Int) - (m : Int) == 1) = false := by rw [beq_eq_false_iff_ne]; omega
  have eh : ((a : Int) + (b : Int)) / 2 = (mid : Int) := by omega
  have en : (mid : Int) + (m : Int) = (n : Int) := by omega
  have ep : (n : Int) - 1 = (p : Int) := by omega
  have hz : (a : Int) < 1000000 ∧ (m : Int) < 1000000 ∧ (b : Int) ≤ 1000000 ∧ (mid : Int) ≤ 1000000 ∧ (n : Int) ≤ 2000000 ∧ (p : Int) ≤ 2000000 := by have := e1.out; omega
  clear S hs hcmp ha hm hb hD hTT hA hB hK hmid hn hp IH
  by_cases hmm : mid < m
  · have hz9 : (mid : Int) < (m : Int) := by omega
    obtain ⟨s0, hs0⟩ : ∃ x : Nat, x = n - b := ⟨_, rfl⟩
    obtain ⟨r0, hr0⟩ : ∃ x : Nat, x = mid := ⟨_, rfl⟩
    have e2 : Aside (a ≤ s0 ∧ s0 ≤ r0 ∧ r0 ≤ m ∧ r0 ≤ mid ∧ mid - s0 ≤ B.length ∧ (s0 = a ∨ mid - s0 = B.length) ∧ (r0 = m ∨ r0 = mid)) := by show _ ∧ _; have := e1.out; omega
    have es : (n : Int) - (b : Int) = (s0 : Int) := by have := e1.out; omega
    go_enter Try.func68, Try.ntmps68
    go_wp2
    go_loopg [20, 21] (r0 - s0) (fun kx vi vj wr => ∃ (s r : Nat), vi = .int .i64 s ∧ vj = .int .i64 r ∧ s0 ≤ s ∧ s ≤ r ∧ r ≤ r0 ∧ r - s ≤ kx ∧ Aside (s = s0 ∨ ∃ hA : s - 1 - a < A.length, ∃ hB : mid - s < B.length, a < s ∧ ltOf cf B[mid - s] A[s - 1 - a] = false) ∧ Aside (r = r0 ∨ ∃ hA : r - a < A.length, ∃ hB : mid - 1 - r < B.length, r < mid ∧ ltOf cf B[mid - 1 - r] A[r - a] = true) ∧ Aside (SW enc w0 blk off D wr))
    case atStart => exact ⟨s0, r0, by rw [hs0], by rw [hr0], Nat.le_refl _, e2.out.2.1, Nat.le_refl _, Nat.le_refl _, .inl rfl, .inl rfl, S0⟩
    case round =>
      clear S0 es hz9 hs0 hr0
      obtain ⟨s, r, rfl, rfl, h1, h2, h3, hk, HI, HJ, S1⟩ := hrel
      have e1' := e1.out
      have e2' := e2.out
      by_cases hlt : s < r
      · have hltz : (s : Int) < (r : Int) := by omega
        obtain ⟨c, hc0⟩ : ∃ c : Nat, c = (s + r) / 2 := ⟨_, rfl⟩
        have ec : ((s : Int) + (r : Int)) / 2 = (c : Int) := by omega
        obtain ⟨q, hq0⟩ : ∃ q : Nat, q + c = p := ⟨p - c, by omega⟩
        have eq : ((p : Int) - (c : Int)).toNat = q := by omega
        have eqn : p - c = q := by omega
        have pa2 : (c : Int) ≤ (p : Int) := by omega
        have rq : IntKind.i64.wrap ((p : Int) - (c : Int)) = (p : Int) - (c : Int) := by rw [IntKind.wrap_i64]; omega
        have hb1 : s ≤ c ∧ c < r := by omega
        have hca : c - a < A.length := by omega
        have hqb : q - m < B.length := by omega
        have hz1 : (s : Int) ≤ 1000000 ∧ (r : Int) ≤ 1000000 ∧ (c : Int) ≤ 1000000 := by omega
        have l1 := S1.out.cl R hl.out q (by rw [hl.out]; omega)
        have l2 := S1.out.cl R hl.out c (by rw [hl.out]; omega)
        rw [hBi.out q (by omega) hqb] at l1
        rw [hAi.out c (by omega) hca] at l2
        obtain ⟨x, hx⟩ : ∃ x, x = A[c - a] := ⟨_, rfl⟩
        obtain ⟨y, hy⟩ : ∃ y, y = B[q - m] := ⟨_, rfl⟩
        rw [← hy] at l1
        rw [← hx] at l2
        have hc := S1.out.cmp HC.out hl.out y x
        have bh : (c : Int) < (d0.size : Int) := by omega
        have ba : (p : Int) - (c : Int) < (d0.size : Int) := by omega
        have ph : (0 : Int) ≤ (c : Int) := by omega
        have pa : (0 : Int) ≤ (p : Int) - (c : Int) := by omega
        have HX := Lib.hid hx
        have HY := Lib.hid hy
        have H1 := Lib.hid (And.intro hb1 (And.intro hq0 (And.intro h1 (And.intro h2 h3))))
        have hrt : Hid (ltOf cf y x = true → ∃ hA : c - a < A.length, ∃ hB : mid - 1 - c < B.length, c < mid ∧ ltOf cf B[mid - 1 - c] A[c - a] = true) := Lib.hid (fun h => ⟨hca, by omega, by omega, by rw [← h, HX.out, HY.out]; congr 2; omega⟩)
        have hrf : Hid (ltOf cf y x = false → ∃ hA : c + 1 - 1 - a < A.length, ∃ hB : mid - (c + 1) < B.length, a < c + 1 ∧ ltOf cf B[mid - (c + 1)] A[c + 1 - 1 - a] = false) := Lib.hid (fun h => ⟨by omega, by omega, by omega, by rw [← h, HX.out, HY.out]; congr 2; omega⟩)
        clear hx hy hb1 hc0 hq0 e1' e2' h1 h2 h3
        go_wp2_with fail
        cases hlv : (ltOf cf) y x with
        | false =>
          have hv : ¬ cf y x < 0 := of_decide_eq_false hlv
          have hd : decide (cf y x < 0) = false := decide_eq_false hv
          go_quiet_grown (first | (go_at_fn g; refine Calls.grown_of (hc _ _)))
          have S2 : Aside (SW enc w0 blk off D (grow (wr.drewN nq) osq)) := S1.out.grown nq osq
          clear l1 l2 hc S1
          generalize grow (wr.drewN nq) osq = w2 at S2 ⊢
          clear nq osq
          go_wp2
          go_roundg (r - (c + 1))
          case measure => have := H1.out; omega
          case rel => exact ⟨c + 1, r, by simp, rfl, by have := H1.out; omega, by have := H1.out; omega, by have := H1.out; omega, Nat.le_refl _, .inr (hrf.out hlv), HJ, S2⟩
        | true =>
          have hv : cf y x < 0 := of_decide_eq_true hlv
          have hd : decide (cf y x < 0) = true := decide_eq_true hv
          go_quiet_grown (first | (go_at_fn g; refine Calls.grown_of (hc _ _)))
          have S2 : Aside (SW enc w0 blk off D (grow (wr.drewN nq) osq)) := S1.out.grown nq osq
          clear l1 l2 hc S1
          generalize grow (wr.drewN nq) osq = w2 at S2 ⊢
          clear nq osq
          go_wp2
          go_roundg (c - s)
          case measure => have := H1.out; omega
          case rel => exact ⟨s, c, rfl, rfl, by have := H1.out; omega, by have := H1.out; omega, by have := H1.out; omega, Nat.le_refl _, HI, .inr (hrt.out hlv), S2⟩
      · obtain rfl : s = r := by omega
        have hr := hrest.out s (by omega) (by omega) (by omega) (by omega) (by
          rcases HI.out with h | h
          · rcases e2'.2.2.2.2.2.1 with h' | h'
            · exact .inl (by omega)
            · exact .inr (.inl (by rw [h]; exact h'))
          · exact .inr (.inr h)) (by
          rcases HJ.out with h | h
          · rcases e2'.2.2.2.2.2.2 with h' | h'
            · exact .inl (by omega)
            · exact .inr (.inl (by omega))
          · exact .inr (.inr h))
        obtain ⟨D1, D2, H1, N1, H2, N2, H3, N3⟩ := hr
        have H1 := Lib.hid H1; have N1 := Lib.hid N1; have H2 := Lib.hid H2; have N2 := Lib.hid N2; have H3 := Lib.hid H3; have N3 := Lib.hid N3
        have hns : s ≤ n := by omega
        have hz1 : (s : Int) ≤ 1000000 ∧ (s : Int) ≤ (n : Int) ∧ (s : Int) ≤ (m : Int) ∧ (s : Int) ≤ (mid : Int) ∧ (n : Int) - (s : Int) ≤ (b : Int) ∧ (a : Int) ≤ (s : Int) := by omega
        have hnm : n = mid + m := by omega
        clear hrest HI HJ e2' hAi hBi
        by_cases ca : s < m
        · by_cases cb : s < mid
          · by_cases cc : a < s
            · by_cases cd : n - s < b
              · first
                | (exfalso; omega)
                | skip
                  have g0 : (s : Int) < (m : Int) ∧ (mid : Int) < (n : Int) - (s : Int) := by omega
                  have g1 : (s : Int) < (mid : Int) ∧ (m : Int) < (n : Int) - (s : Int) := by omega
                  have g2 : (a : Int) < (s : Int) := by omega
                  have g3 : (n : Int) - (s : Int) < (b : Int) := by omega
                  clear hns hnm e1' h1 h2 h3 hk
                  go_wp2_with (first | (go_at_call 73; (with_reducible refine (H1.out (by omega) (by omega) _ S1).mono ?_); rintro e w2 ⟨rfl, T1⟩) | (go_at_call 68; (with_reducible refine (H2.out (by omega) (by omega) _ T1).mono ?_); rintro e w3 ⟨rfl, T2⟩) | (go_at_call 68; (with_reducible refine (H3.out (by omega) (by omega) _ T2).mono ?_); rintro e w4 ⟨rfl, T3⟩))
                  go_end0
                  exact ⟨rfl, T3.out⟩
              · first
                | (exfalso; omega)
                | skip
                  have g0 : (s : Int) < (m : Int) ∧ (mid : Int) < (n : Int) - (s : Int) := by omega
                  have g1 : (s : Int) < (mid : Int) ∧ (m : Int) < (n : Int) - (s : Int) := by omega
                  have g2 : (a : Int) < (s : Int) := by omega
                  have g3 : ¬ (n : Int) - (s : Int) < (b : Int) := by omega
                  clear hns hnm e1' h1 h2 h3 hk
                  go_wp2_with (first | (go_at_call 73; (with_reducible refine (H1.out (by omega) (by omega) _ S1).mono ?_); rintro e w2 ⟨rfl, T1⟩) | (go_at_call 68; (with_reducible refine (H2.out (by omega) (by omega) _ T1).mono ?_); rintro e w3 ⟨rfl, T2⟩; have U3 := N3.out (by omega) _ T2))
                  go_end0
                  exact ⟨rfl, U3.out⟩
            · by_cases cd : n - s < b
              · first
                | (exfalso; omega)
                | skip
                  have g0 : (s : Int) < (m : Int) ∧ (mid : Int) < (n : Int) - (s : Int) := by omega
                  have g1 : (s : Int) < (mid : Int) ∧ (m : Int) < (n : Int) - (s : Int) := by omega
                  have g2 : ¬ (a : Int) < (s : Int) := by omega
                  have g3 : (n : Int) - (s : Int) < (b : Int) := by omega
                  clear hns hnm e1' h1 h2 h3 hk
                  go_wp2_with (first | (go_at_call 73; (with_reducible refine (H1.out (by omega) (by omega) _ S1).mono ?_); rintro e w2 ⟨rfl, T1⟩; have U2 := N2.out (by omega) _ T1) | (go_at_call 68; (with_reducible refine (H3.out (by omega) (by omega) _ U2).mono ?_); rintro e w4 ⟨rfl, T3⟩))
                  go_end0
                  exact ⟨rfl, T3.out⟩
              · first
                | (exfalso; omega)
                | skip
                  have g0 : (s : Int) < (m : Int) ∧ (mid : Int) < (n : Int) - (s : Int) := by omega
                  have g1 : (s : Int) < (mid : Int) ∧ (m : Int) < (n : Int) - (s : Int) := by omega
                  have g2 : ¬ (a : Int) < (s : Int) := by omega
                  have g3 : ¬ (n : Int) - (s : Int) < (b : Int) := by omega
                  clear hns hnm e1' h1 h2 h3 hk
                  go_wp2_with (first | (go_at_call 73; (with_reducible refine (H1.out (by omega) (by omega) _ S1).mono ?_); rintro e w2 ⟨rfl, T1⟩; have U2 := N2.out (by omega) _ T1; have U3 := N3.out (by omega) _ U2))
                  go_end0
                  exact ⟨rfl, U3.out⟩
          · by_cases cc : a < s
            · by_cases cd : n - s < b
              · first
                | (exfalso; omega)
                | skip
                  have g0 : (s : Int) < (m : Int) ∧ (mid : Int) < (n : Int) - (s : Int) := by omega
                  have g1 : ¬ (s : Int) < (mid : Int) ∧ ¬ (m : Int) < (n : Int) - (s : Int) := by omega
                  have g2 : (a : Int) < (s : Int) := by omega
                  have g3 : (n : Int) - (s : Int) < (b : Int) := by omega
                  have U1 := N1.out (by omega) _ S1
                  have U2 := N2.out (by omega) _ U1
                  clear hns hnm e1' h1 h2 h3 hk
                  go_wp2_with (first | (go_at_call 68; (with_reducible refine (H3.out (by omega) (by omega) _ U2).mono ?_); rintro e w4 ⟨rfl, T3⟩))
                  go_end0
                  exact ⟨rfl, T3.out⟩
              · first
                | (exfalso; omega)
                | skip
                  have g0 : (s : Int) < (m : Int) ∧ (mid : Int) < (n : Int) - (s : Int) := by omega
                  have g1 : ¬ (s : Int) < (mid : Int) ∧ ¬ (m : Int) < (n : Int) - (s : Int) := by omega
                  have g2 : (a : Int) < (s : Int) := by omega
                  have g3 : ¬ (n : Int) - (s : Int) < (b : Int) := by omega
                  have U1 := N1.out (by omega) _ S1
                  have U2 := N2.out (by omega) _ U1
                  have U3 := N3.out (by omega) _ U2
                  clear hns hnm e1' h1 h2 h3 hk
                  go_wp2_with fail
                  go_end0
                  exact ⟨rfl, U3.out⟩
            · by_cases cd : n - s < b
              · first
                | (exfalso; omega)
                | skip
                  have g0 : (s : Int) < (m : Int) ∧ (mid : Int) < (n : Int) - (s : Int) := by omega
                  have g1 : ¬ (s : Int) < (mid : Int) ∧ ¬ (m : Int) < (n : Int) - (s : Int) := by omega
                  have g2 : ¬ (a : Int) < (s : Int) := by omega
                  have g3 : (n : Int) - (s : Int) < (b : Int) := by omega
                  have U1 := N1.out (by omega) _ S1
                  have U2 := N2.out (by omega) _ U1
                  clear hns hnm e1' h1 h2 h3 hk
                  go_wp2_with (first | (go_at_call 68; (with_reducible refine (H3.out (by omega) (by omega) _ U2).mono ?_); rintro e w4 ⟨rfl, T3⟩))
                  go_end0
                  exact ⟨rfl, T3.out⟩
              · first
                | (exfalso; omega)
                | skip
                  have g0 : (s : Int) < (m : Int) ∧ (mid : Int) < (n : Int) - (s : Int) := by omega
                  have g1 : ¬ (s : Int) < (mid : Int) ∧ ¬ (m : Int) < (n : Int) - (s : Int) := by omega
                  have g2 : ¬ (a : Int) < (s : Int) := by omega
                  have g3 : ¬ (n : Int) - (s : Int) < (b : Int) := by omega
                  have U1 := N1.out (by omega) _ S1
                  have U2 := N2.out (by omega) _ U1
                  have U3 := N3.out (by omega) _ U2
                  clear hns hnm e1' h1 h2 h3 hk
                  go_wp2_with fail
                  go_end0
                  exact ⟨rfl, U3.out⟩
        · by_cases cb : s < mid
          · by_cases cc : a < s
            · by_cases cd : n - s < b
              · first
                | (exfalso; omega)
                | skip
                  have g0 : ¬ (s : Int) < (m : Int) ∧ ¬ (mid : Int) < (n : Int) - (s : Int) := by omega
                  have g1 : (s : Int) < (mid : Int) ∧ (m : Int) < (n : Int) - (s : Int) := by omega
                  have g2 : (a : Int) < (s : Int) := by omega
                  have g3 : (n : Int) - (s : Int) < (b : Int) := by omega
                  have U1 := N1.out (by omega) _ S1
                  clear hns hnm e1' h1 h2 h3 hk
                  go_wp2_with (first | (go_at_call 68; (with_reducible refine (H2.out (by omega) (by omega) _ U1).mono ?_); rintro e w3 ⟨rfl, T2⟩; have U3 := N3.out (by omega) _ T2))
                  go_end0
                  exact ⟨rfl, U3.out⟩
              · first
                | (exfalso; omega)
                | skip
                  have g0 : ¬ (s : Int) < (m : Int) ∧ ¬ (mid : Int) < (n : Int) - (s : Int) := by omega
                  have g1 : (s : Int) < (mid : Int) ∧ (m : Int) < (n : Int) - (s : Int) := by omega
                  have g2 : (a : Int) < (s : Int) := by omega
                  have g3 : ¬ (n : Int) - (s : Int) < (b : Int) := by omega
                  have U1 := N1.out (by omega) _ S1
                  clear hns hnm e1' h1 h2 h3 hk
                  go_wp2_with (first | (go_at_call 68; (with_reducible refine (H2.out (by omega) (by omega) _ U1).mono ?_); rintro e w3 ⟨rfl, T2⟩; have U3 := N3.out (by omega) _ T2))
                  go_end0
                  exact ⟨rfl, U3.out⟩
            · by_cases cd : n - s < b
              · first
                | (exfalso; omega)
                | skip
                  have g0 : ¬ (s : Int) < (m : Int) ∧ ¬ (mid : Int) < (n : Int) - (s : Int) := by omega
                  have g1 : (s : Int) < (mid : Int) ∧ (m : Int) < (n : Int) - (s : Int) := by omega
                  have g2 : ¬ (a : Int) < (s : Int) := by omega
                  have g3 : (n : Int) - (s : Int) < (b : Int) := by omega
                  have U1 := N1.out (by omega) _ S1
                  have U2 := N2.out (by omega) _ U1
                  have U3 := N3.out (by omega) _ U2
                  clear hns hnm e1' h1 h2 h3 hk
                  go_wp2_with fail
                  go_end0
                  exact ⟨rfl, U3.out⟩
              · first
                | (exfalso; omega)
                | skip
                  have g0 : ¬ (s : Int) < (m : Int) ∧ ¬ (mid : Int) < (n : Int) - (s : Int) := by omega
                  have g1 : (s : Int) < (mid : Int) ∧ (m : Int) < (n : Int) - (s : Int) := by omega
                  have g2 : ¬ (a : Int) < (s : Int) := by omega
                  have g3 : ¬ (n : Int) - (s : Int) < (b : Int) := by omega
                  have U1 := N1.out (by omega) _ S1
                  have U2 := N2.out (by omega) _ U1
                  have U3 := N3.out (by omega) _ U2
                  clear hns hnm e1' h1 h2 h3 hk
                  go_wp2_with fail
                  go_end0
                  exact ⟨rfl, U3.out⟩
          · by_cases cc : a < s
            · by_cases cd : n - s < b
              · first
                | (exfalso; omega)
                | skip
                  have g0 : ¬ (s : Int) < (m : Int) ∧ ¬ (mid : Int) < (n : Int) - (s : Int) := by omega
                  have g1 : ¬ (s : Int) < (mid : Int) ∧ ¬ (m : Int) < (n : Int) - (s : Int) := by omega
                  have g2 : (a : Int) < (s : Int) := by omega
                  have g3 : (n : Int) - (s : Int) < (b : Int) := by omega
                  have U1 := N1.out (by omega) _ S1
                  have U2 := N2.out (by omega) _ U1
                  have U3 := N3.out (by omega) _ U2
                  clear hns hnm e1' h1 h2 h3 hk
                  go_wp2_with fail
                  go_end0
                  exact ⟨rfl, U3.out⟩
              · first
                | (exfalso; omega)
                | skip
                  have g0 : ¬ (s : Int) < (m : Int) ∧ ¬ (mid : Int) < (n : Int) - (s : Int) := by omega
                  have g1 : ¬ (s : Int) < (mid : Int) ∧ ¬ (m : Int) < (n : Int) - (s : Int) := by omega
                  have g2 : (a : Int) < (s : Int) := by omega
                  have g3 : ¬ (n : Int) - (s : Int) < (b : Int) := by omega
                  have U1 := N1.out (by omega) _ S1
                  have U2 := N2.out (by omega) _ U1
                  have U3 := N3.out (by omega) _ U2
                  clear hns hnm e1' h1 h2 h3 hk
                  go_wp2_with fail
                  go_end0
                  exact ⟨rfl, U3.out⟩
            · by_cases cd : n - s < b
              · first
                | (exfalso; omega)
                | skip
                  have g0 : ¬ (s : Int) < (m : Int) ∧ ¬ (mid : Int) < (n : Int) - (s : Int) := by omega
                  have g1 : ¬ (s : Int) < (mid : Int) ∧ ¬ (m : Int) < (n : Int) - (s : Int) := by omega
                  have g2 : ¬ (a : Int) < (s : Int) := by omega
                  have g3 : (n : Int) - (s : Int) < (b : Int) := by omega
                  have U1 := N1.out (by omega) _ S1
                  have U2 := N2.out (by omega) _ U1
                  have U3 := N3.out (by omega) _ U2
                  clear hns hnm e1' h1 h2 h3 hk
                  go_wp2_with fail
                  go_end0
                  exact ⟨rfl, U3.out⟩
              · first
                | (exfalso; omega)
                | skip
                  have g0 : ¬ (s : Int) < (m : Int) ∧ ¬ (mid : Int) < (n : Int) - (s : Int) := by omega
                  have g1 : ¬ (s : Int) < (mid : Int) ∧ ¬ (m : Int) < (n : Int) - (s : Int) := by omega
                  have g2 : ¬ (a : Int) < (s : Int) := by omega
                  have g3 : ¬ (n : Int) - (s : Int) < (b : Int) := by omega
                  have U1 := N1.out (by omega) _ S1
                  have U2 := N2.out (by omega) _ U1
                  have U3 := N3.out (by omega) _ U2
                  clear hns hnm e1' h1 h2 h3 hk
                  go_wp2_with fail
                  go_end0
                  exact ⟨rfl, U3.out⟩
  · have hz9 : ¬ (mid : Int) < (m : Int) := by omega
    obtain ⟨s0, hs0⟩ : ∃ x : Nat, x = a := ⟨_, rfl⟩
    obtain ⟨r0, hr0⟩ : ∃ x : Nat, x = m := ⟨_, rfl⟩
    have e2 : Aside (a ≤ s0 ∧ s0 ≤ r0 ∧ r0 ≤ m ∧ r0 ≤ mid ∧ mid - s0 ≤ B.length ∧ (s0 = a ∨ mid - s0 = B.length) ∧ (r0 = m ∨ r0 = mid)) := by show _ ∧ _; have := e1.out; omega
    have es : True := trivial
    go_enter Try.func68, Try.ntmps68
    go_wp2
    go_loopg [20, 21] (r0 - s0) (fun kx vi vj wr => ∃ (s r : Nat), vi = .int .i64 s ∧ vj = .int .i64 r ∧ s0 ≤ s ∧ s ≤ r ∧ r ≤ r0 ∧ r - s ≤ kx ∧ Aside (s = s0 ∨ ∃ hA : s - 1 - a < A.length, ∃ hB : mid - s < B.length, a < s ∧ ltOf cf B[mid - s] A[s - 1 - a] = false) ∧ Aside (r = r0 ∨ ∃ hA : r - a < A.length, ∃ hB : mid - 1 - r < B.length, r < mid ∧ ltOf cf B[mid - 1 - r] A[r - a] = true) ∧ Aside (SW enc w0 blk off D wr))
    case atStart => exact ⟨s0, r0, by rw [hs0], by rw [hr0], Nat.le_refl _, e2.out.2.1, Nat.le_refl _, Nat.le_refl _, .inl rfl, .inl rfl, S0⟩
    case round =>
      clear S0 es hz9 hs0 hr0
      obtain ⟨s, r, rfl, rfl, h1, h2, h3, hk, HI, HJ, S1⟩ := hrel
      have e1' := e1.out
      have e2' := e2.out
      by_cases hlt : s < r
      · have hltz : (s : Int) < (r : Int) := by omega
        obtain ⟨c, hc0⟩ : ∃ c : Nat, c = (s + r) / 2 := ⟨_, rfl⟩
        have ec : ((s : Int) + (r : Int)) / 2 = (c : Int) := by omega
        obtain ⟨q, hq0⟩ : ∃ q : Nat, q + c = p := ⟨p - c, by omega⟩
        have eq : ((p : Int) - (c : Int)).toNat = q := by omega
        have eqn : p - c = q := by omega
        have pa2 : (c : Int) ≤ (p : Int) := by omega
        have rq : IntKind.i64.wrap ((p : Int) - (c : Int)) = (p : Int) - (c : Int) := by rw [IntKind.wrap_i64]; omega
        have hb1 : s ≤ c ∧ c < r := by omega
        have hca : c - a < A.length := by omega
        have hqb : q - m < B.length := by omega
        have hz1 : (s : Int) ≤ 1000000 ∧ (r : Int) ≤ 1000000 ∧ (c : Int) ≤ 1000000 := by omega
        have l1 := S1.out.cl R hl.out q (by rw [hl.out]; omega)
        have l2 := S1.out.cl R hl.out c (by rw [hl.out]; omega)
        rw [hBi.out q (by omega) hqb] at l1
        rw [hAi.out c (by omega) hca] at l2
        obtain ⟨x, hx⟩ : ∃ x, x = A[c - a] := ⟨_, rfl⟩
        obtain ⟨y, hy⟩ : ∃ y, y = B[q - m] := ⟨_, rfl⟩
        rw [← hy] at l1
        rw [← hx] at l2
        have hc := S1.out.cmp HC.out hl.out y x
        have bh : (c : Int) < (d0.size : Int) := by omega
        have ba : (p : Int) - (c : Int) < (d0.size : Int) := by omega
        have ph : (0 : Int) ≤ (c : Int) := by omega
        have pa : (0 : Int) ≤ (p : Int) - (c : Int) := by omega
        have HX := Lib.hid hx
        have HY := Lib.hid hy
        have H1 := Lib.hid (And.intro hb1 (And.intro hq0 (And.intro h1 (And.intro h2 h3))))
        have hrt : Hid (ltOf cf y x = true → ∃ hA : c - a < A.length, ∃ hB : mid - 1 - c < B.length, c < mid ∧ ltOf cf B[mid - 1 - c] A[c - a] = true) := Lib.hid (fun h => ⟨hca, by omega, by omega, by rw [← h, HX.out, HY.out]; congr 2; omega⟩)
        have hrf : Hid (ltOf cf y x = false → ∃ hA : c + 1 - 1 - a < A.length, ∃ hB : mid - (c + 1) < B.length, a < c + 1 ∧ ltOf cf B[mid - (c + 1)] A[c + 1 - 1 - a] = false) := Lib.hid (fun h => ⟨by omega, by omega, by omega, by rw [← h, HX.out, HY.out]; congr 2; omega⟩)
        clear hx hy hb1 hc0 hq0 e1' e2' h1 h2 h3
        go_wp2_with fail
        cases hlv : (ltOf cf) y x with
        | false =>
          have hv : ¬ cf y x < 0 := of_decide_eq_false hlv
          have hd : decide (cf y x < 0) = false := decide_eq_false hv
          go_quiet_grown (first | (go_at_fn g; refine Calls.grown_of (hc _ _)))
          have S2 : Aside (SW enc w0 blk off D (grow (wr.drewN nq) osq)) := S1.out.grown nq osq
          clear l1 l2 hc S1
          generalize grow (wr.drewN nq) osq = w2 at S2 ⊢
          clear nq osq
          go_wp2
          go_roundg (r - (c + 1))
          case measure => have := H1.out; omega
          case rel => exact ⟨c + 1, r, by simp, rfl, by have := H1.out; omega, by have := H1.out; omega, by have := H1.out; omega, Nat.le_refl _, .inr (hrf.out hlv), HJ, S2⟩
        | true =>
          have hv : cf y x < 0 := of_decide_eq_true hlv
          have hd : decide (cf y x < 0) = true := decide_eq_true hv
          go_quiet_grown (first | (go_at_fn g; refine Calls.grown_of (hc _ _)))
          have S2 : Aside (SW enc w0 blk off D (grow (wr.drewN nq) osq)) := S1.out.grown nq osq
          clear l1 l2 hc S1
          generalize grow (wr.drewN nq) osq = w2 at S2 ⊢
          clear nq osq
          go_wp2
          go_roundg (c - s)
          case measure => have := H1.out; omega
          case rel => exact ⟨s, c, rfl, rfl, by have := H1.out; omega, by have := H1.out; omega, by have := H1.out; omega, Nat.le_refl _, HI, .inr (hrt.out hlv), S2⟩
      · obtain rfl : s = r := by omega
        have hr := hrest.out s (by omega) (by omega) (by omega) (by omega) (by
          rcases HI.out with h | h
          · rcases e2'.2.2.2.2.2.1 with h' | h'
            · exact .inl (by omega)
            · exact .inr (.inl (by rw [h]; exact h'))
          · exact .inr (.inr h)) (by
          rcases HJ.out with h | h
          · rcases e2'.2.2.2.2.2.2 with h' | h'
            · exact .inl (by omega)
            · exact .inr (.inl (by omega))
          · exact .inr (.inr h))
        obtain ⟨D1, D2, H1, N1, H2, N2, H3, N3⟩ := hr
        have H1 := Lib.hid H1; have N1 := Lib.hid N1; have H2 := Lib.hid H2; have N2 := Lib.hid N2; have H3 := Lib.hid H3; have N3 := Lib.hid N3
        have hns : s ≤ n := by omega
        have hz1 : (s : Int) ≤ 1000000 ∧ (s : Int) ≤ (n : Int) ∧ (s : Int) ≤ (m : Int) ∧ (s : Int) ≤ (mid : Int) ∧ (n : Int) - (s : Int) ≤ (b : Int) ∧ (a : Int) ≤ (s : Int) := by omega
        have hnm : n = mid + m := by omega
        clear hrest HI HJ e2' hAi hBi
        by_cases ca : s < m
        · by_cases cb : s < mid
          · by_cases cc : a < s
            · by_cases cd : n - s < b
              · first
                | (exfalso; omega)
                | skip
                  have g0 : (s : Int) < (m : Int) ∧ (mid : Int) < (n : Int) - (s : Int) := by omega
                  have g1 : (s : Int) < (mid : Int) ∧ (m : Int) < (n : Int) - (s : Int) := by omega
                  have g2 : (a : Int) < (s : Int) := by omega
                  have g3 : (n : Int) - (s : Int) < (b : Int) := by omega
                  clear hns hnm e1' h1 h2 h3 hk
                  go_wp2_with (first | (go_at_call 73; (with_reducible refine (H1.out (by omega) (by omega) _ S1).mono ?_); rintro e w2 ⟨rfl, T1⟩) | (go_at_call 68; (with_reducible refine (H2.out (by omega) (by omega) _ T1).mono ?_); rintro e w3 ⟨rfl, T2⟩) | (go_at_call 68; (with_reducible refine (H3.out (by omega) (by omega) _ T2).mono ?_); rintro e w4 ⟨rfl, T3⟩))
                  go_end0
                  exact ⟨rfl, T3.out⟩
              · first
                | (exfalso; omega)
                | skip
                  have g0 : (s : Int) < (m : Int) ∧ (mid : Int) < (n : Int) - (s : Int) := by omega
                  have g1 : (s : Int) < (mid : Int) ∧ (m : Int) < (n : Int) - (s : Int) := by omega
                  have g2 : (a : Int) < (s : Int) := by omega
                  have g3 : ¬ (n : Int) - (s : Int) < (b : Int) := by omega
                  clear hns hnm e1' h1 h2 h3 hk
                  go_wp2_with (first | (go_at_call 73; (with_reducible refine (H1.out (by omega) (by omega) _ S1).mono ?_); rintro e w2 ⟨rfl, T1⟩) | (go_at_call 68; (with_reducible refine (H2.out (by omega) (by omega) _ T1).mono ?_); rintro e w3 ⟨rfl, T2⟩; have U3 := N3.out (by omega) _ T2))
                  go_end0
                  exact ⟨rfl, U3.out⟩
            · by_cases cd : n - s < b
              · first
                | (exfalso; omega)
                | skip
                  have g0 : (s : Int) < (m : Int) ∧ (mid : Int) < (n : Int) - (s : Int) := by omega
                  have g1 : (s : Int) < (mid : Int) ∧ (m : Int) < (n : Int) - (s : Int) := by omega
                  have g2 : ¬ (a : Int) < (s : Int) := by omega
                  have g3 : (n : Int) - (s : Int) < (b : Int) := by omega
                  clear hns hnm e1' h1 h2 h3 hk
                  go_wp2_with (first | (go_at_call 73; (with_reducible refine (H1.out (by omega) (by omega) _ S1).mono ?_); rintro e w2 ⟨rfl, T1⟩; have U2 := N2.out (by omega) _ T1) | (go_at_call 68; (with_reducible refine (H3.out (by omega) (by omega) _ U2).mono ?_); rintro e w4 ⟨rfl, T3⟩))
                  go_end0
                  exact ⟨rfl, T3.out⟩
              · first
                | (exfalso; omega)
                | skip
                  have g0 : (s : Int) < (m : Int) ∧ (mid : Int) < (n : Int) - (s : Int) := by omega
                  have g1 : (s : Int) < (mid : Int) ∧ (m : Int) < (n : Int) - (s : Int) := by omega
                  have g2 : ¬ (a : Int) < (s : Int) := by omega
                  have g3 : ¬ (n : Int) - (s : Int) < (b : Int) := by omega
                  clear hns hnm e1' h1 h2 h3 hk
                  go_wp2_with (first | (go_at_call 73; (with_reducible refine (H1.out (by omega) (by omega) _ S1).mono ?_); rintro e w2 ⟨rfl, T1⟩; have U2 := N2.out (by omega) _ T1; have U3 := N3.out (by omega) _ U2))
                  go_end0
                  exact ⟨rfl, U3.out⟩
          · by_cases cc : a < s
            · by_cases cd : n - s < b
              · first
                | (exfalso; omega)
                | skip
                  have g0 : (s : Int) < (m : Int) ∧ (mid : Int) < (n : Int) - (s : Int) := by omega
                  have g1 : ¬ (s : Int) < (mid : Int) ∧ ¬ (m : Int) < (n : Int) - (s : Int) := by omega
                  have g2 : (a : Int) < (s : Int) := by omega
                  have g3 : (n : Int) - (s : Int) < (b : Int) := by omega
                  have U1 := N1.out (by omega) _ S1
                  have U2 := N2.out (by omega) _ U1
                  clear hns hnm e1' h1 h2 h3 hk
                  go_wp2_with (first | (go_at_call 68; (with_reducible refine (H3.out (by omega) (by omega) _ U2).mono ?_); rintro e w4 ⟨rfl, T3⟩))
                  go_end0
                  exact ⟨rfl, T3.out⟩
              · first
                | (exfalso; omega)
                | skip
                  have g0 : (s : Int) < (m : Int) ∧ (mid : Int) < (n : Int) - (s : Int) := by omega
                  have g1 : ¬ (s : Int) < (mid : Int) ∧ ¬ (m : Int) < (n : Int) - (s : Int) := by omega
                  have g2 : (a : Int) < (s : Int) := by omega
                  have g3 : ¬ (n : Int) - (s : Int) < (b : Int) := by omega
                  have U1 := N1.out (by omega) _ S1
                  have U2 := N2.out (by omega) _ U1
                  have U3 := N3.out (by omega) _ U2
                  clear hns hnm e1' h1 h2 h3 hk
                  go_wp2_with fail
                  go_end0
                  exact ⟨rfl, U3.out⟩
            · by_cases cd : n - s < b
              · first
                | (exfalso; omega)
                | skip
                  have g0 : (s : Int) < (m : Int) ∧ (mid : Int) < (n : Int) - (s : Int) := by omega
                  have g1 : ¬ (s : Int) < (mid : Int) ∧ ¬ (m : Int) < (n : Int) - (s : Int) := by omega
                  have g2 : ¬ (a : Int) < (s : Int) := by omega
                  have g3 : (n : Int) - (s : Int) < (b : Int) := by omega
                  have U1 := N1.out (by omega) _ S1
                  have U2 := N2.out (by omega) _ U1
                  clear hns hnm e1' h1 h2 h3 hk
                  go_wp2_with (first | (go_at_call 68; (with_reducible refine (H3.out (by omega) (by omega) _ U2).mono ?_); rintro e w4 ⟨rfl, T3⟩))
                  go_end0
                  exact ⟨rfl, T3.out⟩
              · first
                | (exfalso; omega)
                | skip
                  have g0 : (s : Int) < (m : Int) ∧ (mid : Int) < (n : Int) - (s : Int) := by omega
                  have g1 : ¬ (s : Int) < (mid : Int) ∧ ¬ (m : Int) < (n : Int) - (s : Int) := by omega
                  have g2 : ¬ (a : Int) < (s : Int) := by omega
                  have g3 : ¬ (n : Int) - (s : Int) < (b : Int) := by omega
                  have U1 := N1.out (by omega) _ S1
                  have U2 := N2.out (by omega) _ U1
                  have U3 := N3.out (by omega) _ U2
                  clear hns hnm e1' h1 h2 h3 hk
                  go_wp2_with fail
                  go_end0
                  exact ⟨rfl, U3.out⟩
        · by_cases cb : s < mid
          · by_cases cc : a < s
            · by_cases cd : n - s < b
              · first
                | (exfalso; omega)
                | skip
                  have g0 : ¬ (s : Int) < (m : Int) ∧ ¬ (mid : Int) < (n : Int) - (s : Int) := by omega
                  have g1 : (s : Int) < (mid : Int) ∧ (m : Int) < (n : Int) - (s : Int) := by omega
                  have g2 : (a : Int) < (s : Int) := by omega
                  have g3 : (n : Int) - (s : Int) < (b : Int) := by omega
                  have U1 := N1.out (by omega) _ S1
                  clear hns hnm e1' h1 h2 h3 hk
                  go_wp2_with (first | (go_at_call 68; (with_reducible refine (H2.out (by omega) (by omega) _ U1).mono ?_); rintro e w3 ⟨rfl, T2⟩; have U3 := N3.out (by omega) _ T2))
                  go_end0
                  exact ⟨rfl, U3.out⟩
              · first
                | (exfalso; omega)
                | skip
                  have g0 : ¬ (s : Int) < (m : Int) ∧ ¬ (mid : Int) < (n : Int) - (s : Int) := by omega
                  have g1 : (s : Int) < (mid : Int) ∧ (m : Int) < (n : Int) - (s : Int) := by omega
                  have g2 : (a : Int) < (s : Int) := by omega
                  have g3 : ¬ (n : Int) - (s : Int) < (b : Int) := by omega
                  have U1 := N1.out (by omega) _ S1
                  clear hns hnm e1' h1 h2 h3 hk
                  go_wp2_with (first | (go_at_call 68; (with_reducible refine (H2.out (by omega) (by omega) _ U1).mono ?_); rintro e w3 ⟨rfl, T2⟩; have U3 := N3.out (by omega) _ T2))
                  go_end0
                  exact ⟨rfl, U3.out⟩
            · by_cases cd : n - s < b
              · first
                | (exfalso; omega)
                | skip
                  have g0 : ¬ (s : Int) < (m : Int) ∧ ¬ (mid : Int) < (n : Int) - (s : Int) := by omega
                  have g1 : (s : Int) < (mid : Int) ∧ (m : Int) < (n : Int) - (s : Int) := by omega
                  have g2 : ¬ (a : Int) < (s : Int) := by omega
                  have g3 : (n : Int) - (s : Int) < (b : Int) := by omega
                  have U1 := N1.out (by omega) _ S1
                  have U2 := N2.out (by omega) _ U1
                  have U3 := N3.out (by omega) _ U2
                  clear hns hnm e1' h1 h2 h3 hk
                  go_wp2_with fail
                  go_end0
                  exact ⟨rfl, U3.out⟩
              · first
                | (exfalso; omega)
                | skip
                  have g0 : ¬ (s : Int) < (m : Int) ∧ ¬ (mid : Int) < (n : Int) - (s : Int) := by omega
                  have g1 : (s : Int) < (mid : Int) ∧ (m : Int) < (n : Int) - (s : Int) := by omega
                  have g2 : ¬ (a : Int) < (s : Int) := by omega
                  have g3 : ¬ (n : Int) - (s : Int) < (b : Int) := by omega
                  have U1 := N1.out (by omega) _ S1
                  have U2 := N2.out (by omega) _ U1
                  have U3 := N3.out (by omega) _ U2
                  clear hns hnm e1' h1 h2 h3 hk
                  go_wp2_with fail
                  go_end0
                  exact ⟨rfl, U3.out⟩
          · by_cases cc : a < s
            · by_cases cd : n - s < b
              · first
                | (exfalso; omega)
                | skip
                  have g0 : ¬ (s : Int) < (m : Int) ∧ ¬ (mid : Int) < (n : Int) - (s : Int) := by omega
                  have g1 : ¬ (s : Int) < (mid : Int) ∧ ¬ (m : Int) < (n : Int) - (s : Int) := by omega
                  have g2 : (a : Int) < (s : Int) := by omega
                  have g3 : (n : Int) - (s : Int) < (b : Int) := by omega
                  have U1 := N1.out (by omega) _ S1
                  have U2 := N2.out (by omega) _ U1
                  have U3 := N3.out (by omega) _ U2
                  clear hns hnm e1' h1 h2 h3 hk
                  go_wp2_with fail
                  go_end0
                  exact ⟨rfl, U3.out⟩
              · first
                | (exfalso; omega)
                | skip
                  have g0 : ¬ (s : Int) < (m : Int) ∧ ¬ (mid : Int) < (n : Int) - (s : Int) := by omega
                  have g1 : ¬ (s : Int) < (mid : Int) ∧ ¬ (m : Int) < (n : Int) - (s : Int) := by omega
                  have g2 : (a : Int) < (s : Int) := by omega
                  have g3 : ¬ (n : Int) - (s : Int) < (b : Int) := by omega
                  have U1 := N1.out (by omega) _ S1
                  have U2 := N2.out (by omega) _ U1
                  have U3 := N3.out (by omega) _ U2
                  clear hns hnm e1' h1 h2 h3 hk
                  go_wp2_with fail
                  go_end0
                  exact ⟨rfl, U3.out⟩
            · by_cases cd : n - s < b
              · first
                | (exfalso; omega)
                | skip
                  have g0 : ¬ (s : Int) < (m : Int) ∧ ¬ (mid : Int) < (n : Int) - (s : Int) := by omega
                  have g1 : ¬ (s : Int) < (mid : Int) ∧ ¬ (m : Int) < (n : Int) - (s : Int) := by omega
                  have g2 : ¬ (a : Int) < (s : Int) := by omega
                  have g3 : (n : Int) - (s : Int) < (b : Int) := by omega
                  have U1 := N1.out (by omega) _ S1
                  have U2 := N2.out (by omega) _ U1
                  have U3 := N3.out (by omega) _ U2
                  clear hns hnm e1' h1 h2 h3 hk
                  go_wp2_with fail
                  go_end0
                  exact ⟨rfl, U3.out⟩
              · first
                | (exfalso; omega)
                | skip
                  have g0 : ¬ (s : Int) < (m : Int) ∧ ¬ (mid : Int) < (n : Int) - (s : Int) := by omega
                  have g1 : ¬ (s : Int) < (mid : Int) ∧ ¬ (m : Int) < (n : Int) - (s : Int) := by omega
                  have g2 : ¬ (a : Int) < (s : Int) := by omega
                  have g3 : ¬ (n : Int) - (s : Int) < (b : Int) := by omega
                  have U1 := N1.out (by omega) _ S1
                  have U2 := N2.out (by omega) _ U1
                  have U3 := N3.out (by omega) _ U2
                  clear hns hnm e1' h1 h2 h3 hk
                  go_wp2_with fail
                  go_end0
                  exact ⟨rfl, U3.out⟩
end Go.Proofs.Ytknmojjccfhchaa.St
