/- slices.symMergeCmpFunc at elements of one cell, walked. -/
import Derived.Test.YtknmojjccfhchaaSor
set_option linter.unusedVariables false
set_option linter.unusedSimpArgs false
namespace Go.Proofs.Ytknmojjccfhchaa.St
open Go Go.RowKit Go.Lib Go.Sort Go.Shelf Go.Proofs.YtknmojjccfhchaaW.PrintWords Go.Proofs.YtknmojjccfhchaaW.PrintMore Go.Proofs.Ytknmojjccfhchaa.RL Go.Proofs.Ytknmojjccfhchaa.PL
section
variable {α : Type}
theorem srt_take {lt : α → α → Bool} (O : WO lt) {B : List α} (sB : Srt lt B) (x : α) (n k : Nat) (hk : k < B.length) (hn : k + 1 = n) (h : lt B[k] x = true) : ∀ b ∈ B.take n, lt b x = true := by
  intro b hb
  obtain ⟨t, ht, rfl⟩ := List.getElem_of_mem hb
  rw [List.length_take] at ht
  rw [List.getElem_take]
  by_cases e : t = k
  · subst e; exact h
  · have := List.pairwise_iff_getElem.1 sB t k (by omega) hk (by omega)
    cases hx : lt B[t] x with
    | true => rfl
    | false => rw [O.neg x B[t] B[k] hx this] at h; cases h
theorem srt_drop {lt : α → α → Bool} (O : WO lt) {B : List α} (sB : Srt lt B) (x : α) (n : Nat) (hk : n < B.length) (h : lt B[n] x = false) : ∀ b ∈ B.drop n, lt b x = false := by
  intro b hb
  obtain ⟨t, ht, rfl⟩ := List.getElem_of_mem hb
  rw [List.length_drop] at ht
  rw [List.getElem_drop]
  by_cases e : t = 0
  · subst e; exact h
  · have := List.pairwise_iff_getElem.1 sB n (n + t) hk (by omega) (by omega)
    exact O.neg x B[n] B[n + t] h this
theorem srt_take' {lt : α → α → Bool} (O : WO lt) {A : List α} (sA : Srt lt A) (y : α) (n k : Nat) (hk : k < A.length) (hn : k + 1 = n) (h : lt y A[k] = false) : ∀ a ∈ A.take n, lt y a = false := by
  intro a hb
  obtain ⟨t, ht, rfl⟩ := List.getElem_of_mem hb
  rw [List.length_take] at ht
  rw [List.getElem_take]
  by_cases e : t = k
  · subst e; exact h
  · have := List.pairwise_iff_getElem.1 sA t k (by omega) hk (by omega)
    exact O.neg A[t] A[k] y this h
theorem srt_drop' {lt : α → α → Bool} (O : WO lt) {A : List α} (sA : Srt lt A) (y : α) (n : Nat) (hk : n < A.length) (h : lt y A[n] = true) : ∀ a ∈ A.drop n, lt y a = true := by
  intro a hb
  obtain ⟨t, ht, rfl⟩ := List.getElem_of_mem hb
  rw [List.length_drop] at ht
  rw [List.getElem_drop]
  by_cases e : t = 0
  · subst e; exact h
  · have := List.pairwise_iff_getElem.1 sA n (n + t) hk (by omega) (by omega)
    exact O.pos h this
end
variable {α : Type} [Inhabited α]
set_option maxHeartbeats 4000000 in
set_option maxRecDepth 1000000 in
/-- One ahead of a row. -/
theorem sym_one (enc : α → Value) (cf : α → α → Int) (g : Nat) (cb : Array Value) (blk off cap : Nat) (O : WO (ltOf cf)) (d0 : Array α) (w0 : World) (R : Row1 enc w0 blk off d0) (hsz : d0.size ≤ 1000000)
    (eg : ∀ args w, (callFunc g args).run Try.prog w = .ok (.enter g args) w) (hcmp : CmpLays1 Try.prog g cb enc cf blk off d0.size w0)
    (P B Z : List α) (x : α) (hB : 0 < B.length) (sB : Srt (ltOf cf) B) (a m b : Nat) (ha : a = P.length) (hm : m = P.length + 1) (hb : b = P.length + 1 + B.length) (hs : d0.size = (P ++ x :: B ++ Z).length) (w : World) (S : SW enc w0 blk off (P ++ x :: B ++ Z).toArray w) :
    Calls Try.prog 68 #[.slice (some ⟨blk, off, none⟩) d0.size cap, .int .i64 a, .int .i64 m, .int .i64 b, .func (.func g) #[] cb] w fun e w' => e = .returned (.tuple #[]) ∧ SW enc w0 blk off (P ++ mergeS (ltOf cf) [x] B ++ Z).toArray w' := by
  have mixed : Try.prog.follows Departure.mixedOrders = true := by kernel_rfl
  have hcl0 := R.hO.cells
  simp only [Value.cells] at hcl0
  have hst := R.hO.store Try.prog
  have HC : Aside _ := hcmp
  have hl : Aside ((P ++ x :: B ++ Z).toArray.size = d0.size) := by show _ = _; rw [hs]; simp
  have hS : Aside (b ≤ d0.size ∧ d0.size = P.length + 1 + B.length + Z.length) := by show _ ∧ _; rw [hs]; simp; omega
  have hx : Aside ((P ++ x :: B ++ Z).toArray[a]! = x) := by
    show _ = _
    have := arr_at P (B ++ Z) x
    rw [ha]; rwa [show P ++ x :: (B ++ Z) = P ++ x :: B ++ Z by simp] at this
  have hBi : Aside (∀ i, m ≤ i → ∀ h : i - m < B.length, (P ++ x :: B ++ Z).toArray[i]! = B[i - m]) := by
    show ∀ i, _
    intro i h1 h
    have := arr_at2 (P ++ [x]) B Z (i - m) h
    rw [show (P ++ [x]).length + (i - m) = i by simp; omega] at this
    rw [← this]; simp
  have S0 : Aside (SW enc w0 blk off (P ++ x :: B ++ Z).toArray w) := S
  have e1 : Aside (a + 1 = m ∧ m + B.length = b ∧ b ≤ 1000000) := by show _ ∧ _; have := hS.out; omega
  have f1 : (m : Int) - (a : Int) = 1 := by omega
  have hfin : Aside (∀ i, m ≤ i → i ≤ b → (i = m ∨ ∃ k, ∃ h : k < B.length, k + 1 = i - m ∧ ltOf cf B[k] x = true) → (i = b ∨ ∃ h : i - m < B.length, ltOf cf B[i - m] x = false) → shR (i - m) a (P ++ x :: B ++ Z).toArray = (P ++ mergeS (ltOf cf) [x] B ++ Z).toArray) := by
    show ∀ i, _
    intro i h1 h2 h3 h4
    have q1 : ∀ y ∈ B.take (i - m), ltOf cf y x = true := by
      rcases h3 with h | ⟨k, hk, h5, h6⟩
      · rw [h, Nat.sub_self]; intro y hy; simp at hy
      · exact srt_take O sB x _ k hk h5 h6
    have q2 : ∀ y ∈ B.drop (i - m), ltOf cf y x = false := by
      rcases h4 with h | ⟨h5, h6⟩
      · rw [List.drop_eq_nil_of_le (by omega)]; intro y hy; cases hy
      · exact srt_drop O sB x _ h5 h6
    have e := merge_one (ltOf cf) x (B.take (i - m)) (B.drop (i - m)) (by rw [List.take_append_drop]; exact sB) q1 q2
    have e2 := shR_is (B.take (i - m)) P (B.drop (i - m) ++ Z) x
    rw [List.take_append_drop] at e
    rw [e]
    rw [show (B.take (i - m)).length = i - m by rw [List.length_take]; omega, show P ++ x :: B.take (i - m) ++ (B.drop (i - m) ++ Z) = P ++ x :: B ++ Z by
      simp only [List.append_assoc, List.cons_append]; rw [← List.append_assoc (List.take _ _), List.take_append_drop]] at e2
    rw [ha, e2]; simp
  obtain ⟨D, hD⟩ : ∃ D, D = (P ++ x :: B ++ Z).toArray := ⟨_, rfl⟩
  obtain ⟨T, hTT⟩ : ∃ T, T = (P ++ mergeS (ltOf cf) [x] B ++ Z).toArray := ⟨_, rfl⟩
  rw [← hD] at S0 hl hx hBi hfin
  rw [← hTT] at hfin ⊢
  have hz : (a : Int) < 1000000 ∧ (m : Int) < 1000000 ∧ (b : Int) ≤ 1000000 := by have := e1.out; omega
  clear S hs hcmp ha hm hb hD hTT
  go_enter Try.func68, Try.ntmps68
  go_wp2
  go_loopg [10, 11] (b - m) (fun kx vi vj wr => ∃ (i j : Nat), vi = .int .i64 i ∧ vj = .int .i64 j ∧ m ≤ i ∧ i ≤ j ∧ j ≤ b ∧ j - i ≤ kx ∧ Aside (i = m ∨ ∃ k, ∃ h : k < B.length, k + 1 = i - m ∧ ltOf cf B[k] x = true) ∧ Aside (j = b ∨ ∃ h : j - m < B.length, ltOf cf B[j - m] x = false) ∧ Aside (SW enc w0 blk off D wr))
  case atStart => exact ⟨m, b, rfl, rfl, Nat.le_refl _, by have := e1.out; omega, Nat.le_refl _, Nat.le_refl _, .inl rfl, .inl rfl, S0⟩
  case round =>
    clear S0
    obtain ⟨i, j, rfl, rfl, h1, h2, h3, hk, HI, HJ, S1⟩ := hrel
    by_cases hlt : i < j
    · have hltz : (i : Int) < (j : Int) := by omega
      go_wp2_with fail
      obtain ⟨h, hh⟩ : ∃ h : Nat, h = (i + j) / 2 := ⟨_, rfl⟩
      have eh : ((i : Int) + (j : Int)) / 2 = (h : Int) := by omega
      rw [eh]
      have hb1 : i ≤ h ∧ h < j := by omega
      have e1' := e1.out
      have hS' := hS.out
      have hyb : h - m < B.length := by omega
      have l1 := S1.out.cl R hl.out h (by rw [hl.out]; omega)
      have l2 := S1.out.cl R hl.out a (by rw [hl.out]; omega)
      rw [hBi.out h (by omega) hyb] at l1
      rw [hx.out] at l2
      obtain ⟨y, hy⟩ : ∃ y, y = B[h - m] := ⟨_, rfl⟩
      rw [← hy] at l1
      have hc := S1.out.cmp HC.out hl.out y x
      have bh : (h : Int) < (d0.size : Int) := by omega
      have ba : (a : Int) < (d0.size : Int) := by omega
      have ph : (0 : Int) ≤ (h : Int) := by omega
      have pa : (0 : Int) ≤ (a : Int) := by omega
      have hz2 : (h : Int) ≤ 1000000 := by omega
      have HY := Lib.hid hy
      have H1 := Lib.hid hb1
      clear hy hb1 hh eh hS' e1' f1 hltz
      cases hlv : (ltOf cf) y x with
      | true =>
        have hv : cf y x < 0 := of_decide_eq_true hlv
        have hd : decide (cf y x < 0) = true := decide_eq_true hv
        go_quiet_grown (first | (go_at_fn g; refine Calls.grown_of (hc _ _)))
        have S2 : Aside (SW enc w0 blk off D (grow (wr.drewN nq) osq)) := S1.out.grown nq osq
        clear l1 l2 hc S1
        generalize grow (wr.drewN nq) osq = w2 at S2 ⊢
        clear nq osq
        go_wp2
        go_roundg (j - (h + 1))
        case measure => have := H1.out; omega
        case rel => exact ⟨h + 1, j, by simp, rfl, by have := H1.out; omega, by have := H1.out; omega, h3, Nat.le_refl _, .inr ⟨h - m, hyb, by have := H1.out; omega, by rw [← HY.out]; exact hlv⟩, HJ, S2⟩
      | false =>
        have hv : ¬ cf y x < 0 := of_decide_eq_false hlv
        have hd : decide (cf y x < 0) = false := decide_eq_false hv
        go_quiet_grown (first | (go_at_fn g; refine Calls.grown_of (hc _ _)))
        have S2 : Aside (SW enc w0 blk off D (grow (wr.drewN nq) osq)) := S1.out.grown nq osq
        clear l1 l2 hc S1
        generalize grow (wr.drewN nq) osq = w2 at S2 ⊢
        clear nq osq
        go_wp2
        go_roundg (h - i)
        case measure => have := H1.out; omega
        case rel => exact ⟨i, h, rfl, rfl, h1, by have := H1.out; omega, by have := H1.out; omega, Nat.le_refl _, HI, .inr ⟨hyb, by rw [← HY.out]; exact hlv⟩, S2⟩
    · obtain rfl : i = j := by omega
      have hT := hfin.out i h1 h3 HI.out HJ.out
      have HT : Aside _ := hT
      clear hfin hT HI HJ hBi hx
      go_wp2_with fail
      go_loopg [13] (i - m) (fun kx vk wr => ∃ (k : Nat) (dk : Array α), vk = .int .i64 k ∧ a ≤ k ∧ k + 1 ≤ i ∧ i - 1 - k ≤ kx ∧ dk.size = d0.size ∧ Aside (SW enc w0 blk off dk wr) ∧ Aside (shR (i - 1 - k) k dk = T))
      case atStart => exact ⟨a, D, rfl, Nat.le_refl _, by have := e1.out; omega, by have := e1.out; omega, hl.out, S1, by show _ = _; rw [show i - 1 - a = i - m by have := e1.out; omega]; exact HT.out⟩
      case round =>
        clear S1 HT
        obtain ⟨k, dk, rfl, h5, h6, hk5, hds, S1, HT⟩ := hrel
        by_cases hlt2 : k + 1 < i
        · have hltz : (k : Int) < (i : Int) - 1 := by omega
          have e1' := e1.out
          have hS' := hS.out
          have rk : IntKind.i64.wrap ((i : Int) - 1) = (i : Int) - 1 := by rw [IntKind.wrap_i64]; omega
          go_wp2_with fail
          obtain ⟨iN, hiN⟩ : ∃ q, q = k := ⟨_, rfl⟩
          obtain ⟨jN, hjN⟩ : ∃ q, q = k + 1 := ⟨_, rfl⟩
          have ea : ((k : Int)).toNat = iN := by omega
          have pa : (0 : Int) ≤ (k : Int) := by omega
          have ba : (k : Int) < (d0.size : Int) := by omega
          have ra : IntKind.i64.wrap ((k : Int)) = (k : Int) := by rw [IntKind.wrap_i64]; omega
          have ec : ((k : Int) + 1).toNat = jN := by omega
          have pc : (0 : Int) ≤ (k : Int) + 1 := by omega
          have bc : (k : Int) + 1 < (d0.size : Int) := by omega
          have rc : IntKind.i64.wrap ((k : Int) + 1) = (k : Int) + 1 := by rw [IntKind.wrap_i64]; omega
          obtain ⟨x', hx'⟩ : ∃ x, x = dk[k]! := ⟨_, rfl⟩
          obtain ⟨y', hy'⟩ : ∃ x, x = dk[k + 1]! := ⟨_, rfl⟩
          have S2 : Aside (SW enc w0 blk off (swp dk (k) (k + 1)) ((wr.setCell ⟨blk, off + iN, none⟩ (enc y')).setCell ⟨blk, off + jN, none⟩ (enc x')).drew) := by rw [hiN, hjN, hx', hy']; exact S1.out.swapped R (k) (k + 1) (by omega) (by omega)
          have ca := S1.out.c1 R (by omega) (k) (by omega)
          have cb' := S1.out.c1 R (by omega) (k + 1) (by omega)
          have fa := S1.out.f1 R (by omega) (k) (by omega)
          have fb := S1.out.f1 R (by omega) (k + 1) (by omega)
          obtain ⟨u, cc⟩ := S1.out.c2 R (by omega) (k) (k + 1) (by omega) (by omega) (enc y')
          rw [← hjN, ← hiN] at cc
          rw [← hx', ← hiN] at ca
          rw [← hy', ← hjN] at cb'
          rw [← hiN] at fa
          rw [← hjN] at fb
          clear S1 hx' hy' hiN hjN
          go_wp2_with fail
          go_big_region_o
          clear ca cb' cc fa fb
          generalize ((wr.setCell ⟨blk, off + iN, none⟩ (enc y')).setCell ⟨blk, off + jN, none⟩ (enc x')).drew = w2 at S2 ⊢
          clear ea ec
          clear rk
          go_wp2
          go_roundg (i - 1 - (k + 1))
          case measure => omega
          case rel => exact ⟨k + 1, swp dk k (k + 1), by simp, by omega, by omega, Nat.le_refl _, by rw [size_swp]; exact hds, S2, by show _ = _; rw [← HT.out, show i - 1 - k = (i - 1 - (k + 1)) + 1 by omega, shR]⟩
        · have hltz : ¬ (k : Int) < (i : Int) - 1 := by omega
          have e1' := e1.out
          have hR : Aside (SW enc w0 blk off T wr) := by
            have := HT.out
            rw [show i - 1 - k = 0 by omega, shR] at this
            rw [← this]
            exact S1.out
          go_wp2
          exact bodyPost_ret (v := .tuple #[]) (by simp [results, Try.results68, go_sem]) rfl ⟨rfl, hR.out⟩
set_option maxHeartbeats 4000000 in
set_option maxRecDepth 1000000 in
/-- One behind a row. -/
theorem sym_last (enc : α → Value) (cf : α → α → Int) (g : Nat) (cb : Array Value) (blk off cap : Nat) (O : WO (ltOf cf)) (d0 : Array α) (w0 : World) (R : Row1 enc w0 blk off d0) (hsz : d0.size ≤ 1000000)
    (eg : ∀ args w, (callFunc g args).run Try.prog w = .ok (.enter g args) w) (hcmp : CmpLays1 Try.prog g cb enc cf blk off d0.size w0)
    (P A Z : List α) (y : α) (hA : 2 ≤ A.length) (sA : Srt (ltOf cf) A) (a m b : Nat) (ha : a = P.length) (hm : m = P.length + A.length) (hb : b = P.length + A.length + 1) (hs : d0.size = (P ++ A ++ y :: Z).length) (w : World) (S : SW enc w0 blk off (P ++ A ++ y :: Z).toArray w) :
    Calls Try.prog 68 #[.slice (some ⟨blk, off, none⟩) d0.size cap, .int .i64 a, .int .i64 m, .int .i64 b, .func (.func g) #[] cb] w fun e w' => e = .returned (.tuple #[]) ∧ SW enc w0 blk off (P ++ mergeS (ltOf cf) A [y] ++ Z).toArray w' := by
  have mixed : Try.prog.follows Departure.mixedOrders = true := by kernel_rfl
  have hcl0 := R.hO.cells
  simp only [Value.cells] at hcl0
  have hst := R.hO.store Try.prog
  have HC : Aside _ := hcmp
  have hl : Aside ((P ++ A ++ y :: Z).toArray.size = d0.size) := by show _ = _; rw [hs]; simp
  have hS : Aside (b ≤ d0.size ∧ d0.size = P.length + A.length + 1 + Z.length) := by show _ ∧ _; rw [hs]; simp; omega
  have hx : Aside ((P ++ A ++ y :: Z).toArray[m]! = y) := by
    show _ = _
    have := arr_at (P ++ A) Z y
    rw [hm]; rwa [show (P ++ A).length = P.length + A.length by simp] at this
  have hBi : Aside (∀ i, a ≤ i → ∀ h : i - a < A.length, (P ++ A ++ y :: Z).toArray[i]! = A[i - a]) := by
    show ∀ i, _
    intro i h1 h
    have := arr_at2 P A (y :: Z) (i - a) h
    rw [show P.length + (i - a) = i by omega] at this
    rw [← this]
  have S0 : Aside (SW enc w0 blk off (P ++ A ++ y :: Z).toArray w) := S
  have e1 : Aside (a + A.length = m ∧ m + 1 = b ∧ b ≤ 1000000) := by show _ ∧ _; have := hS.out; omega
  have f0 : ((m : Int) - (a : Int) == 1) = false := by rw [beq_eq_false_iff_ne]; omega
  have f1 : (b : Int) - (m : Int) = 1 := by omega
  have hfin : Aside (∀ i, a ≤ i → i ≤ m → (i = a ∨ ∃ k, ∃ h : k < A.length, k + 1 = i - a ∧ ltOf cf y A[k] = false) → (i = m ∨ ∃ h : i - a < A.length, ltOf cf y A[i - a] = true) → shL (m - i) m (P ++ A ++ y :: Z).toArray = (P ++ mergeS (ltOf cf) A [y] ++ Z).toArray) := by
    show ∀ i, _
    intro i h1 h2 h3 h4
    have q1 : ∀ x ∈ A.take (i - a), ltOf cf y x = false := by
      rcases h3 with h | ⟨k, hk, h5, h6⟩
      · rw [h, Nat.sub_self]; intro y hy; simp at hy
      · exact srt_take' O sA y _ k hk h5 h6
    have q2 : ∀ x ∈ A.drop (i - a), ltOf cf y x = true := by
      rcases h4 with h | ⟨h5, h6⟩
      · rw [List.drop_eq_nil_of_le (by omega)]; intro y hy; cases hy
      · exact srt_drop' O sA y _ h5 h6
    have e := merge_last (ltOf cf) y (A.take (i - a)) (A.drop (i - a)) q1 q2
    have e2 := shL_is (A.drop (i - a)) (P ++ A.take (i - a)) Z y
    rw [List.take_append_drop] at e
    rw [e]
    rw [show (A.drop (i - a)).length = m - i by rw [List.length_drop]; omega, show (P ++ A.take (i - a)).length + (m - i) = m by rw [List.length_append, List.length_take]; omega, show P ++ A.take (i - a) ++ A.drop (i - a) ++ y :: Z = P ++ A ++ y :: Z by rw [List.append_assoc P, List.take_append_drop]] at e2
    rw [e2]; simp
  obtain ⟨D, hD⟩ : ∃ D, D = (P ++ A ++ y :: Z).toArray := ⟨_, rfl⟩
  obtain ⟨T, hTT⟩ : ∃ T, T = (P ++ mergeS (ltOf cf) A [y] ++ Z).toArray := ⟨_, rfl⟩
  rw [← hD] at S0 hl hx hBi hfin
  rw [← hTT] at hfin ⊢
  have hz : (a : Int) < 1000000 ∧ (m : Int) < 1000000 ∧ (b : Int) ≤ 1000000 := by have := e1.out; omega
  clear S hs hcmp ha hm hb hD hTT hA
  go_enter Try.func68, Try.ntmps68
  go_wp2
  go_loopg [14, 15] (m - a) (fun kx vi vj wr => ∃ (i j : Nat), vi = .int .i64 i ∧ vj = .int .i64 j ∧ a ≤ i ∧ i ≤ j ∧ j ≤ m ∧ j - i ≤ kx ∧ Aside (i = a ∨ ∃ k, ∃ h : k < A.length, k + 1 = i - a ∧ ltOf cf y A[k] = false) ∧ Aside (j = m ∨ ∃ h : j - a < A.length, ltOf cf y A[j - a] = true) ∧ Aside (SW enc w0 blk off D wr))
  case atStart => exact ⟨a, m, rfl, rfl, Nat.le_refl _, by have := e1.out; omega, Nat.le_refl _, Nat.le_refl _, .inl rfl, .inl rfl, S0⟩
  case round =>
    clear S0
    obtain ⟨i, j, rfl, rfl, h1, h2, h3, hk, HI, HJ, S1⟩ := hrel
    by_cases hlt : i < j
    · have hltz : (i : Int) < (j : Int) := by omega
      go_wp2_with fail
      obtain ⟨h, hh⟩ : ∃ h : Nat, h = (i + j) / 2 := ⟨_, rfl⟩
      have eh : ((i : Int) + (j : Int)) / 2 = (h : Int) := by omega
      rw [eh]
      have hb1 : i ≤ h ∧ h < j := by omega
      have e1' := e1.out
      have hS' := hS.out
      have hyb : h - a < A.length := by omega
      have l1 := S1.out.cl R hl.out h (by rw [hl.out]; omega)
      have l2 := S1.out.cl R hl.out m (by rw [hl.out]; omega)
      rw [hBi.out h (by omega) hyb] at l1
      rw [hx.out] at l2
      obtain ⟨x, hy⟩ : ∃ x, x = A[h - a] := ⟨_, rfl⟩
      rw [← hy] at l1
      have hc := S1.out.cmp HC.out hl.out y x
      have bh : (h : Int) < (d0.size : Int) := by omega
      have ba : (m : Int) < (d0.size : Int) := by omega
      have ph : (0 : Int) ≤ (h : Int) := by omega
      have pa : (0 : Int) ≤ (m : Int) := by omega
      have hz2 : (h : Int) ≤ 1000000 := by omega
      have HY := Lib.hid hy
      have H1 := Lib.hid hb1
      clear hy hb1 hh eh hS' e1' f1 f0 hltz
      cases hlv : (ltOf cf) y x with
      | false =>
        have hv : ¬ cf y x < 0 := of_decide_eq_false hlv
        have hd : decide (cf y x < 0) = false := decide_eq_false hv
        go_quiet_grown (first | (go_at_fn g; refine Calls.grown_of (hc _ _)))
        have S2 : Aside (SW enc w0 blk off D (grow (wr.drewN nq) osq)) := S1.out.grown nq osq
        clear l1 l2 hc S1
        generalize grow (wr.drewN nq) osq = w2 at S2 ⊢
        clear nq osq
        go_wp2
        go_roundg (j - (h + 1))
        case measure => have := H1.out; omega
        case rel => exact ⟨h + 1, j, by simp, rfl, by have := H1.out; omega, by have := H1.out; omega, h3, Nat.le_refl _, .inr ⟨h - a, hyb, by have := H1.out; omega, by rw [← HY.out]; exact hlv⟩, HJ, S2⟩
      | true =>
        have hv : cf y x < 0 := of_decide_eq_true hlv
        have hd : decide (cf y x < 0) = true := decide_eq_true hv
        go_quiet_grown (first | (go_at_fn g; refine Calls.grown_of (hc _ _)))
        have S2 : Aside (SW enc w0 blk off D (grow (wr.drewN nq) osq)) := S1.out.grown nq osq
        clear l1 l2 hc S1
        generalize grow (wr.drewN nq) osq = w2 at S2 ⊢
        clear nq osq
        go_wp2
        go_roundg (h - i)
        case measure => have := H1.out; omega
        case rel => exact ⟨i, h, rfl, rfl, h1, by have := H1.out; omega, by have := H1.out; omega, Nat.le_refl _, HI, .inr ⟨hyb, by rw [← HY.out]; exact hlv⟩, S2⟩
    · obtain rfl : i = j := by omega
      have hT := hfin.out i h1 h3 HI.out HJ.out
      have HT : Aside _ := hT
      clear hfin hT HI HJ hBi hx
      go_wp2_with fail
      go_loopg [17] (m - i) (fun kx vk wr => ∃ (k : Nat) (dk : Array α), vk = .int .i64 k ∧ i ≤ k ∧ k ≤ m ∧ k - i ≤ kx ∧ dk.size = d0.size ∧ Aside (SW enc w0 blk off dk wr) ∧ Aside (shL (k - i) k dk = T))
      case atStart => exact ⟨m, D, rfl, h3, Nat.le_refl _, Nat.le_refl _, hl.out, S1, HT⟩
      case round =>
        clear S1 HT
        obtain ⟨k, dk, rfl, h5, h6, hk5, hds, S1, HT⟩ := hrel
        by_cases hlt2 : i < k
        · have hltz : (i : Int) < (k : Int) := by omega
          have e1' := e1.out
          have hS' := hS.out
          go_wp2_with fail
          obtain ⟨iN, hiN⟩ : ∃ q, q = k := ⟨_, rfl⟩
          obtain ⟨jN, hjN⟩ : ∃ q, q = k - 1 := ⟨_, rfl⟩
          have ea : ((k : Int)).toNat = iN := by omega
          have pa : (0 : Int) ≤ (k : Int) := by omega
          have ba : (k : Int) < (d0.size : Int) := by omega
          have ra : IntKind.i64.wrap ((k : Int)) = (k : Int) := by rw [IntKind.wrap_i64]; omega
          have ec : ((k : Int) - 1).toNat = jN := by omega
          have pc : (0 : Int) ≤ (k : Int) - 1 := by omega
          have bc : (k : Int) - 1 < (d0.size : Int) := by omega
          have rc : IntKind.i64.wrap ((k : Int) - 1) = (k : Int) - 1 := by rw [IntKind.wrap_i64]; omega
          obtain ⟨x', hx'⟩ : ∃ x, x = dk[k]! := ⟨_, rfl⟩
          obtain ⟨y', hy'⟩ : ∃ x, x = dk[k - 1]! := ⟨_, rfl⟩
          have S2 : Aside (SW enc w0 blk off (swp dk (k) (k - 1)) ((wr.setCell ⟨blk, off + iN, none⟩ (enc y')).setCell ⟨blk, off + jN, none⟩ (enc x')).drew) := by rw [hiN, hjN, hx', hy']; exact S1.out.swapped R (k) (k - 1) (by omega) (by omega)
          have ca := S1.out.c1 R (by omega) (k) (by omega)
          have cb' := S1.out.c1 R (by omega) (k - 1) (by omega)
          have fa := S1.out.f1 R (by omega) (k) (by omega)
          have fb := S1.out.f1 R (by omega) (k - 1) (by omega)
          obtain ⟨u, cc⟩ := S1.out.c2 R (by omega) (k) (k - 1) (by omega) (by omega) (enc y')
          rw [← hjN, ← hiN] at cc
          rw [← hx', ← hiN] at ca
          rw [← hy', ← hjN] at cb'
          rw [← hiN] at fa
          rw [← hjN] at fb
          clear S1 hx' hy' hiN hjN
          go_wp2_with fail
          go_big_region_o
          clear ca cb' cc fa fb
          generalize ((wr.setCell ⟨blk, off + iN, none⟩ (enc y')).setCell ⟨blk, off + jN, none⟩ (enc x')).drew = w2 at S2 ⊢
          clear ea ec
          go_wp2
          go_roundg (k - 1 - i)
          case measure => omega
          case rel => exact ⟨k - 1, swp dk k (k - 1), by first | rfl | go_num | (congr 1; omega), by omega, by omega, Nat.le_refl _, by rw [size_swp]; exact hds, S2, by show _ = _; rw [← HT.out, show k - i = (k - 1 - i) + 1 by omega, shL]⟩
        · have hltz : ¬ (i : Int) < (k : Int) := by omega
          have hR : Aside (SW enc w0 blk off T wr) := by
            have := HT.out
            rw [show k - i = 0 by omega, shL] at this
            rw [← this]
            exact S1.out
          go_wp2
          exact bodyPost_ret (v := .tuple #[]) (by simp [results, Try.results68, go_sem]) rfl ⟨rfl, hR.out⟩
end Go.Proofs.Ytknmojjccfhchaa.St
