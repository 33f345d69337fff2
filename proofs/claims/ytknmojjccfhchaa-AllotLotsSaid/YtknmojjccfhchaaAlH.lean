/- Texts laid together by join.py: AlL AlF AlH. -/
import Derived.Test.YtknmojjccfhchaaAl6
import Derived.Test.YtknmojjccfhchaaAlP
import Derived.Test.YtknmojjccfhchaaUx10
import Derived.Test.YtknmojjccfhchaaUx14
import Derived.Deep.QuietTactic
import Derived.BigQuiet
/- Shares as the document has them, walked. -/
set_option linter.unusedVariables false
set_option linter.unusedSimpArgs false
namespace Go.Proofs.Ytknmojjccfhchaa.Hand
open Go Go.RowKit Go.Proofs.YtknmojjccfhchaaW.PrintWords Go.Proofs.YtknmojjccfhchaaW.PrintMore Go.Proofs.Ytknmojjccfhchaa.RL Go.Proofs.Ytknmojjccfhchaa.PL
abbrev Shd := U.S49
abbrev kD : Kd Shd := U.k49
def cvS (x : Shr) : Shd := ⟨x.f0, x.f1, x.f2⟩
theorem info_shd : (Try.prog.info? 49).map (fun i => (i.zero, i.size, i.bytes)) = some (some (.agg #[.int .i64 0, .int .i64 0, .int .i64 0]), 3, 24) := by kernel_rfl
set_option maxHeartbeats 4000000 in
set_option maxRecDepth 100000 in
theorem plain_walk (A : Option Addr) (c : Nat) (l : List Shr) (h3 : l.length ≤ 1000000) (w : World) (hl : Kd.C kS w A l.length l) :
    Calls Try.prog 11 #[.slice A l.length c] w fun e w' => ∃ v0_ : Value, e = .returned v0_ ∧ Kd.R kD 49 w' w.heap.size (fun _ => True) v0_ (l.map cvS) ∧ Below w.heap.size w w' := by
  have hrd : ∀ w' (j : Nat), Below w.heap.size w w' → j < l.length → ∃ ad, A = some ad ∧ w'.cell? (ad.add (j * 3)) = some (.int .i64 (shr l j).f0) ∧ w'.cell? ⟨(ad.add (j * 3)).block, (ad.add (j * 3)).off + 1, none⟩ = some (.int .i64 (shr l j).f1) ∧ w'.cell? ⟨(ad.add (j * 3)).block, (ad.add (j * 3)).off + 2, none⟩ = some (.int .i64 (shr l j).f2) := fun w' j hbw hj => by
    have := U.at_T42 (Kd.C_below hl hbw) (j : Int) (by omega) (by omega)
    rwa [Int.toNat_natCast] at this
  have hap : ∀ j : Nat, j < l.length → (l.take (j + 1)).map cvS = (l.take j).map cvS ++ [⟨(shr l j).f0, (shr l j).f1, (shr l j).f2⟩] := fun j hj => by
    have e : shr l j = l[j] := by unfold shr U.rd_T42; rw [Int.toNat_natCast, List.getD_eq_getElem?_getD, List.getElem?_eq_getElem hj]; rfl
    rw [List.take_succ_eq_append_getElem hj, List.map_append, e]; rfl
  have HR := Lib.hid hrd; have HA := Lib.hid hap
  have Hinf := Lib.hid info_shd
  clear hrd hap hl
  go_enter Try.func11, Try.ntmps11
  go_wp2_with fail
  go_loopw [3, 8] (fun v i wr => ∃ k : Nat, k ≤ l.length ∧ i = .int .i64 k ∧ Hid (Kd.R kD 49 wr w.heap.size (fun _ => True) v ((l.take k).map cvS) ∧ Below w.heap.size w wr)) (fun _ i _ => l.length - (intOf i).toNat)
  case atStart => exact ⟨0, Nat.zero_le _, rfl, Lib.hid ⟨Kd.R_nil _ _ _ _ _, Below.refl _ _⟩⟩
  case round =>
    obtain ⟨k, hk, rfl, H⟩ := hrel
    by_cases hlt : k < l.length
    · obtain ⟨r, b⟩ := H.out
      obtain ⟨ad, rfl, c0, c1, c2⟩ := HR.out wr k b hlt
      have htk := HA.out k hlt
      have hlen : ((l.take k).map cvS).length = k := by rw [List.length_map, List.length_take]; omega
      have HT := Lib.hid htk
      have HLn := Lib.hid hlen
      have q0 : (ad.add (k * 3)).block < wr.heap.size := World.block_lt_of_cell? wr _ c0
      generalize (shr l k).f0 = y0 at *
      generalize (shr l k).f1 = y1 at *
      generalize (shr l k).f2 = y2 at *
      clear htk hlen
      have kbx := Blk.new wr 42 #[.int .i64 y0, .int .i64 y1, .int .i64 y2]
      have R5 := Lib.hid (Kd.R_below r ((Below.refl wr.heap.size wr).alloc (Nat.le_refl _) (.cells #[.int .i64 y0, .int .i64 y1, .int .i64 y2] 42)))
      have B5 := Lib.hid (b.alloc b.size (.cells #[.int .i64 y0, .int .i64 y1, .int .i64 y2] 42))
      have KX := Lib.hid kbx
      have hs5 : w.heap.size ≤ (wr.alloc (.cells #[.int .i64 y0, .int .i64 y1, .int .i64 y2] 42)).heap.size := by have := b.size; simp; omega
      clear r b kbx H HR HA
      have tot : ((l.take k).map cvS).length + 1 ≤ 1000000 := by rw [HLn.out]; omega
      go_upto_region 5 with (fail)
      generalize hW5 : (wr.alloc (.cells #[.int .i64 y0, .int .i64 y1, .int .i64 y2] 42)) = W5 at *
      generalize wr.heap.size = bx at *
      have x0 : W5.cell? ⟨bx, 0, none⟩ = some (.int .i64 y0) := KX.out.cell 0
      have x1 : W5.cell? ⟨bx, 1, none⟩ = some (.int .i64 y1) := KX.out.cell 1
      have x2 : W5.cell? ⟨bx, 2, none⟩ = some (.int .i64 y2) := KX.out.cell 2
      clear hW5
      go_wp2_with (at_builtin; (refine Kd.R_append kD (w0 := w) w.heap.size rfl (.tmp 12) (.tmp 14) 29 49 (.agg #[.int .i64 0, .int .i64 0, .int .i64 0]) 24 rfl Try.underlying29 Hinf.out rfl (by decide) (by omega) u3 ((l.take k).map cvS) ⟨y0, y1, y2⟩ [.int .i64 y0, .int .i64 y1, .int .i64 y2] (fun _ => True) (fun _ => False) rfl rfl (U.k49_mkM _ _ _ (⟨y0, y1, y2⟩ : Shd)) (fun _ hk => hk.elim) (fun _ _ => trivial) R5.out B5.out hs5 (by omega) ?_); intro v1 w6 ho hb hg hat)
      have HF := Lib.hid (show Kd.R kD 49 w6 w.heap.size (fun _ => True) v1 ((l.take (k + 1)).map cvS) ∧ Below w.heap.size w w6 from ⟨by rw [HT.out]; exact ho, hb⟩)
      clear ho hb hg hat R5 B5 KX HT HLn
      go_wp2_with fail
      go_roundw
      case rel => exact ⟨k + 1, by omega, by go_num, HF⟩
      case measure => simp [intOf]; omega
    · obtain rfl : l.length = k := by omega
      go_wp2_with fail
      go_ret
      obtain ⟨r, b⟩ := H.out
      rw [List.take_length] at r
      exact ⟨_, rfl, r, b⟩
def spigotlaw36_plain.f (l0 : List Shr) : Option (List Shd) := if l0.length ≤ 1000000 then some (l0.map cvS) else none
theorem spigotlaw36_plain.calls (A0 : Option Addr) (c0 : Nat) (l0 : List Shr) (r : List Shd) (w : World) (hr0 : Kd.C kS w A0 l0.length l0) (hc0 : l0.length ≤ c0) (h : spigotlaw36_plain.f l0 = some r) :
    Calls Try.prog 11 #[.slice A0 l0.length c0] w fun e w' => ∃ v0_ : Value, e = .returned v0_ ∧ Kd.R kD 49 w' w.heap.size (fun _ => True) v0_ r ∧ Below w.heap.size w w' := by
  unfold spigotlaw36_plain.f at h
  split at h
  case isFalse => cases h
  case isTrue hlen =>
    have h := Option.some.inj h
    subst h
    exact plain_walk A0 c0 l0 hlen w hr0
end Go.Proofs.Ytknmojjccfhchaa.Hand

/- Rounds enough; sums and what is asked for, as the document has them, plainly. -/
set_option linter.unusedVariables false
set_option linter.unusedSimpArgs false
namespace Go.Proofs.Ytknmojjccfhchaa.Hand
open Go Go.RowKit Go.Proofs.Ytknmojjccfhchaa.U Go.Proofs.YtknmojjccfhchaaW.PrintWords Go.Proofs.YtknmojjccfhchaaW.PrintMore Go.Proofs.Ytknmojjccfhchaa.RL Go.Proofs.Ytknmojjccfhchaa.PL
/-- From some number of rounds on. -/
def Ev (p : Nat → Prop) : Prop := ∃ K, ∀ k, K ≤ k → p k
theorem Ev.now {p : Nat → Prop} (h : ∀ k, p k) : Ev p := ⟨0, fun k _ => h k⟩
theorem Ev.imp {p q : Nat → Prop} (h : Ev p) (f : ∀ k, p k → q k) : Ev q := ⟨h.choose, fun k hk => f k (h.choose_spec k hk)⟩
theorem Ev.succ {p q : Nat → Prop} (h : Ev p) (f : ∀ k, p k → q (k + 1)) : Ev q := by
  obtain ⟨K, hK⟩ := h
  refine ⟨K + 1, fun k hk => ?_⟩
  obtain ⟨k, rfl⟩ : ∃ m, k = m + 1 := ⟨k - 1, by omega⟩
  exact f k (hK k (by omega))
theorem Ev.both {p q : Nat → Prop} (h : Ev p) (g : Ev q) : Ev (fun k => p k ∧ q k) := by
  obtain ⟨K, hK⟩ := h
  obtain ⟨L, hL⟩ := g
  exact ⟨K + L, fun k hk => ⟨hK k (by omega), hL k (by omega)⟩⟩
theorem Ev.from {p : Nat → Prop} (K : Nat) (h : ∀ k, K ≤ k → p k) : Ev p := ⟨K, h⟩
theorem wrap_n {i : Nat} (h : i < 1000000) : wrap64 ((i : Int) + 1) = ((i + 1 : Nat) : Int) := by rw [w64 (by omega) (by omega)]; rfl
theorem sum_nn (L : List Int) (h : ∀ x ∈ L, 0 ≤ x) : 0 ≤ L.sum := by
  induction L with
  | nil => simp
  | cons a L ih => have := ih (fun y hy => h y (by simp [hy])); have := h a (by simp); simp only [List.sum_cons]; omega
theorem tk_s (G : List Int) (hG : ∀ x ∈ G, 0 ≤ x) (i : Nat) (hi : i < G.length) : (G.take (i + 1)).sum = (G.take i).sum + rd G (i : Int) ∧ 0 ≤ (G.take i).sum ∧ 0 ≤ rd G (i : Int) ∧ (G.take (i + 1)).sum ≤ G.sum := by
  have e : rd G (i : Int) = G[i] := by unfold rd; rw [Int.toNat_natCast, List.getD_eq_getElem?_getD, List.getElem?_eq_getElem hi]; rfl
  have h2 := sum_nn (G.take i) (fun x hx => hG x (List.mem_of_mem_take hx))
  have h3 := sum_nn (G.drop (i + 1)) (fun x hx => hG x (List.mem_of_mem_drop hx))
  have h4 : G.sum = (G.take (i + 1)).sum + (G.drop (i + 1)).sum := by rw [← List.sum_append, List.take_append_drop]
  refine ⟨?_, h2, by rw [e]; exact hG _ (List.getElem_mem hi), by omega⟩
  rw [List.take_succ_eq_append_getElem hi, List.sum_append, e]; simp
theorem sum_l0 (l : List Int) (hn : l.length ≤ 1000) (h0 : ∀ x ∈ l, 0 ≤ x) (hs : l.sum ≤ 9223372036854775807) (d : Nat) : ∀ i : Nat, i ≤ l.length → l.length - i = d → Ev fun k => spigotref36_Sum.l0 k l ((l.take i).sum) (i : Int) = some l.sum := by
  induction d with
  | zero =>
    intro i hi hd
    refine (Ev.now (p := fun _ => True) fun _ => trivial).succ fun k _ => ?_
    simp only [spigotref36_Sum.l0]
    rw [if_neg (by omega), List.take_of_length_le (by omega)]
  | succ d ih =>
    intro i hi hd
    refine (ih (i + 1) (by omega) (by omega)).succ fun k hk => ?_
    obtain ⟨s1, s2, s3, s4⟩ := tk_s l h0 i (by omega)
    simp only [spigotref36_Sum.l0]
    rw [if_pos (by omega), if_pos (by omega), w64 (by omega) (by omega), ← s1, wrap_n (by omega)]
    exact hk
theorem rsum_is (l : List Int) (hn : l.length ≤ 1000) (h0 : ∀ x ∈ l, 0 ≤ x) (hs : l.sum ≤ 9223372036854775807) : Ev fun k => spigotref36_Sum.f k l = some l.sum :=
  (sum_l0 l hn h0 hs l.length 0 (Nat.zero_le _) rfl).imp fun k hk => hk
theorem rdP (l : List Shr) (i : Nat) (hi : i < l.length) : rd_T49 (l.map cvS) (i : Int) = cvS (rd_T42 l (i : Int)) := by
  unfold rd_T49 rd_T42
  rw [Int.toNat_natCast, List.getD_eq_getElem?_getD, List.getD_eq_getElem?_getD, List.getElem?_map, List.getElem?_eq_getElem hi]
  rfl
theorem rdA (l : List Shr) (i : Nat) (hi : i < l.length) : (rd_T42 l (i : Int)) = l[i] := by
  unfold rd_T42
  rw [Int.toNat_natCast, List.getD_eq_getElem?_getD, List.getElem?_eq_getElem hi]; rfl
theorem asks_l0 (l : List Shr) (hn : l.length ≤ 1000) (d : Nat) : ∀ i : Nat, i ≤ l.length → l.length - i = d → Ev fun k => spigotref36_Asks.l0 k (l.map cvS) (asksS (l.take i)) (i : Int) = some (asksS l) := by
  induction d with
  | zero =>
    intro i hi hd
    refine (Ev.now (p := fun _ => True) fun _ => trivial).succ fun k _ => ?_
    simp only [spigotref36_Asks.l0]
    rw [if_neg (by simp; omega), List.take_of_length_le (by omega)]
  | succ d ih =>
    intro i hi hd
    refine (ih (i + 1) (by omega) (by omega)).succ fun k hk => ?_
    have hil : i < l.length := by omega
    have e : asksS (l.take (i + 1)) = asksS (l.take i) ++ [(rd_T49 (l.map cvS) (i : Int)).f0] := by
      rw [rdP l i hil, rdA l i hil]
      unfold asksS
      rw [List.take_succ_eq_append_getElem hil, List.map_append]; rfl
    simp only [spigotref36_Asks.l0]
    rw [if_pos (by simp; omega), if_pos (by omega), if_pos (by unfold asksS; rw [List.length_map, List.length_take]; omega), ← e, wrap_n (by omega)]
    exact hk
theorem rasks_is (l : List Shr) (hn : l.length ≤ 1000) : Ev fun k => spigotref36_Asks.f k (l.map cvS) = some (asksS l) :=
  (asks_l0 l hn l.length 0 (Nat.zero_le _) rfl).imp fun k hk => hk
end Go.Proofs.Ytknmojjccfhchaa.Hand

/- The document's Right for shares, walked. -/
set_option linter.unusedVariables false
set_option linter.unusedSimpArgs false
namespace Go.Proofs.Ytknmojjccfhchaa.Hand
open Go Go.RowKit Go.Proofs.Ytknmojjccfhchaa.U Go.Proofs.YtknmojjccfhchaaW.PrintWords Go.Proofs.YtknmojjccfhchaaW.PrintMore Go.Proofs.Ytknmojjccfhchaa.RL Go.Proofs.Ytknmojjccfhchaa.PL
theorem rin_walk (n lo hi : Int) (w : World) : Calls Try.prog 25 #[.int .i64 n, .int .i64 lo, .int .i64 hi] w fun e w' => e = .returned (.bool (decide (lo ≤ n ∧ n ≤ hi))) ∧ w' = w := by
  by_cases h : lo ≤ n
  · go_enter Try.func25, Try.ntmps25
    go_wp2_with fail
    go_ret
    exact ⟨by simp [h], rfl⟩
  · go_enter Try.func25, Try.ntmps25
    go_wp2_with fail
    go_ret
    exact ⟨by simp; omega, rfl⟩
abbrev shd (l : List Shd) (j : Nat) : Shd := rd_T49 l (j : Int)
def okShd (x : Shd) : Bool := decide (0 ≤ x.f0 ∧ x.f0 ≤ 1099511627776) && decide (0 ≤ x.f1 ∧ x.f1 ≤ x.f0) && decide (1 ≤ x.f2 ∧ x.f2 ≤ 1099511627776)
set_option maxHeartbeats 4000000 in
set_option maxRecDepth 100000 in
theorem right_walk (A : Option Addr) (c : Nat) (l : List Shd) (w : World) (hl : Kd.C kD w A l.length l) (hc : l.length ≤ c) (s : Int) (hsum : l.length ≤ 64 → (∀ j : Nat, j < l.length → okShd (shd l j) = true) → (∃ k, spigotref36_Asks.f k l = some (l.map (·.f0))) ∧ ∃ k, spigotref36_Sum.f k (l.map (·.f0)) = some s) (v : Bool)
    (h1 : ¬ (1 ≤ l.length ∧ l.length ≤ 64) → v = false) (h2 : ∀ j : Nat, j < l.length → okShd (shd l j) = false → v = false) (h3 : 1 ≤ l.length ∧ l.length ≤ 64 → (∀ j : Nat, j < l.length → okShd (shd l j) = true) → v = decide (s > 0)) :
    Calls Try.prog 10 #[.slice A l.length c] w fun e w' => e = .returned (.bool v) ∧ Below w.heap.size w w' := by
  have hmx := Kd.C_max hl
  have w0 := fun w => rin_walk (l.length : Int) 1 64 w
  by_cases h64 : 1 ≤ l.length ∧ l.length ≤ 64
  · rw [decide_eq_true (show (1 : Int) ≤ (l.length : Int) ∧ (l.length : Int) ≤ 64 by omega)] at w0
    have hrd : ∀ w' (j : Nat), Below w.heap.size w w' → j < l.length → ∃ ad, A = some ad ∧ w'.cell? (ad.add (j * 3)) = some (.int .i64 (shd l j).f0) ∧ w'.cell? ⟨(ad.add (j * 3)).block, (ad.add (j * 3)).off + 1, none⟩ = some (.int .i64 (shd l j).f1) ∧ w'.cell? ⟨(ad.add (j * 3)).block, (ad.add (j * 3)).off + 2, none⟩ = some (.int .i64 (shd l j).f2) := fun w' j hbw hj => by
      have := U.at_T49 (Kd.C_below hl hbw) (j : Int) (by omega) (by omega)
      rwa [Int.toNat_natCast] at this
    have HR := Lib.hid hrd; have H2 := Lib.hid h2; have H3 := Lib.hid (h3 h64); have HS := Lib.hid (hsum h64.2); have HW := Lib.hid w0; have HL := Lib.hid hl
    clear hrd h1 h2 h3 hsum w0 hl
    go_enter Try.func10, Try.ntmps10
    go_wp2_with (go_at_call 25; (with_reducible refine (HW.out _).mono ?_); rintro e wa ⟨rfl, hwa⟩; replace hwa := hwa.symm; subst hwa)
    go_loopw [3] (fun i wr => ∃ j : Nat, j ≤ l.length ∧ i = .int .i64 j ∧ Below w.heap.size w wr ∧ Hid (∀ m : Nat, m < j → okShd (shd l m) = true)) (fun i _ => l.length - (intOf i).toNat)
    case atStart => exact ⟨0, Nat.zero_le _, rfl, Below.refl _ _, Lib.hid fun m hm => absurd hm (Nat.not_lt_zero _)⟩
    case round =>
      obtain ⟨j, hj, rfl, hB, HI⟩ := hrel
      by_cases hlt : j < l.length
      · obtain ⟨ad, rfl, c0, c1, c2⟩ := HR.out wr j hB hlt
        have hF := H2.out j hlt
        have hT : okShd (shd l j) = true → ∀ m : Nat, m < j + 1 → okShd (shd l m) = true := by
          intro h m hm
          by_cases he : m = j
          · rw [he]; exact h
          · exact HI.out m (by omega)
        have hFu : (decide (0 ≤ (shd l j).f0 ∧ (shd l j).f0 ≤ 1099511627776) && decide (0 ≤ (shd l j).f1 ∧ (shd l j).f1 ≤ (shd l j).f0) && decide (1 ≤ (shd l j).f2 ∧ (shd l j).f2 ≤ 1099511627776)) = false → v = false := hF
        have hTu : (decide (0 ≤ (shd l j).f0 ∧ (shd l j).f0 ≤ 1099511627776) && decide (0 ≤ (shd l j).f1 ∧ (shd l j).f1 ≤ (shd l j).f0) && decide (1 ≤ (shd l j).f2 ∧ (shd l j).f2 ≤ 1099511627776)) = true → ∀ m : Nat, m < j + 1 → okShd (shd l m) = true := hT
        have dq : ∀ (a b c : Int) (w' : World), Calls Try.prog 25 #[.int .i64 a, .int .i64 b, .int .i64 c] w' fun e w'' => e = .returned (.bool (decide (b ≤ a ∧ a ≤ c))) ∧ ∃ m, w'' = w'.drewN m := fun a b c w' => (rin_walk a b c w').mono fun e w'' ⟨h, k⟩ => ⟨h, 0, k⟩
        have i1 := fun w' => dq (shd l j).f0 0 1099511627776 w'
        have i2 := fun w' => dq (shd l j).f1 0 (shd l j).f0 w'
        have i3 := fun w' => dq (shd l j).f2 1 1099511627776 w'
        have HTu := Lib.hid hTu
        have HFu := Lib.hid hFu
        clear hF hT hFu hTu dq HI H2 H3 HS HW HL HR
        generalize decide (0 ≤ (shd l j).f0 ∧ (shd l j).f0 ≤ 1099511627776) = d1 at *
        generalize decide (0 ≤ (shd l j).f1 ∧ (shd l j).f1 ≤ (shd l j).f0) = d2 at *
        generalize decide (1 ≤ (shd l j).f2 ∧ (shd l j).f2 ≤ 1099511627776) = d3 at *
        generalize (shd l j).f0 = x0 at *
        generalize (shd l j).f1 = x1 at *
        generalize (shd l j).f2 = x2 at *
        have I1 := Lib.hid i1; have I2 := Lib.hid i2; have I3 := Lib.hid i3
        clear i1 i2 i3
        have hj0 : (0 : Int) ≤ (j : Int) := by omega
        have hj1 : (j : Int) < (l.length : Int) := by omega
        have hq : d1 = false ∨ (d1 = true ∧ d2 = false) ∨ (d1 = true ∧ d2 = true ∧ d3 = false) ∨ (d1 = true ∧ d2 = true ∧ d3 = true) := by cases d1 <;> cases d2 <;> cases d3 <;> simp
        have KB : Hid (∀ m : Nat, Below w.heap.size w (wr.drewN m)) := Lib.hid fun m => pw_below_drewN hB m
        rcases hq with rfl | ⟨rfl, rfl⟩ | ⟨rfl, rfl, rfl⟩ | ⟨rfl, rfl, rfl⟩
        · have hv := HFu.out rfl
          go_upto_region 6 with (fail)
          go_quiet (first | (go_at_call 25; with_reducible refine Calls.quiet_of (I1.out _)) | (go_at_call 25; with_reducible refine Calls.quiet_of (I2.out _)) | (go_at_call 25; with_reducible refine Calls.quiet_of (I3.out _)))
          go_wp2_with fail
          go_ret
          exact ⟨by subst hv; rfl, KB.out _⟩
        · have hv := HFu.out rfl
          go_upto_region 6 with (fail)
          go_quiet (first | (go_at_call 25; with_reducible refine Calls.quiet_of (I1.out _)) | (go_at_call 25; with_reducible refine Calls.quiet_of (I2.out _)) | (go_at_call 25; with_reducible refine Calls.quiet_of (I3.out _)))
          go_wp2_with fail
          go_ret
          exact ⟨by subst hv; rfl, KB.out _⟩
        · have hv := HFu.out rfl
          go_upto_region 6 with (fail)
          go_quiet (first | (go_at_call 25; with_reducible refine Calls.quiet_of (I1.out _)) | (go_at_call 25; with_reducible refine Calls.quiet_of (I2.out _)) | (go_at_call 25; with_reducible refine Calls.quiet_of (I3.out _)))
          go_wp2_with fail
          go_ret
          exact ⟨by subst hv; rfl, KB.out _⟩
        · have hn := Lib.hid (HTu.out rfl)
          clear HTu HFu
          go_upto_region 6 with (fail)
          go_quiet (first | (go_at_call 25; with_reducible refine Calls.quiet_of (I1.out _)) | (go_at_call 25; with_reducible refine Calls.quiet_of (I2.out _)) | (go_at_call 25; with_reducible refine Calls.quiet_of (I3.out _)))
          go_wp2_with fail
          go_roundw
          case rel => exact ⟨j + 1, by omega, by go_num, KB.out _, hn⟩
          case measure => simp only [intOf]; omega
      · obtain rfl : l.length = j := by omega
        have hv := H3.out HI.out
        obtain ⟨⟨k1, e1⟩, ⟨k2, e2⟩⟩ := HS.out HI.out
        have hA := spigotref36_Asks.calls k1 A c l _ wr (Kd.C_below HL.out hB) hc e1
        have hS := fun (w1 : World) B d (h : Kd.C (Kd.int .i64) w1 B (l.map (·.f0)).length (l.map (·.f0))) (hd : (l.map (·.f0)).length ≤ d) => spigotref36_Sum.calls k2 B d (l.map (·.f0)) _ w1 h hd e2
        have HA := Lib.hid hA; have HSS := Lib.hid hS
        clear hA hS e1 e2 HR H2 H3 HS HW HL HI
        generalize l.map (·.f0) = la at *
        go_wp2_with (go_at_call 15; (with_reducible refine HA.out.mono ?_); rintro e w1 ⟨v0, rfl, hR, hb1⟩)
        obtain ⟨B, d, rfl⟩ := Kd.R_slice hR
        have hrr := Kd.R_reads' hR
        have hS2 := Lib.hid (HSS.out w1 B d hrr.2.2 hrr.2.1)
        clear HSS hrr hR HA
        go_wp2_with (go_at_call 26; (with_reducible refine hS2.out.mono ?_); rintro e w2 ⟨rfl, hb2⟩)
        go_ret
        exact ⟨by subst hv; rfl, bt (bt hB hb1) hb2.below⟩
  · have hv := h1 h64
    rw [decide_eq_false (show ¬ ((1 : Int) ≤ (l.length : Int) ∧ (l.length : Int) ≤ 64) by omega)] at w0
    have HW := Lib.hid w0
    clear w0 h1 h2 h3 hsum hl
    go_enter Try.func10, Try.ntmps10
    go_wp2_with (go_at_call 25; (with_reducible refine (HW.out _).mono ?_); rintro e wa ⟨rfl, hwa⟩; replace hwa := hwa.symm; subst hwa)
    go_ret
    exact ⟨by subst hv; rfl, Below.refl _ _⟩
/-- Shares of the document's, as the program has them. -/
def bkS (x : Shd) : Shr := ⟨x.f0, x.f1, x.f2⟩
theorem cv_bk (l : List Shd) : (l.map bkS).map cvS = l := by
  rw [List.map_map]
  exact List.map_id'' (fun x => rfl) l
theorem bk_cv (l : List Shr) : (l.map cvS).map bkS = l := by
  rw [List.map_map]
  exact List.map_id'' (fun x => rfl) l
def spigotref36_Right.f (l0 : List Shd) : Option Bool := some (checkS (l0.map bkS))
theorem ok_bk (l : List Shd) (j : Nat) (hj : j < l.length) : okShd (shd l j) = okShr (U.rd_T42 (l.map bkS) (j : Int)) := by
  have e := rdP (l.map bkS) j (by simp; exact hj)
  rw [cv_bk] at e
  unfold shd
  rw [e]
  rfl
theorem spigotref36_Right.calls (A0 : Option Addr) (c0 : Nat) (l0 : List Shd) (r : Bool) (w : World) (hr0 : Kd.C kD w A0 l0.length l0) (hc0 : l0.length ≤ c0) (h : spigotref36_Right.f l0 = some r) :
    Calls Try.prog 10 #[.slice A0 l0.length c0] w fun e w' => e = .returned (.bool r) ∧ Below w.heap.size w w' := by
  have h := Option.some.inj h
  subst h
  have hlen : (l0.map bkS).length = l0.length := List.length_map ..
  have hmap : l0.map (·.f0) = asksS (l0.map bkS) := by unfold asksS; rw [List.map_map]; rfl
  have hyes : (∀ j : Nat, j < l0.length → okShd (shd l0 j) = true) → (l0.map bkS).all okShr = true := fun hok => rd_yes (fun j hj => by rw [hlen] at hj; rw [← ok_bk l0 j hj]; exact hok j hj)
  refine right_walk A0 c0 l0 w hr0 hc0 (sumA (l0.map bkS)) (fun hm hok => ?_) (checkS (l0.map bkS)) (fun hno => ?_) (fun j hj hno => ?_) (fun h64 hok => ?_)
  · have hall := hyes hok
    have hA : ∀ x ∈ l0.map bkS, okA x := fun x hx => okShr_A (List.all_eq_true.1 hall x hx)
    have hsb := sumA_b (l0.map bkS) hA
    obtain ⟨K1, h1⟩ := rasks_is (l0.map bkS) (by omega)
    obtain ⟨K2, h2⟩ := rsum_is (asksS (l0.map bkS)) (by simp [asksS]; omega) (fun x hx => by
      obtain ⟨y, hy, rfl⟩ := List.mem_map.1 hx
      exact (hA y hy).1) (by rw [asks_sum]; omega)
    have h1 := h1 K1 (Nat.le_refl _)
    have h2 := h2 K2 (Nat.le_refl _)
    rw [cv_bk] at h1
    rw [hmap]
    exact ⟨⟨K1, h1⟩, K2, by rw [h2, asks_sum]⟩
  · unfold checkS; rw [hlen, decide_eq_false hno]; rfl
  · unfold checkS
    rw [rd_no j (by rw [hlen]; exact hj) (by rw [← ok_bk l0 j hj]; exact hno), Bool.false_and, Bool.and_false]
  · have hall := hyes hok
    have hsb := sumA_b (l0.map bkS) (fun x hx => okShr_A (List.all_eq_true.1 hall x hx))
    unfold checkS
    rw [hlen, decide_eq_true h64, hall, Bool.true_and, Bool.true_and]
    by_cases hz : sumA (l0.map bkS) = 0
    · rw [decide_eq_true hz, decide_eq_false (by omega)]; rfl
    · rw [decide_eq_false hz, decide_eq_true (by omega)]; rfl
theorem right_is (l : List Shr) : spigotref36_Right.f (l.map cvS) = some (checkS l) := by
  unfold spigotref36_Right.f; rw [bk_cv]
end Go.Proofs.Ytknmojjccfhchaa.Hand

