/- allot.Pro and allot.Worth, walked; as functions. -/
import Derived.Test.YtknmojjccfhchaaAlS
import Derived.Test.YtknmojjccfhchaaAl5
set_option linter.unusedVariables false
set_option linter.unusedSimpArgs false
namespace Go.Proofs.Ytknmojjccfhchaa.Hand
open Go Go.RowKit Go.Proofs.YtknmojjccfhchaaW.PrintWords Go.Proofs.YtknmojjccfhchaaW.PrintMore Go.Proofs.Ytknmojjccfhchaa.RL Go.Proofs.Ytknmojjccfhchaa.PL
/-- What is asked for. -/
def asksS (l : List Shr) : List Int := l.map (·.f0)
theorem asks_sum (l : List Shr) : (asksS l).sum = sumA l := rfl
set_option maxHeartbeats 4000000 in
set_option maxRecDepth 100000 in
theorem pro_ok (q : Int) (A : Option Addr) (c : Nat) (l : List Shr) (hq : 0 ≤ q ∧ q ≤ 1099511627776) (hok : checkS l = true) (w : World) (hl : Kd.C kS w A l.length l) :
    Calls Try.prog 9 #[.int .i64 q, .slice A l.length c] w fun e w' => ∃ gg, e = .returned (.tuple #[.slice (some ⟨gg, 0, none⟩) l.length l.length, .int .i64 0]) ∧ w.heap.size ≤ gg ∧ Blk w' gg 3 (ints (splitS q (asksS l))) ∧ Below w.heap.size w w' := by
  have hck := check_walk A c l w hl
  rw [hok, if_pos rfl] at hck
  unfold checkS at hok
  simp only [Bool.and_eq_true, decide_eq_true_eq, Bool.not_eq_true', decide_eq_false_iff_not] at hok
  obtain ⟨hm, hall, hs0⟩ := hok
  have hokA : ∀ x ∈ l, okA x := fun x hx => okShr_A (List.all_eq_true.1 hall x hx)
  have hsb := sumA_b l hokA
  have hw := fun w => lwithin_walk q 0 1099511627776 w
  rw [decide_eq_true hq] at hw
  have hrd : ∀ w' (j : Nat), Below w.heap.size w w' → j < l.length → ∃ ad, A = some ad ∧ w'.cell? (ad.add (j * 3)) = some (.int .i64 (shr l j).f0) ∧ w'.cell? ⟨(ad.add (j * 3)).block, (ad.add (j * 3)).off + 1, none⟩ = some (.int .i64 (shr l j).f1) ∧ w'.cell? ⟨(ad.add (j * 3)).block, (ad.add (j * 3)).off + 2, none⟩ = some (.int .i64 (shr l j).f2) := fun w' j hbw hj => by
    have := U.at_T42 (Kd.C_below hl hbw) (j : Int) (by omega) (by omega)
    rwa [Int.toNat_natCast] at this
  have hap : ∀ j : Nat, j < l.length → asksS (l.take (j + 1)) = asksS (l.take j) ++ [(shr l j).f0] := fun j hj => by
    have e : shr l j = l[j] := by unfold shr U.rd_T42; rw [Int.toNat_natCast, List.getD_eq_getElem?_getD, List.getElem?_eq_getElem hj]; rfl
    unfold asksS
    rw [List.take_succ_eq_append_getElem hj, List.map_append, e]; rfl
  have hsp : ∀ w' B d, Below w.heap.size w w' → Kd.C (Kd.int .i64) w' B l.length (asksS l) → Calls Try.prog 24 #[.int .i64 q, .slice B l.length d] w' fun e w'' => ∃ gg, e = .returned (.slice (some ⟨gg, 0, none⟩) l.length l.length) ∧ w'.heap.size ≤ gg ∧ Blk w'' gg 3 (ints (splitS q (asksS l))) ∧ Below w'.heap.size w' w'' := fun w' B d hb hC => by
    have hla : (asksS l).length = l.length := by simp [asksS]
    have := split_walk q B d (asksS l) (by omega) (by omega) (fun x hx => by
      obtain ⟨y, hy, rfl⟩ := List.mem_map.1 hx
      exact hokA y hy) (by rw [asks_sum]; omega) (by omega) w' (by rw [hla]; exact hC)
    rwa [hla] at this
  have inf : (Try.prog.info? 3).map (fun i => (i.zero, i.size, i.bytes)) = some (some (.int .i64 0), 1, 8) := by kernel_rfl
  have INF := Lib.hid inf
  have HC := Lib.hid hck; have HW := Lib.hid hw; have HR := Lib.hid hrd; have HA := Lib.hid hap; have HS := Lib.hid hsp
  clear hck hw hrd hap hsp inf hl hsb hokA hs0 hall
  go_enter Try.func9, Try.ntmps9
  go_wp2_with (first | (go_at_call 12; (with_reducible refine (HC.out).mono ?_); rintro e w1 ⟨rfl, hb1⟩) | (go_at_call 23; (with_reducible refine (HW.out _).mono ?_); rintro e wa ⟨rfl, hwa⟩; replace hwa := hwa.symm; subst hwa))
  go_loopw [7, 20] (fun v i wr => ∃ k : Nat, k ≤ l.length ∧ i = .int .i64 k ∧ Below w.heap.size w wr ∧ Kd.R (Kd.int .i64) 3 wr w.heap.size (fun _ => True) v (asksS (l.take k))) (fun _ i _ => l.length - (intOf i).toNat)
  case atStart => exact ⟨0, Nat.zero_le _, rfl, hb1, Kd.R_nil _ _ _ _ _⟩
  case round =>
    clear hb1
    obtain ⟨k, hk, rfl, hB, hR⟩ := hrel
    by_cases hlt : k < l.length
    · obtain ⟨ad, rfl, c0, c1, c2⟩ := HR.out wr k hB hlt
      have hap := HA.out k hlt
      have hlen : (asksS (l.take k)).length = k := by unfold asksS; rw [List.length_map, List.length_take]; omega
      have hlen1 : (asksS (l.take (k + 1))).length = k + 1 := by unfold asksS; rw [List.length_map, List.length_take]; omega
      generalize (shr l k).f0 = x0 at *
      generalize (shr l k).f1 = x1 at *
      generalize (shr l k).f2 = x2 at *
      have bO := (Below.refl wr.heap.size wr).alloc (Nat.le_refl _) (.cells #[.int .i64 x0, .int .i64 x1, .int .i64 x2] 42)
      have hO := Blk.new wr 42 #[.int .i64 x0, .int .i64 x1, .int .i64 x2]
      have R8 := Kd.R_below hR bO
      have hB8 := bt hB bO
      have HR8 := Lib.hid R8; have HB8 := Lib.hid hB8; have HO := Lib.hid hO
      have hs8 : w.heap.size ≤ (wr.alloc (.cells #[.int .i64 x0, .int .i64 x1, .int .i64 x2] 42)).heap.size := by have := hB.size; simp; omega
      have HP := Lib.hid hap; have HL := Lib.hid (And.intro hlen hlen1)
      have htk : (asksS (l.take k)).length ≤ 1000 := by omega
      clear hR hB bO hO R8 hB8 hap hlen hlen1 HS HA HR HW HC
      go_upto_region 10 with (fail)
      generalize wr.alloc (.cells #[.int .i64 x0, .int .i64 x1, .int .i64 x2] 42) = w8 at *
      generalize wr.heap.size = o at *
      have y0 : w8.cell? ⟨o, 0, none⟩ = some (.int .i64 x0) := HO.out.cell 0
      obtain ⟨Av, cv, rfl⟩ := Kd.R_slice HR8.out
      clear c0 c1 c2 HO
      go_wp2_with (at_builtin; (refine Kd.R_append (Kd.int .i64) (w0 := w) w.heap.size rfl (.tmp 24) (.tmp 27) 24 3 (.int .i64 0) 8 rfl Try.underlying24 INF.out rfl (by decide) (by omega) (.slice Av (asksS (l.take k)).length cv) (asksS (l.take k)) x0 [.int .i64 x0] (fun _ => True) (fun _ => False) rfl rfl rfl (fun _ hk => hk.elim) (fun _ _ => trivial) HR8.out HB8.out hs8 (by omega) ?_); intro v' w9 ho hb9 hg hat)
      have hf : Kd.R (Kd.int .i64) 3 w9 w.heap.size (fun _ => True) v' (asksS (l.take (k + 1))) := by rw [HP.out]; exact ho
      clear ho hg hat
      go_roundw
      case rel => exact ⟨k + 1, by omega, by go_num, hb9, hf⟩
      case measure => simp only [intOf]; omega
    · obtain rfl : l.length = k := by omega
      rw [List.take_length] at hR
      obtain ⟨B, d, rfl⟩ := Kd.R_slice hR
      have hC := (Kd.R_reads' hR).2.2
      have hla : (asksS l).length = l.length := by simp [asksS]
      rw [hla] at hC
      rw [hla]
      have hs := HS.out wr B d hB hC
      have Hs := Lib.hid hs
      have hsz := hB.size
      clear hs hR hC hla HS HA HR HW HC
      go_wp2_with (go_at_call 24; (with_reducible refine Hs.out.mono ?_); rintro e w9 ⟨gg, rfl, hgg, hblk, hb9⟩)
      refine bodyPost_ret (v := .tuple #[.slice (some ⟨gg, 0, none⟩) l.length l.length, .int .i64 0]) (by simp [results, Try.results9, go_sem]) rfl ⟨gg, rfl, by omega, hblk, bt hB hb9⟩
set_option maxHeartbeats 4000000 in
set_option maxRecDepth 100000 in
theorem pro_bad (q : Int) (A : Option Addr) (c : Nat) (l : List Shr) (hno : checkS l = false ∨ ¬ (0 ≤ q ∧ q ≤ 1099511627776)) (w : World) (hl : Kd.C kS w A l.length l) :
    Calls Try.prog 9 #[.int .i64 q, .slice A l.length c] w fun e w' => e = .returned (.tuple #[.slice none 0 0, .int .i64 2]) ∧ Below w.heap.size w w' := by
  have hck := check_walk A c l w hl
  have hw := fun w => lwithin_walk q 0 1099511627776 w
  cases hb : checkS l with
  | false =>
    rw [hb, if_neg (by decide)] at hck
    have HC := Lib.hid hck
    clear hck hw hno hb
    go_enter Try.func9, Try.ntmps9
    go_wp2_with (go_at_call 12; (with_reducible refine HC.out.mono ?_); rintro e w1 ⟨rfl, hb1⟩)
    exact bodyPost_ret (v := .tuple #[.slice none 0 0, .int .i64 2]) (by simp [results, Try.results9, go_sem]) rfl ⟨rfl, hb1⟩
  | true =>
    have hq : ¬ (0 ≤ q ∧ q ≤ 1099511627776) := by
      rcases hno with h | h
      · rw [hb] at h; cases h
      · exact h
    rw [hb, if_pos rfl] at hck
    rw [decide_eq_false hq] at hw
    have HC := Lib.hid hck; have HW := Lib.hid hw
    clear hck hw hno hb hq
    go_enter Try.func9, Try.ntmps9
    go_wp2_with (first | (go_at_call 12; (with_reducible refine HC.out.mono ?_); rintro e w1 ⟨rfl, hb1⟩) | (go_at_call 23; (with_reducible refine (HW.out _).mono ?_); rintro e wa ⟨rfl, hwa⟩; replace hwa := hwa.symm; subst hwa))
    exact bodyPost_ret (v := .tuple #[.slice none 0 0, .int .i64 2]) (by simp [results, Try.results9, go_sem]) rfl ⟨rfl, hb1⟩
def allot_Check.f (l0 : List Shr) : Option Int := some (if checkS l0 = true then 0 else 2)
theorem allot_Check.calls (A0 : Option Addr) (c0 : Nat) (l0 : List Shr) (r : Int) (w : World) (hr0 : Kd.C kS w A0 l0.length l0) (hc0 : l0.length ≤ c0) (h : allot_Check.f l0 = some r) :
    Calls Try.prog 12 #[.slice A0 l0.length c0] w fun e w' => e = .returned (.int .i64 r) ∧ Below w.heap.size w w' := by
  have h := Option.some.inj h
  subst h
  exact check_walk A0 c0 l0 w hr0
theorem split_len (q : Int) (l : List Int) : (splitS q l).length = l.length := by unfold splitS; rw [bump_len]; simp [gotS]
def allot_Pro.f (a0 : Int) (l1 : List Shr) : Option (List Int × Int) := some (if checkS l1 = true ∧ (0 ≤ a0 ∧ a0 ≤ 1099511627776) then (splitS a0 (asksS l1), 0) else ([], 2))
theorem allot_Pro.calls (a0 : Int) (A1 : Option Addr) (c1 : Nat) (l1 : List Shr) (r1 : List Int) (r2 : Int) (w : World) (hr1 : Kd.C kS w A1 l1.length l1) (hc1 : l1.length ≤ c1) (h : allot_Pro.f a0 l1 = some (r1, r2)) :
    Calls Try.prog 9 #[.int .i64 a0, .slice A1 l1.length c1] w fun e w' => ∃ v0_ : Value, e = .returned (.tuple #[v0_, .int .i64 r2]) ∧ Kd.R (Kd.int .i64) 3 w' w.heap.size (fun _ => True) v0_ r1 ∧ Below w.heap.size w w' := by
  have h := Option.some.inj h
  by_cases g : checkS l1 = true ∧ (0 ≤ a0 ∧ a0 ≤ 1099511627776)
  · rw [if_pos g] at h
    simp only [Prod.mk.injEq] at h
    obtain ⟨rfl, rfl⟩ := h
    have hm : l1.length ≤ 64 := by
      have := g.1
      unfold checkS at this
      rw [Bool.and_eq_true, decide_eq_true_eq] at this
      exact this.1.2
    refine (pro_ok a0 A1 c1 l1 g.2 g.1 w hr1).mono ?_
    rintro e w' ⟨gg, rfl, hgg, hB, hb⟩
    exact ⟨_, rfl, blk_own hB (by rw [split_len]; simp [asksS]) hgg (by omega), hb⟩
  · rw [if_neg g] at h
    simp only [Prod.mk.injEq] at h
    obtain ⟨rfl, rfl⟩ := h
    refine (pro_bad a0 A1 c1 l1 (by
      cases hb : checkS l1 with
      | false => exact .inl rfl
      | true => exact .inr fun h => g ⟨hb, h⟩) w hr1).mono ?_
    rintro e w' ⟨rfl, hb⟩
    exact ⟨_, rfl, Kd.R_nil _ _ _ _ _, hb⟩
end Go.Proofs.Ytknmojjccfhchaa.Hand
