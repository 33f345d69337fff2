/- checked.Sum, walked: the exact sum of a list, or a refusal. -/
import Derived.Test.YtbeadogignmpiaaSum
import Derived.Outline
set_option linter.unusedVariables false
set_option linter.unusedSimpArgs false
namespace Go.Proofs.Ytbeadogignmpiaa.Hand
open Go Go.RowKit Go.Proofs.YtbeadogignmpiaaW.PrintWords Go.Proofs.YtbeadogignmpiaaW.PrintMore Go.Proofs.Ytbeadogignmpiaa.RL
def tot (u d : Int) : Array Value := #[.int .u64 (hi64 u), .int .u64 (lo64 u), .int .u64 (hi64 d), .int .u64 (lo64 d)]
theorem tot_put {w : World} {g : Nat} {u d : Int} (h : Blk w g 77 (tot u d)) (u' d' : Int) :
    Blk ((((w.setCell ⟨g, 0, none⟩ (.int .u64 (hi64 u'))).setCell ⟨g, 1, none⟩ (.int .u64 (lo64 u'))).setCell ⟨g, 2, none⟩ (.int .u64 (hi64 d'))).setCell ⟨g, 3, none⟩ (.int .u64 (lo64 d'))) g 77 (tot u' d') :=
  (((h.put 0 _).put 1 _).put 2 _).put 3 _
set_option maxHeartbeats 4000000 in
set_option maxRecDepth 100000 in
theorem sum_walk (l : List Int) (A : Option Addr) (c : Nat) (w : World) (hl : l.length ≤ 9223372036854775807) (hin : ∀ x ∈ l, in64 x) (hc : ∀ k (h : k < l.length), ∃ ad, A = some ad ∧ w.cell? (ad.add k) = some (.int .i64 l[k])) :
    Calls Try.prog 38 #[.slice A l.length c] w fun e w' => e = .returned (.tuple #[.int .i64 (tell l.sum).1, .int .i64 (tell l.sum).2]) ∧ Below w.heap.size w w' := by
  have ub := ups_b l 0 hin
  have db := dns_b l 0 hin
  have ud := ups_dns l 0 0
  have htk : ∀ k, k < l.length → ∀ w, Calls Try.prog 51 #[.agg #[.int .u64 (hi64 (ups (l.take k))), .int .u64 (lo64 (ups (l.take k))), .int .u64 (hi64 (dns (l.take k))), .int .u64 (lo64 (dns (l.take k)))], .iface 3 (.int .i64 (l.getD k 0))] w fun e w' => e = .returned (.agg #[.int .u64 (hi64 (ups (l.take (k + 1)))), .int .u64 (lo64 (ups (l.take (k + 1)))), .int .u64 (hi64 (dns (l.take (k + 1)))), .int .u64 (lo64 (dns (l.take (k + 1))))]) ∧ Below w.heap.size w w' := by
    intro k hk w
    have hx : l.getD k 0 = l[k] := by simp [hk]
    have hin' : ∀ j, ∀ x ∈ l.take j, in64 x := fun j x hx => hin x (List.mem_of_mem_take hx)
    have b1 := ups_b (l.take k) 0 (hin' k)
    have b2 := dns_b (l.take k) 0 (hin' k)
    have b3 := ups_b (l.take (k + 1)) 0 (hin' _)
    have b4 := dns_b (l.take (k + 1)) 0 (hin' _)
    have hlen1 : (l.take k).length ≤ 9223372036854775807 := by simp; omega
    have hlen2 : (l.take (k + 1)).length ≤ 9223372036854775807 := by simp; omega
    have e1 := ups_snoc l k hk
    have e2 := dns_snoc l k hk
    have hi := hin l[k] (List.getElem_mem hk)
    rw [hx, e1, e2]
    refine take_calls _ _ _ (by unfold ups; omega) (by unfold dns; omega) ?_ ?_ hi.1 hi.2 w
    · rw [← e1]; unfold ups maxSum; omega
    · rw [← e2]; unfold dns maxSum; omega
  have hU0 : 0 ≤ ups l := by unfold ups; omega
  have hD0 : 0 ≤ dns l := by unfold dns; omega
  have hU1 : ups l ≤ maxSum := by unfold ups maxSum; omega
  have hD1 : dns l ≤ maxSum := by unfold dns maxSum; omega
  have hs : l.sum = ups l - dns l := by unfold ups dns; omega
  have hls := fun w => less_calls (hi64 (ups l)) (lo64 (ups l)) (hi64 (dns l)) (lo64 (dns l)) w
  have hTU : l.take l.length = l := List.take_length
  rw [hs]
  clear hs ub db ud hin
  have Hc := Lib.hid hc
  have Htk := Lib.hid htk
  have HTU := Lib.hid hTU
  clear hc htk hTU
  by_cases hlt : ups l < dns l
  · have hless : ∀ w, Calls Try.prog 50 #[.agg #[.int .u64 (hi64 (ups l)), .int .u64 (lo64 (ups l))], .agg #[.int .u64 (hi64 (dns l)), .int .u64 (lo64 (dns l))]] w fun e w' => e = .returned (.bool true) ∧ Below w.heap.size w w' := by
      intro w; have := hls w; rw [wless_hl hU0 hD0, decide_eq_true hlt] at this; exact this
    have hmin := fun w => minusP (dns l) (ups l) hU0 (by omega) hD1 w
    have hsg := fun w => signedP (dns l - ups l) true (by omega) (by unfold maxSum at *; omega) w
    have et : ups l - dns l = (if true = true then -(dns l - ups l) else dns l - ups l) := by simp; omega
    rw [et]
    have Hls := Lib.hid hless
    have Hmin := Lib.hid hmin
    have Hsg := Lib.hid hsg
    clear hls hless hmin hsg hU0 hD0 hU1 hD1 et hlt
    generalize hz : tell (if true = true then -(dns l - ups l) else dns l - ups l) = z at *
    clear hz
    generalize dns l - ups l = m at *
    go_enter Try.func38, Try.ntmps38
    go_wp2_with fail
    go_loopw [9] (fun i wr => ∃ k : Nat, k ≤ l.length ∧ i = .int .i64 k ∧ Blk wr w.heap.size 77 (tot (ups (l.take k)) (dns (l.take k))) ∧ Below w.heap.size w wr) (fun i _ => l.length - (intOf i).toNat)
    case atStart => exact ⟨0, Nat.zero_le _, rfl, Blk.new _ _ _, (Below.refl _ _).alloc (Nat.le_refl _) _⟩
    case round =>
      obtain ⟨k, hk, rfl, hblk, hB⟩ := hrel
      have hz := hblk.lt
      have g0 := hblk.frozen 0
      have g1 := hblk.frozen 1
      have g2 := hblk.frozen 2
      have g3 := hblk.frozen 3
      by_cases hlt2 : k < l.length
      · have f0 : wr.cell? ⟨w.heap.size, 0, none⟩ = some (.int .u64 (hi64 (ups (l.take k)))) := hblk.cell 0
        have f1 : wr.cell? ⟨w.heap.size, 1, none⟩ = some (.int .u64 (lo64 (ups (l.take k)))) := hblk.cell 1
        have f2 : wr.cell? ⟨w.heap.size, 2, none⟩ = some (.int .u64 (hi64 (dns (l.take k)))) := hblk.cell 2
        have f3 : wr.cell? ⟨w.heap.size, 3, none⟩ = some (.int .u64 (lo64 (dns (l.take k)))) := hblk.cell 3
        obtain ⟨ad, rfl, h0⟩ := Hc.out k hlt2
        have hx : wr.cell? (ad.add k) = some (.int .i64 (l.getD k 0)) := by
          have h1 : l.getD k 0 = l[k] := by simp [hlt2]
          rw [h1]; exact (hB.cell (World.block_lt_of_cell? w _ h0)).trans h0
        clear h0 Hc
        have Ht := Lib.hid (Htk.out k hlt2)
        have Hblk := Lib.hid hblk
        clear hblk
        generalize l.getD k 0 = x at *
        generalize ups (l.take k) = U at *
        generalize dns (l.take k) = D at *
        generalize hU2 : ups (l.take (k + 1)) = U2 at *
        generalize hD2 : dns (l.take (k + 1)) = D2 at *
        have HU2 := Lib.hid hU2
        have HD2 := Lib.hid hD2
        clear hU2 hD2
        go_wp2_with fail
        refine (Ht.out _).mono ?_
        rintro e w3 ⟨rfl, hb3⟩
        obtain ⟨hcell, hfroz⟩ := bcell hb3
        have p0 := (hcell w.heap.size 0 hz).trans f0
        have p1 := (hcell w.heap.size 1 hz).trans f1
        have p2 := (hcell w.heap.size 2 hz).trans f2
        have p3 := (hcell w.heap.size 3 hz).trans f3
        have q0 := (hfroz w.heap.size 0 hz).trans g0
        have q1 := (hfroz w.heap.size 1 hz).trans g1
        have q2 := (hfroz w.heap.size 2 hz).trans g2
        have q3 := (hfroz w.heap.size 3 hz).trans g3
        clear hcell hfroz f0 f1 f2 f3 g0 g1 g2 g3 hx
        have Hb3 := Lib.hid hb3
        clear hb3
        go_wp2_with fail
        go_roundw
        case rel => exact ⟨k + 1, by omega, by go_num, by rw [HU2.out, HD2.out]; exact tot_put (Hblk.out.below Hb3.out hz) _ _, ((((hB.trans (Hb3.out.mono hB.size)).setCell (Nat.le_refl _) _).setCell (Nat.le_refl _) _).setCell (Nat.le_refl _) _).setCell (Nat.le_refl _) _⟩
        case measure => simp [intOf]; omega
      · obtain rfl : k = l.length := by omega
        rw [HTU.out] at hblk
        have f0 : wr.cell? ⟨w.heap.size, 0, none⟩ = some (.int .u64 (hi64 (ups l))) := hblk.cell 0
        have f1 : wr.cell? ⟨w.heap.size, 1, none⟩ = some (.int .u64 (lo64 (ups l))) := hblk.cell 1
        have f2 : wr.cell? ⟨w.heap.size, 2, none⟩ = some (.int .u64 (hi64 (dns l))) := hblk.cell 2
        have f3 : wr.cell? ⟨w.heap.size, 3, none⟩ = some (.int .u64 (lo64 (dns l))) := hblk.cell 3
        clear hblk Hc Htk HTU
        go_wp2_with fail
        refine (Hls.out _).mono ?_
        rintro e w3 ⟨rfl, hb3⟩
        obtain ⟨hcell, hfroz⟩ := bcell hb3
        have p0 := (hcell w.heap.size 0 hz).trans f0
        have p1 := (hcell w.heap.size 1 hz).trans f1
        have p2 := (hcell w.heap.size 2 hz).trans f2
        have p3 := (hcell w.heap.size 3 hz).trans f3
        clear hcell hfroz f0 f1 f2 f3 g0 g1 g2 g3
        go_wp2_with fail
        refine (Hmin.out _).mono ?_
        rintro e w4 ⟨rfl, hb4⟩
        go_wp2_with fail
        refine (Hsg.out _).mono ?_
        rintro e w5 ⟨rfl, hb5⟩
        go_wp2_with fail
        go_ret2
        exact ⟨rfl, ((hB.trans (hb3.mono hB.size)).trans (hb4.mono (Nat.le_trans hB.size hb3.size))).trans (hb5.mono (Nat.le_trans (Nat.le_trans hB.size hb3.size) hb4.size))⟩
  · have hless : ∀ w, Calls Try.prog 50 #[.agg #[.int .u64 (hi64 (ups l)), .int .u64 (lo64 (ups l))], .agg #[.int .u64 (hi64 (dns l)), .int .u64 (lo64 (dns l))]] w fun e w' => e = .returned (.bool false) ∧ Below w.heap.size w w' := by
      intro w; have := hls w; rw [wless_hl hU0 hD0, decide_eq_false hlt] at this; exact this
    have hmin := fun w => minusP (ups l) (dns l) hD0 (by omega) hU1 w
    have hsg := fun w => signedP (ups l - dns l) false (by omega) (by unfold maxSum at *; omega) w
    have et : ups l - dns l = (if false = true then -(ups l - dns l) else ups l - dns l) := by simp
    rw [et]
    have Hls := Lib.hid hless
    have Hmin := Lib.hid hmin
    have Hsg := Lib.hid hsg
    clear hls hless hmin hsg hU0 hD0 hU1 hD1 et hlt
    generalize hz : tell (if false = true then -(ups l - dns l) else ups l - dns l) = z at *
    clear hz
    generalize ups l - dns l = m at *
    go_enter Try.func38, Try.ntmps38
    go_wp2_with fail
    go_loopw [9] (fun i wr => ∃ k : Nat, k ≤ l.length ∧ i = .int .i64 k ∧ Blk wr w.heap.size 77 (tot (ups (l.take k)) (dns (l.take k))) ∧ Below w.heap.size w wr) (fun i _ => l.length - (intOf i).toNat)
    case atStart => exact ⟨0, Nat.zero_le _, rfl, Blk.new _ _ _, (Below.refl _ _).alloc (Nat.le_refl _) _⟩
    case round =>
      obtain ⟨k, hk, rfl, hblk, hB⟩ := hrel
      have hz := hblk.lt
      have g0 := hblk.frozen 0
      have g1 := hblk.frozen 1
      have g2 := hblk.frozen 2
      have g3 := hblk.frozen 3
      by_cases hlt2 : k < l.length
      · have f0 : wr.cell? ⟨w.heap.size, 0, none⟩ = some (.int .u64 (hi64 (ups (l.take k)))) := hblk.cell 0
        have f1 : wr.cell? ⟨w.heap.size, 1, none⟩ = some (.int .u64 (lo64 (ups (l.take k)))) := hblk.cell 1
        have f2 : wr.cell? ⟨w.heap.size, 2, none⟩ = some (.int .u64 (hi64 (dns (l.take k)))) := hblk.cell 2
        have f3 : wr.cell? ⟨w.heap.size, 3, none⟩ = some (.int .u64 (lo64 (dns (l.take k)))) := hblk.cell 3
        obtain ⟨ad, rfl, h0⟩ := Hc.out k hlt2
        have hx : wr.cell? (ad.add k) = some (.int .i64 (l.getD k 0)) := by
          have h1 : l.getD k 0 = l[k] := by simp [hlt2]
          rw [h1]; exact (hB.cell (World.block_lt_of_cell? w _ h0)).trans h0
        clear h0 Hc
        have Ht := Lib.hid (Htk.out k hlt2)
        have Hblk := Lib.hid hblk
        clear hblk
        generalize l.getD k 0 = x at *
        generalize ups (l.take k) = U at *
        generalize dns (l.take k) = D at *
        generalize hU2 : ups (l.take (k + 1)) = U2 at *
        generalize hD2 : dns (l.take (k + 1)) = D2 at *
        have HU2 := Lib.hid hU2
        have HD2 := Lib.hid hD2
        clear hU2 hD2
        go_wp2_with fail
        refine (Ht.out _).mono ?_
        rintro e w3 ⟨rfl, hb3⟩
        obtain ⟨hcell, hfroz⟩ := bcell hb3
        have p0 := (hcell w.heap.size 0 hz).trans f0
        have p1 := (hcell w.heap.size 1 hz).trans f1
        have p2 := (hcell w.heap.size 2 hz).trans f2
        have p3 := (hcell w.heap.size 3 hz).trans f3
        have q0 := (hfroz w.heap.size 0 hz).trans g0
        have q1 := (hfroz w.heap.size 1 hz).trans g1
        have q2 := (hfroz w.heap.size 2 hz).trans g2
        have q3 := (hfroz w.heap.size 3 hz).trans g3
        clear hcell hfroz f0 f1 f2 f3 g0 g1 g2 g3 hx
        have Hb3 := Lib.hid hb3
        clear hb3
        go_wp2_with fail
        go_roundw
        case rel => exact ⟨k + 1, by omega, by go_num, by rw [HU2.out, HD2.out]; exact tot_put (Hblk.out.below Hb3.out hz) _ _, ((((hB.trans (Hb3.out.mono hB.size)).setCell (Nat.le_refl _) _).setCell (Nat.le_refl _) _).setCell (Nat.le_refl _) _).setCell (Nat.le_refl _) _⟩
        case measure => simp [intOf]; omega
      · obtain rfl : k = l.length := by omega
        rw [HTU.out] at hblk
        have f0 : wr.cell? ⟨w.heap.size, 0, none⟩ = some (.int .u64 (hi64 (ups l))) := hblk.cell 0
        have f1 : wr.cell? ⟨w.heap.size, 1, none⟩ = some (.int .u64 (lo64 (ups l))) := hblk.cell 1
        have f2 : wr.cell? ⟨w.heap.size, 2, none⟩ = some (.int .u64 (hi64 (dns l))) := hblk.cell 2
        have f3 : wr.cell? ⟨w.heap.size, 3, none⟩ = some (.int .u64 (lo64 (dns l))) := hblk.cell 3
        clear hblk Hc Htk HTU
        go_wp2_with fail
        refine (Hls.out _).mono ?_
        rintro e w3 ⟨rfl, hb3⟩
        obtain ⟨hcell, hfroz⟩ := bcell hb3
        have p0 := (hcell w.heap.size 0 hz).trans f0
        have p1 := (hcell w.heap.size 1 hz).trans f1
        have p2 := (hcell w.heap.size 2 hz).trans f2
        have p3 := (hcell w.heap.size 3 hz).trans f3
        clear hcell hfroz f0 f1 f2 f3 g0 g1 g2 g3
        go_wp2_with fail
        refine (Hmin.out _).mono ?_
        rintro e w4 ⟨rfl, hb4⟩
        go_wp2_with fail
        refine (Hsg.out _).mono ?_
        rintro e w5 ⟨rfl, hb5⟩
        go_wp2_with fail
        go_ret2
        exact ⟨rfl, ((hB.trans (hb3.mono hB.size)).trans (hb4.mono (Nat.le_trans hB.size hb3.size))).trans (hb5.mono (Nat.le_trans (Nat.le_trans hB.size hb3.size) hb4.size))⟩
/-- The exact sum of a list, or a refusal. -/
def checked_Sum.f (l0 : List Int) : Option (Int × Int) := if ∀ x ∈ l0, in64 x then some (tell l0.sum) else none
theorem checked_Sum.calls (A0 : Option Addr) (c0 : Nat) (l0 : List Int) (r1 r2 : Int) (w : World) (hr0 : Kd.C (Kd.int .i64) w A0 l0.length l0) (hc0 : l0.length ≤ c0) (h : checked_Sum.f l0 = some (r1, r2)) :
    Calls Try.prog 38 #[.slice A0 l0.length c0] w fun e w' => e = .returned (.tuple #[.int .i64 r1, .int .i64 r2]) ∧ Below w.heap.size w w' := by
  unfold checked_Sum.f at h
  by_cases c : ∀ x ∈ l0, in64 x
  · rw [if_pos c] at h
    have e := Option.some.inj h
    have hr : ReadsOf (Value.int .i64) 0 w A0 l0.length l0 := Kd.reads_of_C hr0
    have := sum_walk l0 A0 c0 w hr.2.1 c fun k hk => by
      obtain ⟨ad, hA, hcell⟩ := hr.2.2 (by omega)
      exact ⟨ad, hA, by rw [hcell k hk]; simp [hk]⟩
    rw [e] at this
    exact this
  · rw [if_neg c] at h; exact absurd h (by simp)
end Go.Proofs.Ytbeadogignmpiaa.Hand
