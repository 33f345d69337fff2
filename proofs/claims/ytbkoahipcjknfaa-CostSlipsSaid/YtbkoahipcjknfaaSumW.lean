/- checked.Sum, walked: the exact sum of a list, or a refusal. -/
import Derived.Test.YtbkoahipcjknfaaChk
import Derived.Test.YtbkoahipcjknfaaBlk
import Derived.LoopTactic
import Derived.Deep.RegionWith
import Derived.Outline
/- checked.Sum's parts, walked: a running sum of 128 bits. -/
set_option linter.unusedVariables false
set_option linter.unusedSimpArgs false
namespace Go.Proofs.Ytbkoahipcjknfaa.Hand
open Go Go.RowKit Go.Proofs.YtbkoahipcjknfaaW.PrintWords Go.Proofs.YtbkoahipcjknfaaW.PrintMore Go.Proofs.Ytbkoahipcjknfaa.RL

/-- A number's upper and lower 64 bits. -/
def hi64 (z : Int) : Int := z / 18446744073709551616
def lo64 (z : Int) : Int := z % 18446744073709551616
/-- How much a running sum may be. -/
def maxSum : Int := 170141183460469231731687303715884105728
theorem hi64_b {z : Int} (h0 : 0 ≤ z) (h1 : z ≤ maxSum) : 0 ≤ hi64 z ∧ hi64 z ≤ 18446744073709551615 := by unfold maxSum at h1; unfold hi64; omega
theorem lo64_b (z : Int) : 0 ≤ lo64 z ∧ lo64 z ≤ 18446744073709551615 := by unfold lo64; omega
theorem hi64_add {z a : Int} (h0 : 0 ≤ z) (h1 : z + a ≤ maxSum) (a0 : 0 ≤ a) : IntKind.u64.wrap (hi64 z + (lo64 z + a) / 18446744073709551616) = hi64 (z + a) := by
  unfold maxSum at h1; rw [IntKind.wrap_u64]; unfold hi64 lo64; omega
theorem lo64_add (z a : Int) : (lo64 z + a) % 18446744073709551616 = lo64 (z + a) := by unfold lo64; omega
theorem plusP (z a : Int) (h0 : 0 ≤ z) (h1 : z + a ≤ maxSum) (a0 : 0 ≤ a) (a1 : a ≤ 18446744073709551615) (w : World) :
    Calls Try.prog 118 #[.agg #[.int .u64 (hi64 z), .int .u64 (lo64 z)], .int .u64 a] w fun e w' => e = .returned (.agg #[.int .u64 (hi64 (z + a)), .int .u64 (lo64 (z + a))]) ∧ Below w.heap.size w w' := by
  have hb := hi64_b h0 (show z ≤ maxSum by omega)
  have lb := lo64_b z
  have := plus_calls (hi64 z) (lo64 z) a hb.1 hb.2 lb.1 lb.2 a0 a1 w
  rw [hi64_add h0 h1 a0, lo64_add] at this
  exact this
/-- The sums of what is above and of what is below nought. -/
def upOf (u a : Int) : Int := if a < 0 then u else u + a
def dnOf (d a : Int) : Int := if a < 0 then d - a else d
theorem ab_up {a : Int} (h : ¬ a < 0) : ab a = a := by unfold ab; rw [if_neg h]
theorem ab_dn {a : Int} (h : a < 0) : ab a = -a := by unfold ab; rw [if_pos h]
theorem assert_int (v : Value) (W : World) : (Instr.typeAssert (.iface 3 v) 20 3 true).run Try.prog W = .ok (.tuple #[v, .bool true]) W := by kernel_rfl
set_option maxHeartbeats 4000000 in
set_option maxRecDepth 100000 in
theorem take_calls (u d a : Int) (u0 : 0 ≤ u) (d0 : 0 ≤ d) (u1 : upOf u a ≤ maxSum) (d1 : dnOf d a ≤ maxSum) (a0 : -9223372036854775808 ≤ a) (a1 : a ≤ 9223372036854775807) (w : World) :
    Calls Try.prog 110 #[.agg #[.int .u64 (hi64 u), .int .u64 (lo64 u), .int .u64 (hi64 d), .int .u64 (lo64 d)], .iface 3 (.int .i64 a)] w fun e w' => e = .returned (.agg #[.int .u64 (hi64 (upOf u a)), .int .u64 (lo64 (upOf u a)), .int .u64 (hi64 (dnOf d a)), .int .u64 (lo64 (dnOf d a))]) ∧ Below w.heap.size w w' := by
  by_cases h : a < 0
  · skip
    have e1 : upOf u a = u := if_pos h
    have e2 : dnOf d a = d + ab a := by rw [ab_dn h]; unfold dnOf; rw [if_pos h]; omega
    rw [e1] at u1 ⊢
    rw [e2] at d1 ⊢
    clear e1 e2
    have hp := fun w => plusP d (ab a) d0 d1 (ab_ge a) (by have := ab_le a0 a1; omega) w
    have hs := fun w => size_calls a a0 a1 w
    have Hs := Lib.hid hs
    have Hp := Lib.hid hp
    clear hs hp
    have hta := fun W => assert_int (.int .i64 a) W
    go_enter Try.func110, Try.ntmps110
    go_wp2_with fail
    go_region_with (first
      | (go_at_call 95; refine (Hs.out _).mono ?_; rintro e w1 ⟨rfl, hd⟩; obtain ⟨⟨m, rfl⟩⟩ := hd)
      | (go_at_call 118; refine (Hp.out _).mono ?_; rintro e w2 ⟨rfl, hb⟩; obtain ⟨hcell, hfroz⟩ := bcell hb; have hz : w.heap.size + 1 < w2.heap.size := by have := hb.size; simp at this; omega))
    all_goals
      have B2 : Below w.heap.size w w2 := Below.trans (by first | exact pw_below_drewN (((Below.refl w.heap.size w).alloc (Nat.le_refl _) _).alloc (by simp) _) _ | exact (((Below.refl w.heap.size w).alloc (Nat.le_refl _) _).alloc (by simp) _)) (hb.mono (by simp; omega))
      have f0 := hcell w.heap.size 0 (by simp; omega)
      have f1 := hcell w.heap.size 1 (by simp; omega)
      have f2 := hcell w.heap.size 2 (by simp; omega)
      have f3 := hcell w.heap.size 3 (by simp; omega)
      have e0 := hcell (w.heap.size + 1) 0 (by simp)
      have e1 := hcell (w.heap.size + 1) 1 (by simp)
      have e2 := hcell (w.heap.size + 1) 2 (by simp)
      have e3 := hcell (w.heap.size + 1) 3 (by simp)
      have g0 := hfroz w.heap.size 0 (by simp; omega)
      have g1 := hfroz w.heap.size 1 (by simp; omega)
      have g2 := hfroz w.heap.size 2 (by simp; omega)
      have g3 := hfroz w.heap.size 3 (by simp; omega)
      have j0 := hfroz (w.heap.size + 1) 0 (by simp)
      have j1 := hfroz (w.heap.size + 1) 1 (by simp)
      have j2 := hfroz (w.heap.size + 1) 2 (by simp)
      have j3 := hfroz (w.heap.size + 1) 3 (by simp)
      clear hcell hfroz hb
      simp at f0 f1 f2 f3 e0 e1 e2 e3 g0 g1 g2 g3 j0 j1 j2 j3
      go_wp2_with fail
      exact bodyPost_ret (v := _) (by simp [results, Try.results110, go_sem, f0, f1, f2, f3, e0, e1, e2, e3, hz]) rfl ⟨rfl, (((((B2.setCell (Nat.le_refl _) _).setCell (Nat.le_refl _) _).setCell (Nat.le_succ _) _).setCell (Nat.le_succ _) _).setCell (Nat.le_succ _) _).setCell (Nat.le_succ _) _⟩
  · skip
    have e1 : upOf u a = u + ab a := by rw [ab_up h]; exact if_neg h
    have e2 : dnOf d a = d := if_neg h
    rw [e1] at u1 ⊢
    rw [e2] at d1 ⊢
    clear e1 e2
    have hp := fun w => plusP u (ab a) u0 u1 (ab_ge a) (by have := ab_le a0 a1; omega) w
    have hs := fun w => size_calls a a0 a1 w
    have Hs := Lib.hid hs
    have Hp := Lib.hid hp
    clear hs hp
    have hta := fun W => assert_int (.int .i64 a) W
    go_enter Try.func110, Try.ntmps110
    go_wp2_with fail
    go_region_with (first
      | (go_at_call 95; refine (Hs.out _).mono ?_; rintro e w1 ⟨rfl, hd⟩; obtain ⟨⟨m, rfl⟩⟩ := hd)
      | (go_at_call 118; refine (Hp.out _).mono ?_; rintro e w2 ⟨rfl, hb⟩; obtain ⟨hcell, hfroz⟩ := bcell hb; have hz : w.heap.size + 1 < w2.heap.size := by have := hb.size; simp at this; omega))
    all_goals
      have B2 : Below w.heap.size w w2 := Below.trans (by first | exact pw_below_drewN (((Below.refl w.heap.size w).alloc (Nat.le_refl _) _).alloc (by simp) _) _ | exact (((Below.refl w.heap.size w).alloc (Nat.le_refl _) _).alloc (by simp) _)) (hb.mono (by simp; omega))
      have f0 := hcell w.heap.size 0 (by simp; omega)
      have f1 := hcell w.heap.size 1 (by simp; omega)
      have f2 := hcell w.heap.size 2 (by simp; omega)
      have f3 := hcell w.heap.size 3 (by simp; omega)
      have e0 := hcell (w.heap.size + 1) 0 (by simp)
      have e1 := hcell (w.heap.size + 1) 1 (by simp)
      have e2 := hcell (w.heap.size + 1) 2 (by simp)
      have e3 := hcell (w.heap.size + 1) 3 (by simp)
      have g0 := hfroz w.heap.size 0 (by simp; omega)
      have g1 := hfroz w.heap.size 1 (by simp; omega)
      have g2 := hfroz w.heap.size 2 (by simp; omega)
      have g3 := hfroz w.heap.size 3 (by simp; omega)
      have j0 := hfroz (w.heap.size + 1) 0 (by simp)
      have j1 := hfroz (w.heap.size + 1) 1 (by simp)
      have j2 := hfroz (w.heap.size + 1) 2 (by simp)
      have j3 := hfroz (w.heap.size + 1) 3 (by simp)
      clear hcell hfroz hb
      simp at f0 f1 f2 f3 e0 e1 e2 e3 g0 g1 g2 g3 j0 j1 j2 j3
      go_wp2_with fail
      exact bodyPost_ret (v := _) (by simp [results, Try.results110, go_sem, f0, f1, f2, f3, e0, e1, e2, e3, hz]) rfl ⟨rfl, (((((B2.setCell (Nat.le_refl _) _).setCell (Nat.le_refl _) _).setCell (Nat.le_succ _) _).setCell (Nat.le_succ _) _).setCell (Nat.le_succ _) _).setCell (Nat.le_succ _) _⟩

/-- The sums on the way: of what is above and of what is below nought. -/
def ups (l : List Int) : Int := l.foldl upOf 0
def dns (l : List Int) : Int := l.foldl dnOf 0
theorem ups_snoc (l : List Int) (k : Nat) (h : k < l.length) : ups (l.take (k + 1)) = upOf (ups (l.take k)) l[k] := by
  unfold ups; rw [List.take_succ_eq_append_getElem h, List.foldl_append]; rfl
theorem dns_snoc (l : List Int) (k : Nat) (h : k < l.length) : dns (l.take (k + 1)) = dnOf (dns (l.take k)) l[k] := by
  unfold dns; rw [List.take_succ_eq_append_getElem h, List.foldl_append]; rfl
theorem ups_b : ∀ (l : List Int) (u : Int), (∀ x ∈ l, in64 x) → u ≤ l.foldl upOf u ∧ l.foldl upOf u ≤ u + l.length * 9223372036854775808
  | [], u, _ => by simp
  | a :: l, u, h => by
    have ha := h a (by simp)
    have := ups_b l (upOf u a) fun x hx => h x (by simp [hx])
    have e : u ≤ upOf u a ∧ upOf u a ≤ u + 9223372036854775808 := by unfold upOf; unfold in64 at ha; split <;> omega
    rw [List.foldl_cons, List.length_cons]
    omega
theorem dns_b : ∀ (l : List Int) (u : Int), (∀ x ∈ l, in64 x) → u ≤ l.foldl dnOf u ∧ l.foldl dnOf u ≤ u + l.length * 9223372036854775808
  | [], u, _ => by simp
  | a :: l, u, h => by
    have ha := h a (by simp)
    have := dns_b l (dnOf u a) fun x hx => h x (by simp [hx])
    have e : u ≤ dnOf u a ∧ dnOf u a ≤ u + 9223372036854775808 := by unfold dnOf; unfold in64 at ha; split <;> omega
    rw [List.foldl_cons, List.length_cons]
    omega
theorem ups_dns : ∀ (l : List Int) (u d : Int), l.foldl upOf u - l.foldl dnOf d = u - d + l.sum
  | [], u, d => by simp
  | a :: l, u, d => by
    rw [List.foldl_cons, List.foldl_cons, ups_dns l, List.sum_cons]
    unfold upOf dnOf; split <;> omega
theorem wless_hl {u d : Int} (u0 : 0 ≤ u) (d0 : 0 ≤ d) : wless (hi64 u) (lo64 u) (hi64 d) (lo64 d) = decide (u < d) := by
  unfold wless hi64 lo64; rw [decide_eq_decide]; omega
theorem minusP (u d : Int) (d0 : 0 ≤ d) (h : d ≤ u) (u1 : u ≤ maxSum) (w : World) :
    Calls Try.prog 112 #[.agg #[.int .u64 (hi64 u), .int .u64 (lo64 u)], .agg #[.int .u64 (hi64 d), .int .u64 (lo64 d)]] w fun e w' => e = .returned (.agg #[.int .u64 (hi64 (u - d)), .int .u64 (lo64 (u - d))]) ∧ Below w.heap.size w w' := by
  have hu := hi64_b (show 0 ≤ u by omega) u1
  have hd := hi64_b d0 (show d ≤ maxSum by omega)
  have lu := lo64_b u
  have ld := lo64_b d
  have := minus_calls (hi64 u) (lo64 u) (hi64 d) (lo64 d) hu.1 hu.2 lu.1 lu.2 hd.1 hd.2 ld.1 ld.2 w
  have e1 : IntKind.u64.wrap (IntKind.u64.wrap (hi64 u - hi64 d) - brw (lo64 u) (lo64 d)) = hi64 (u - d) := by
    unfold maxSum at u1; rw [IntKind.wrap_u64, IntKind.wrap_u64]; unfold brw hi64 lo64; split <;> omega
  have e2 : (lo64 u + 18446744073709551616 - lo64 d) % 18446744073709551616 = lo64 (u - d) := by unfold lo64; omega
  rw [e1, e2] at this
  exact this
theorem signedP (z : Int) (b : Bool) (z0 : 0 ≤ z) (z1 : z ≤ maxSum) (w : World) :
    Calls Try.prog 96 #[.agg #[.int .u64 (hi64 z), .int .u64 (lo64 z)], .bool b] w fun e w' => e = .returned (.tuple #[.int .i64 (tell (if b = true then -z else z)).1, .int .i64 (tell (if b = true then -z else z)).2]) ∧ Below w.heap.size w w' := by
  have hz := hi64_b z0 z1
  have lz := lo64_b z
  have := signed_calls (hi64 z) (lo64 z) b hz.1 hz.2 lz.1 lz.2 w
  rw [sgn_tell _ _ _ hz.1 lz.1 lz.2] at this
  have e : hi64 z * 18446744073709551616 + lo64 z = z := by unfold hi64 lo64; omega
  rw [e] at this
  exact this
end Go.Proofs.Ytbkoahipcjknfaa.Hand

/- checked.Sum, walked: the exact sum of a list, or a refusal. -/
set_option linter.unusedVariables false
set_option linter.unusedSimpArgs false
namespace Go.Proofs.Ytbkoahipcjknfaa.Hand
open Go Go.RowKit Go.Proofs.YtbkoahipcjknfaaW.PrintWords Go.Proofs.YtbkoahipcjknfaaW.PrintMore Go.Proofs.Ytbkoahipcjknfaa.RL
def tot (u d : Int) : Array Value := #[.int .u64 (hi64 u), .int .u64 (lo64 u), .int .u64 (hi64 d), .int .u64 (lo64 d)]
theorem tot_put {w : World} {g : Nat} {u d : Int} (h : Blk w g 148 (tot u d)) (u' d' : Int) :
    Blk ((((w.setCell ⟨g, 0, none⟩ (.int .u64 (hi64 u'))).setCell ⟨g, 1, none⟩ (.int .u64 (lo64 u'))).setCell ⟨g, 2, none⟩ (.int .u64 (hi64 d'))).setCell ⟨g, 3, none⟩ (.int .u64 (lo64 d'))) g 148 (tot u' d') :=
  (((h.put 0 _).put 1 _).put 2 _).put 3 _
set_option maxHeartbeats 4000000 in
set_option maxRecDepth 100000 in
theorem sum_walk (l : List Int) (A : Option Addr) (c : Nat) (w : World) (hl : l.length ≤ 9223372036854775807) (hin : ∀ x ∈ l, in64 x) (hc : ∀ k (h : k < l.length), ∃ ad, A = some ad ∧ w.cell? (ad.add k) = some (.int .i64 l[k])) :
    Calls Try.prog 98 #[.slice A l.length c] w fun e w' => e = .returned (.tuple #[.int .i64 (tell l.sum).1, .int .i64 (tell l.sum).2]) ∧ Below w.heap.size w w' := by
  have ub := ups_b l 0 hin
  have db := dns_b l 0 hin
  have ud := ups_dns l 0 0
  have htk : ∀ k, k < l.length → ∀ w, Calls Try.prog 110 #[.agg #[.int .u64 (hi64 (ups (l.take k))), .int .u64 (lo64 (ups (l.take k))), .int .u64 (hi64 (dns (l.take k))), .int .u64 (lo64 (dns (l.take k)))], .iface 3 (.int .i64 (l.getD k 0))] w fun e w' => e = .returned (.agg #[.int .u64 (hi64 (ups (l.take (k + 1)))), .int .u64 (lo64 (ups (l.take (k + 1)))), .int .u64 (hi64 (dns (l.take (k + 1)))), .int .u64 (lo64 (dns (l.take (k + 1))))]) ∧ Below w.heap.size w w' := by
    intro k hk w
    have hx : l.getD k 0 = l[k] := by simp [hk]
    have hin' : ∀ j, ∀ x ∈ l.take j, in64 x := fun j x hx => hin x (List.mem_of_mem_take hx)
    have b1 := ups_b (l.take k) 0 (hin' k)
    have b2 := dns_b (l.take k) 0 (hin' k)
    have b3 := ups_b (l.take (k + 1)) 0 (hin' _)
    have b4 := dns_b (l.take (k + 1)) 0 (hin' _)
    have hlen1 : (l.take k).length ≤ 9223372036854775807 := by simp; omega
    have hlen2 : (l.take (k + 1)).length ≤ 9223372036854775807 := by simp; omega
    have e1 := ups_snoc l k hk
    have e2 := dns_snoc l k hk
    have hi := hin l[k] (List.getElem_mem hk)
    rw [hx, e1, e2]
    refine take_calls _ _ _ (by unfold ups; omega) (by unfold dns; omega) ?_ ?_ hi.1 hi.2 w
    · rw [← e1]; unfold ups maxSum; omega
    · rw [← e2]; unfold dns maxSum; omega
  have hU0 : 0 ≤ ups l := by unfold ups; omega
  have hD0 : 0 ≤ dns l := by unfold dns; omega
  have hU1 : ups l ≤ maxSum := by unfold ups maxSum; omega
  have hD1 : dns l ≤ maxSum := by unfold dns maxSum; omega
  have hs : l.sum = ups l - dns l := by unfold ups dns; omega
  have hls := fun w => less_calls (hi64 (ups l)) (lo64 (ups l)) (hi64 (dns l)) (lo64 (dns l)) w
  have hTU : l.take l.length = l := List.take_length
  rw [hs]
  clear hs ub db ud hin
  have Hc := Lib.hid hc
  have Htk := Lib.hid htk
  have HTU := Lib.hid hTU
  clear hc htk hTU
  by_cases hlt : ups l < dns l
  · have hless : ∀ w, Calls Try.prog 111 #[.agg #[.int .u64 (hi64 (ups l)), .int .u64 (lo64 (ups l))], .agg #[.int .u64 (hi64 (dns l)), .int .u64 (lo64 (dns l))]] w fun e w' => e = .returned (.bool true) ∧ Below w.heap.size w w' := by
      intro w; have := hls w; rw [wless_hl hU0 hD0, decide_eq_true hlt] at this; exact this
    have hmin := fun w => minusP (dns l) (ups l) hU0 (by omega) hD1 w
    have hsg := fun w => signedP (dns l - ups l) true (by omega) (by unfold maxSum at *; omega) w
    have et : ups l - dns l = (if true = true then -(dns l - ups l) else dns l - ups l) := by simp; omega
    rw [et]
    have Hls := Lib.hid hless
    have Hmin := Lib.hid hmin
    have Hsg := Lib.hid hsg
    clear hls hless hmin hsg hU0 hD0 hU1 hD1 et hlt
    generalize hz : tell (if true = true then -(dns l - ups l) else dns l - ups l) = z at *
    clear hz
    generalize dns l - ups l = m at *
    go_enter Try.func98, Try.ntmps98
    go_wp2_with fail
    go_loopw [9] (fun i wr => ∃ k : Nat, k ≤ l.length ∧ i = .int .i64 k ∧ Blk wr w.heap.size 148 (tot (ups (l.take k)) (dns (l.take k))) ∧ Below w.heap.size w wr) (fun i _ => l.length - (intOf i).toNat)
    case atStart => exact ⟨0, Nat.zero_le _, rfl, Blk.new _ _ _, (Below.refl _ _).alloc (Nat.le_refl _) _⟩
    case round =>
      obtain ⟨k, hk, rfl, hblk, hB⟩ := hrel
      have hz := hblk.lt
      have g0 := hblk.frozen 0
      have g1 := hblk.frozen 1
      have g2 := hblk.frozen 2
      have g3 := hblk.frozen 3
      by_cases hlt2 : k < l.length
      · have f0 : wr.cell? ⟨w.heap.size, 0, none⟩ = some (.int .u64 (hi64 (ups (l.take k)))) := hblk.cell 0
        have f1 : wr.cell? ⟨w.heap.size, 1, none⟩ = some (.int .u64 (lo64 (ups (l.take k)))) := hblk.cell 1
        have f2 : wr.cell? ⟨w.heap.size, 2, none⟩ = some (.int .u64 (hi64 (dns (l.take k)))) := hblk.cell 2
        have f3 : wr.cell? ⟨w.heap.size, 3, none⟩ = some (.int .u64 (lo64 (dns (l.take k)))) := hblk.cell 3
        obtain ⟨ad, rfl, h0⟩ := Hc.out k hlt2
        have hx : wr.cell? (ad.add k) = some (.int .i64 (l.getD k 0)) := by
          have h1 : l.getD k 0 = l[k] := by simp [hlt2]
          rw [h1]; exact (hB.cell (World.block_lt_of_cell? w _ h0)).trans h0
        clear h0 Hc
        have Ht := Lib.hid (Htk.out k hlt2)
        have Hblk := Lib.hid hblk
        clear hblk
        generalize l.getD k 0 = x at *
        generalize ups (l.take k) = U at *
        generalize dns (l.take k) = D at *
        generalize hU2 : ups (l.take (k + 1)) = U2 at *
        generalize hD2 : dns (l.take (k + 1)) = D2 at *
        have HU2 := Lib.hid hU2
        have HD2 := Lib.hid hD2
        clear hU2 hD2
        go_wp2_with fail
        refine (Ht.out _).mono ?_
        rintro e w3 ⟨rfl, hb3⟩
        obtain ⟨hcell, hfroz⟩ := bcell hb3
        have p0 := (hcell w.heap.size 0 hz).trans f0
        have p1 := (hcell w.heap.size 1 hz).trans f1
        have p2 := (hcell w.heap.size 2 hz).trans f2
        have p3 := (hcell w.heap.size 3 hz).trans f3
        have q0 := (hfroz w.heap.size 0 hz).trans g0
        have q1 := (hfroz w.heap.size 1 hz).trans g1
        have q2 := (hfroz w.heap.size 2 hz).trans g2
        have q3 := (hfroz w.heap.size 3 hz).trans g3
        clear hcell hfroz f0 f1 f2 f3 g0 g1 g2 g3 hx
        have Hb3 := Lib.hid hb3
        clear hb3
        go_wp2_with fail
        go_roundw
        case rel => exact ⟨k + 1, by omega, by go_num, by rw [HU2.out, HD2.out]; exact tot_put (Hblk.out.below Hb3.out hz) _ _, ((((hB.trans (Hb3.out.mono hB.size)).setCell (Nat.le_refl _) _).setCell (Nat.le_refl _) _).setCell (Nat.le_refl _) _).setCell (Nat.le_refl _) _⟩
        case measure => simp [intOf]; omega
      · obtain rfl : k = l.length := by omega
        rw [HTU.out] at hblk
        have f0 : wr.cell? ⟨w.heap.size, 0, none⟩ = some (.int .u64 (hi64 (ups l))) := hblk.cell 0
        have f1 : wr.cell? ⟨w.heap.size, 1, none⟩ = some (.int .u64 (lo64 (ups l))) := hblk.cell 1
        have f2 : wr.cell? ⟨w.heap.size, 2, none⟩ = some (.int .u64 (hi64 (dns l))) := hblk.cell 2
        have f3 : wr.cell? ⟨w.heap.size, 3, none⟩ = some (.int .u64 (lo64 (dns l))) := hblk.cell 3
        clear hblk Hc Htk HTU
        go_wp2_with fail
        refine (Hls.out _).mono ?_
        rintro e w3 ⟨rfl, hb3⟩
        obtain ⟨hcell, hfroz⟩ := bcell hb3
        have p0 := (hcell w.heap.size 0 hz).trans f0
        have p1 := (hcell w.heap.size 1 hz).trans f1
        have p2 := (hcell w.heap.size 2 hz).trans f2
        have p3 := (hcell w.heap.size 3 hz).trans f3
        clear hcell hfroz f0 f1 f2 f3 g0 g1 g2 g3
        go_wp2_with fail
        refine (Hmin.out _).mono ?_
        rintro e w4 ⟨rfl, hb4⟩
        go_wp2_with fail
        refine (Hsg.out _).mono ?_
        rintro e w5 ⟨rfl, hb5⟩
        go_wp2_with fail
        go_ret2
        exact ⟨rfl, ((hB.trans (hb3.mono hB.size)).trans (hb4.mono (Nat.le_trans hB.size hb3.size))).trans (hb5.mono (Nat.le_trans (Nat.le_trans hB.size hb3.size) hb4.size))⟩
  · have hless : ∀ w, Calls Try.prog 111 #[.agg #[.int .u64 (hi64 (ups l)), .int .u64 (lo64 (ups l))], .agg #[.int .u64 (hi64 (dns l)), .int .u64 (lo64 (dns l))]] w fun e w' => e = .returned (.bool false) ∧ Below w.heap.size w w' := by
      intro w; have := hls w; rw [wless_hl hU0 hD0, decide_eq_false hlt] at this; exact this
    have hmin := fun w => minusP (ups l) (dns l) hD0 (by omega) hU1 w
    have hsg := fun w => signedP (ups l - dns l) false (by omega) (by unfold maxSum at *; omega) w
    have et : ups l - dns l = (if false = true then -(ups l - dns l) else ups l - dns l) := by simp
    rw [et]
    have Hls := Lib.hid hless
    have Hmin := Lib.hid hmin
    have Hsg := Lib.hid hsg
    clear hls hless hmin hsg hU0 hD0 hU1 hD1 et hlt
    generalize hz : tell (if false = true then -(ups l - dns l) else ups l - dns l) = z at *
    clear hz
    generalize ups l - dns l = m at *
    go_enter Try.func98, Try.ntmps98
    go_wp2_with fail
    go_loopw [9] (fun i wr => ∃ k : Nat, k ≤ l.length ∧ i = .int .i64 k ∧ Blk wr w.heap.size 148 (tot (ups (l.take k)) (dns (l.take k))) ∧ Below w.heap.size w wr) (fun i _ => l.length - (intOf i).toNat)
    case atStart => exact ⟨0, Nat.zero_le _, rfl, Blk.new _ _ _, (Below.refl _ _).alloc (Nat.le_refl _) _⟩
    case round =>
      obtain ⟨k, hk, rfl, hblk, hB⟩ := hrel
      have hz := hblk.lt
      have g0 := hblk.frozen 0
      have g1 := hblk.frozen 1
      have g2 := hblk.frozen 2
      have g3 := hblk.frozen 3
      by_cases hlt2 : k < l.length
      · have f0 : wr.cell? ⟨w.heap.size, 0, none⟩ = some (.int .u64 (hi64 (ups (l.take k)))) := hblk.cell 0
        have f1 : wr.cell? ⟨w.heap.size, 1, none⟩ = some (.int .u64 (lo64 (ups (l.take k)))) := hblk.cell 1
        have f2 : wr.cell? ⟨w.heap.size, 2, none⟩ = some (.int .u64 (hi64 (dns (l.take k)))) := hblk.cell 2
        have f3 : wr.cell? ⟨w.heap.size, 3, none⟩ = some (.int .u64 (lo64 (dns (l.take k)))) := hblk.cell 3
        obtain ⟨ad, rfl, h0⟩ := Hc.out k hlt2
        have hx : wr.cell? (ad.add k) = some (.int .i64 (l.getD k 0)) := by
          have h1 : l.getD k 0 = l[k] := by simp [hlt2]
          rw [h1]; exact (hB.cell (World.block_lt_of_cell? w _ h0)).trans h0
        clear h0 Hc
        have Ht := Lib.hid (Htk.out k hlt2)
        have Hblk := Lib.hid hblk
        clear hblk
        generalize l.getD k 0 = x at *
        generalize ups (l.take k) = U at *
        generalize dns (l.take k) = D at *
        generalize hU2 : ups (l.take (k + 1)) = U2 at *
        generalize hD2 : dns (l.take (k + 1)) = D2 at *
        have HU2 := Lib.hid hU2
        have HD2 := Lib.hid hD2
        clear hU2 hD2
        go_wp2_with fail
        refine (Ht.out _).mono ?_
        rintro e w3 ⟨rfl, hb3⟩
        obtain ⟨hcell, hfroz⟩ := bcell hb3
        have p0 := (hcell w.heap.size 0 hz).trans f0
        have p1 := (hcell w.heap.size 1 hz).trans f1
        have p2 := (hcell w.heap.size 2 hz).trans f2
        have p3 := (hcell w.heap.size 3 hz).trans f3
        have q0 := (hfroz w.heap.size 0 hz).trans g0
        have q1 := (hfroz w.heap.size 1 hz).trans g1
        have q2 := (hfroz w.heap.size 2 hz).trans g2
        have q3 := (hfroz w.heap.size 3 hz).trans g3
        clear hcell hfroz f0 f1 f2 f3 g0 g1 g2 g3 hx
        have Hb3 := Lib.hid hb3
        clear hb3
        go_wp2_with fail
        go_roundw
        case rel => exact ⟨k + 1, by omega, by go_num, by rw [HU2.out, HD2.out]; exact tot_put (Hblk.out.below Hb3.out hz) _ _, ((((hB.trans (Hb3.out.mono hB.size)).setCell (Nat.le_refl _) _).setCell (Nat.le_refl _) _).setCell (Nat.le_refl _) _).setCell (Nat.le_refl _) _⟩
        case measure => simp [intOf]; omega
      · obtain rfl : k = l.length := by omega
        rw [HTU.out] at hblk
        have f0 : wr.cell? ⟨w.heap.size, 0, none⟩ = some (.int .u64 (hi64 (ups l))) := hblk.cell 0
        have f1 : wr.cell? ⟨w.heap.size, 1, none⟩ = some (.int .u64 (lo64 (ups l))) := hblk.cell 1
        have f2 : wr.cell? ⟨w.heap.size, 2, none⟩ = some (.int .u64 (hi64 (dns l))) := hblk.cell 2
        have f3 : wr.cell? ⟨w.heap.size, 3, none⟩ = some (.int .u64 (lo64 (dns l))) := hblk.cell 3
        clear hblk Hc Htk HTU
        go_wp2_with fail
        refine (Hls.out _).mono ?_
        rintro e w3 ⟨rfl, hb3⟩
        obtain ⟨hcell, hfroz⟩ := bcell hb3
        have p0 := (hcell w.heap.size 0 hz).trans f0
        have p1 := (hcell w.heap.size 1 hz).trans f1
        have p2 := (hcell w.heap.size 2 hz).trans f2
        have p3 := (hcell w.heap.size 3 hz).trans f3
        clear hcell hfroz f0 f1 f2 f3 g0 g1 g2 g3
        go_wp2_with fail
        refine (Hmin.out _).mono ?_
        rintro e w4 ⟨rfl, hb4⟩
        go_wp2_with fail
        refine (Hsg.out _).mono ?_
        rintro e w5 ⟨rfl, hb5⟩
        go_wp2_with fail
        go_ret2
        exact ⟨rfl, ((hB.trans (hb3.mono hB.size)).trans (hb4.mono (Nat.le_trans hB.size hb3.size))).trans (hb5.mono (Nat.le_trans (Nat.le_trans hB.size hb3.size) hb4.size))⟩
/-- The exact sum of a list, or a refusal. -/
def checked_Sum.f (l0 : List Int) : Option (Int × Int) := if ∀ x ∈ l0, in64 x then some (tell l0.sum) else none
theorem checked_Sum.calls (A0 : Option Addr) (c0 : Nat) (l0 : List Int) (r1 r2 : Int) (w : World) (hr0 : Kd.C (Kd.int .i64) w A0 l0.length l0) (hc0 : l0.length ≤ c0) (h : checked_Sum.f l0 = some (r1, r2)) :
    Calls Try.prog 98 #[.slice A0 l0.length c0] w fun e w' => e = .returned (.tuple #[.int .i64 r1, .int .i64 r2]) ∧ Below w.heap.size w w' := by
  unfold checked_Sum.f at h
  by_cases c : ∀ x ∈ l0, in64 x
  · rw [if_pos c] at h
    have e := Option.some.inj h
    have hr : ReadsOf (Value.int .i64) 0 w A0 l0.length l0 := Kd.reads_of_C hr0
    have := sum_walk l0 A0 c0 w hr.2.1 c fun k hk => by
      obtain ⟨ad, hA, hcell⟩ := hr.2.2 (by omega)
      exact ⟨ad, hA, by rw [hcell k hk]; simp [hk]⟩
    rw [e] at this
    exact this
  · rw [if_neg c] at h; exact absurd h (by simp)
end Go.Proofs.Ytbkoahipcjknfaa.Hand
