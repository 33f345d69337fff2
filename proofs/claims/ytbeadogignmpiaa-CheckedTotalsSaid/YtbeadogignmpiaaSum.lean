/- checked.Sum's parts, walked: a running sum of 128 bits. -/
import Derived.Test.YtbeadogignmpiaaChk
import Derived.Test.YtbeadogignmpiaaBlk
import Derived.LoopTactic
import Derived.Deep.RegionWith
import Derived.Outline
set_option linter.unusedVariables false
set_option linter.unusedSimpArgs false
namespace Go.Proofs.Ytbeadogignmpiaa.Hand
open Go Go.RowKit Go.Proofs.YtbeadogignmpiaaW.PrintWords Go.Proofs.YtbeadogignmpiaaW.PrintMore Go.Proofs.Ytbeadogignmpiaa.RL

/-- A number's upper and lower 64 bits. -/
def hi64 (z : Int) : Int := z / 18446744073709551616
def lo64 (z : Int) : Int := z % 18446744073709551616
/-- How much a running sum may be. -/
def maxSum : Int := 170141183460469231731687303715884105728
theorem hi64_b {z : Int} (h0 : 0 ≤ z) (h1 : z ≤ maxSum) : 0 ≤ hi64 z ∧ hi64 z ≤ 18446744073709551615 := by unfold maxSum at h1; unfold hi64; omega
theorem lo64_b (z : Int) : 0 ≤ lo64 z ∧ lo64 z ≤ 18446744073709551615 := by unfold lo64; omega
theorem hi64_add {z a : Int} (h0 : 0 ≤ z) (h1 : z + a ≤ maxSum) (a0 : 0 ≤ a) : IntKind.u64.wrap (hi64 z + (lo64 z + a) / 18446744073709551616) = hi64 (z + a) := by
  unfold maxSum at h1; rw [IntKind.wrap_u64]; unfold hi64 lo64; omega
theorem lo64_add (z a : Int) : (lo64 z + a) % 18446744073709551616 = lo64 (z + a) := by unfold lo64; omega
theorem plusP (z a : Int) (h0 : 0 ≤ z) (h1 : z + a ≤ maxSum) (a0 : 0 ≤ a) (a1 : a ≤ 18446744073709551615) (w : World) :
    Calls Try.prog 59 #[.agg #[.int .u64 (hi64 z), .int .u64 (lo64 z)], .int .u64 a] w fun e w' => e = .returned (.agg #[.int .u64 (hi64 (z + a)), .int .u64 (lo64 (z + a))]) ∧ Below w.heap.size w w' := by
  have hb := hi64_b h0 (show z ≤ maxSum by omega)
  have lb := lo64_b z
  have := plus_calls (hi64 z) (lo64 z) a hb.1 hb.2 lb.1 lb.2 a0 a1 w
  rw [hi64_add h0 h1 a0, lo64_add] at this
  exact this
/-- The sums of what is above and of what is below nought. -/
def upOf (u a : Int) : Int := if a < 0 then u else u + a
def dnOf (d a : Int) : Int := if a < 0 then d - a else d
theorem ab_up {a : Int} (h : ¬ a < 0) : ab a = a := by unfold ab; rw [if_neg h]
theorem ab_dn {a : Int} (h : a < 0) : ab a = -a := by unfold ab; rw [if_pos h]
theorem assert_int (v : Value) (W : World) : (Instr.typeAssert (.iface 3 v) 20 3 true).run Try.prog W = .ok (.tuple #[v, .bool true]) W := by kernel_rfl
set_option maxHeartbeats 4000000 in
set_option maxRecDepth 100000 in
theorem take_calls (u d a : Int) (u0 : 0 ≤ u) (d0 : 0 ≤ d) (u1 : upOf u a ≤ maxSum) (d1 : dnOf d a ≤ maxSum) (a0 : -9223372036854775808 ≤ a) (a1 : a ≤ 9223372036854775807) (w : World) :
    Calls Try.prog 51 #[.agg #[.int .u64 (hi64 u), .int .u64 (lo64 u), .int .u64 (hi64 d), .int .u64 (lo64 d)], .iface 3 (.int .i64 a)] w fun e w' => e = .returned (.agg #[.int .u64 (hi64 (upOf u a)), .int .u64 (lo64 (upOf u a)), .int .u64 (hi64 (dnOf d a)), .int .u64 (lo64 (dnOf d a))]) ∧ Below w.heap.size w w' := by
  by_cases h : a < 0
  · skip
    have e1 : upOf u a = u := if_pos h
    have e2 : dnOf d a = d + ab a := by rw [ab_dn h]; unfold dnOf; rw [if_pos h]; omega
    rw [e1] at u1 ⊢
    rw [e2] at d1 ⊢
    clear e1 e2
    have hp := fun w => plusP d (ab a) d0 d1 (ab_ge a) (by have := ab_le a0 a1; omega) w
    have hs := fun w => size_calls a a0 a1 w
    have Hs := Lib.hid hs
    have Hp := Lib.hid hp
    clear hs hp
    have hta := fun W => assert_int (.int .i64 a) W
    go_enter Try.func51, Try.ntmps51
    go_wp2_with fail
    go_region_with (first
      | (go_at_call 42; refine (Hs.out _).mono ?_; rintro e w1 ⟨rfl, hd⟩; obtain ⟨⟨m, rfl⟩⟩ := hd)
      | (go_at_call 59; refine (Hp.out _).mono ?_; rintro e w2 ⟨rfl, hb⟩; obtain ⟨hcell, hfroz⟩ := bcell hb; have hz : w.heap.size + 1 < w2.heap.size := by have := hb.size; simp at this; omega))
    all_goals
      have B2 : Below w.heap.size w w2 := Below.trans (by first | exact pw_below_drewN (((Below.refl w.heap.size w).alloc (Nat.le_refl _) _).alloc (by simp) _) _ | exact (((Below.refl w.heap.size w).alloc (Nat.le_refl _) _).alloc (by simp) _)) (hb.mono (by simp; omega))
      have f0 := hcell w.heap.size 0 (by simp; omega)
      have f1 := hcell w.heap.size 1 (by simp; omega)
      have f2 := hcell w.heap.size 2 (by simp; omega)
      have f3 := hcell w.heap.size 3 (by simp; omega)
      have e0 := hcell (w.heap.size + 1) 0 (by simp)
      have e1 := hcell (w.heap.size + 1) 1 (by simp)
      have e2 := hcell (w.heap.size + 1) 2 (by simp)
      have e3 := hcell (w.heap.size + 1) 3 (by simp)
      have g0 := hfroz w.heap.size 0 (by simp; omega)
      have g1 := hfroz w.heap.size 1 (by simp; omega)
      have g2 := hfroz w.heap.size 2 (by simp; omega)
      have g3 := hfroz w.heap.size 3 (by simp; omega)
      have j0 := hfroz (w.heap.size + 1) 0 (by simp)
      have j1 := hfroz (w.heap.size + 1) 1 (by simp)
      have j2 := hfroz (w.heap.size + 1) 2 (by simp)
      have j3 := hfroz (w.heap.size + 1) 3 (by simp)
      clear hcell hfroz hb
      simp at f0 f1 f2 f3 e0 e1 e2 e3 g0 g1 g2 g3 j0 j1 j2 j3
      go_wp2_with fail
      exact bodyPost_ret (v := _) (by simp [results, Try.results51, go_sem, f0, f1, f2, f3, e0, e1, e2, e3, hz]) rfl ⟨rfl, (((((B2.setCell (Nat.le_refl _) _).setCell (Nat.le_refl _) _).setCell (Nat.le_succ _) _).setCell (Nat.le_succ _) _).setCell (Nat.le_succ _) _).setCell (Nat.le_succ _) _⟩
  · skip
    have e1 : upOf u a = u + ab a := by rw [ab_up h]; exact if_neg h
    have e2 : dnOf d a = d := if_neg h
    rw [e1] at u1 ⊢
    rw [e2] at d1 ⊢
    clear e1 e2
    have hp := fun w => plusP u (ab a) u0 u1 (ab_ge a) (by have := ab_le a0 a1; omega) w
    have hs := fun w => size_calls a a0 a1 w
    have Hs := Lib.hid hs
    have Hp := Lib.hid hp
    clear hs hp
    have hta := fun W => assert_int (.int .i64 a) W
    go_enter Try.func51, Try.ntmps51
    go_wp2_with fail
    go_region_with (first
      | (go_at_call 42; refine (Hs.out _).mono ?_; rintro e w1 ⟨rfl, hd⟩; obtain ⟨⟨m, rfl⟩⟩ := hd)
      | (go_at_call 59; refine (Hp.out _).mono ?_; rintro e w2 ⟨rfl, hb⟩; obtain ⟨hcell, hfroz⟩ := bcell hb; have hz : w.heap.size + 1 < w2.heap.size := by have := hb.size; simp at this; omega))
    all_goals
      have B2 : Below w.heap.size w w2 := Below.trans (by first | exact pw_below_drewN (((Below.refl w.heap.size w).alloc (Nat.le_refl _) _).alloc (by simp) _) _ | exact (((Below.refl w.heap.size w).alloc (Nat.le_refl _) _).alloc (by simp) _)) (hb.mono (by simp; omega))
      have f0 := hcell w.heap.size 0 (by simp; omega)
      have f1 := hcell w.heap.size 1 (by simp; omega)
      have f2 := hcell w.heap.size 2 (by simp; omega)
      have f3 := hcell w.heap.size 3 (by simp; omega)
      have e0 := hcell (w.heap.size + 1) 0 (by simp)
      have e1 := hcell (w.heap.size + 1) 1 (by simp)
      have e2 := hcell (w.heap.size + 1) 2 (by simp)
      have e3 := hcell (w.heap.size + 1) 3 (by simp)
      have g0 := hfroz w.heap.size 0 (by simp; omega)
      have g1 := hfroz w.heap.size 1 (by simp; omega)
      have g2 := hfroz w.heap.size 2 (by simp; omega)
      have g3 := hfroz w.heap.size 3 (by simp; omega)
      have j0 := hfroz (w.heap.size + 1) 0 (by simp)
      have j1 := hfroz (w.heap.size + 1) 1 (by simp)
      have j2 := hfroz (w.heap.size + 1) 2 (by simp)
      have j3 := hfroz (w.heap.size + 1) 3 (by simp)
      clear hcell hfroz hb
      simp at f0 f1 f2 f3 e0 e1 e2 e3 g0 g1 g2 g3 j0 j1 j2 j3
      go_wp2_with fail
      exact bodyPost_ret (v := _) (by simp [results, Try.results51, go_sem, f0, f1, f2, f3, e0, e1, e2, e3, hz]) rfl ⟨rfl, (((((B2.setCell (Nat.le_refl _) _).setCell (Nat.le_refl _) _).setCell (Nat.le_succ _) _).setCell (Nat.le_succ _) _).setCell (Nat.le_succ _) _).setCell (Nat.le_succ _) _⟩

/-- The sums on the way: of what is above and of what is below nought. -/
def ups (l : List Int) : Int := l.foldl upOf 0
def dns (l : List Int) : Int := l.foldl dnOf 0
theorem ups_snoc (l : List Int) (k : Nat) (h : k < l.length) : ups (l.take (k + 1)) = upOf (ups (l.take k)) l[k] := by
  unfold ups; rw [List.take_succ_eq_append_getElem h, List.foldl_append]; rfl
theorem dns_snoc (l : List Int) (k : Nat) (h : k < l.length) : dns (l.take (k + 1)) = dnOf (dns (l.take k)) l[k] := by
  unfold dns; rw [List.take_succ_eq_append_getElem h, List.foldl_append]; rfl
theorem ups_b : ∀ (l : List Int) (u : Int), (∀ x ∈ l, in64 x) → u ≤ l.foldl upOf u ∧ l.foldl upOf u ≤ u + l.length * 9223372036854775808
  | [], u, _ => by simp
  | a :: l, u, h => by
    have ha := h a (by simp)
    have := ups_b l (upOf u a) fun x hx => h x (by simp [hx])
    have e : u ≤ upOf u a ∧ upOf u a ≤ u + 9223372036854775808 := by unfold upOf; unfold in64 at ha; split <;> omega
    rw [List.foldl_cons, List.length_cons]
    omega
theorem dns_b : ∀ (l : List Int) (u : Int), (∀ x ∈ l, in64 x) → u ≤ l.foldl dnOf u ∧ l.foldl dnOf u ≤ u + l.length * 9223372036854775808
  | [], u, _ => by simp
  | a :: l, u, h => by
    have ha := h a (by simp)
    have := dns_b l (dnOf u a) fun x hx => h x (by simp [hx])
    have e : u ≤ dnOf u a ∧ dnOf u a ≤ u + 9223372036854775808 := by unfold dnOf; unfold in64 at ha; split <;> omega
    rw [List.foldl_cons, List.length_cons]
    omega
theorem ups_dns : ∀ (l : List Int) (u d : Int), l.foldl upOf u - l.foldl dnOf d = u - d + l.sum
  | [], u, d => by simp
  | a :: l, u, d => by
    rw [List.foldl_cons, List.foldl_cons, ups_dns l, List.sum_cons]
    unfold upOf dnOf; split <;> omega
theorem wless_hl {u d : Int} (u0 : 0 ≤ u) (d0 : 0 ≤ d) : wless (hi64 u) (lo64 u) (hi64 d) (lo64 d) = decide (u < d) := by
  unfold wless hi64 lo64; rw [decide_eq_decide]; omega
theorem minusP (u d : Int) (d0 : 0 ≤ d) (h : d ≤ u) (u1 : u ≤ maxSum) (w : World) :
    Calls Try.prog 52 #[.agg #[.int .u64 (hi64 u), .int .u64 (lo64 u)], .agg #[.int .u64 (hi64 d), .int .u64 (lo64 d)]] w fun e w' => e = .returned (.agg #[.int .u64 (hi64 (u - d)), .int .u64 (lo64 (u - d))]) ∧ Below w.heap.size w w' := by
  have hu := hi64_b (show 0 ≤ u by omega) u1
  have hd := hi64_b d0 (show d ≤ maxSum by omega)
  have lu := lo64_b u
  have ld := lo64_b d
  have := minus_calls (hi64 u) (lo64 u) (hi64 d) (lo64 d) hu.1 hu.2 lu.1 lu.2 hd.1 hd.2 ld.1 ld.2 w
  have e1 : IntKind.u64.wrap (IntKind.u64.wrap (hi64 u - hi64 d) - brw (lo64 u) (lo64 d)) = hi64 (u - d) := by
    unfold maxSum at u1; rw [IntKind.wrap_u64, IntKind.wrap_u64]; unfold brw hi64 lo64; split <;> omega
  have e2 : (lo64 u + 18446744073709551616 - lo64 d) % 18446744073709551616 = lo64 (u - d) := by unfold lo64; omega
  rw [e1, e2] at this
  exact this
theorem signedP (z : Int) (b : Bool) (z0 : 0 ≤ z) (z1 : z ≤ maxSum) (w : World) :
    Calls Try.prog 43 #[.agg #[.int .u64 (hi64 z), .int .u64 (lo64 z)], .bool b] w fun e w' => e = .returned (.tuple #[.int .i64 (tell (if b = true then -z else z)).1, .int .i64 (tell (if b = true then -z else z)).2]) ∧ Below w.heap.size w w' := by
  have hz := hi64_b z0 z1
  have lz := lo64_b z
  have := signed_calls (hi64 z) (lo64 z) b hz.1 hz.2 lz.1 lz.2 w
  rw [sgn_tell _ _ _ hz.1 lz.1 lz.2] at this
  have e : hi64 z * 18446744073709551616 + lo64 z = z := by unfold hi64 lo64; omega
  rw [e] at this
  exact this
end Go.Proofs.Ytbeadogignmpiaa.Hand
