/- allot's split: the sum of whole numbers, the comparing of rests; walked. -/
import Derived.Test.YtknmojjccfhchaaAl5
import Derived.Deep.QuietTactic
import Derived.BigQuiet
set_option linter.unusedVariables false
set_option linter.unusedSimpArgs false
namespace Go.Proofs.Ytknmojjccfhchaa.Hand
open Go Go.RowKit Go.Proofs.YtknmojjccfhchaaW.PrintWords Go.Proofs.YtknmojjccfhchaaW.PrintMore Go.Proofs.Ytknmojjccfhchaa.RL Go.Proofs.Ytknmojjccfhchaa.PL
theorem same_int (x : Int) (w : World) : Calls Try.prog 38 #[.int .i64 x] w fun e w' => e = .returned (.int .i64 x) ∧ w' = w := by
  go_enter Try.func38, Try.ntmps38
  go_wp2_with fail
  go_ret
  exact ⟨rfl, rfl⟩
theorem isum_take (l : List Int) (j : Nat) (h : j < l.length) : (l.take (j + 1)).sum = (l.take j).sum + l.getD j 0 := by
  rw [List.take_succ_eq_append_getElem h, List.sum_append, List.getD_eq_getElem?_getD, List.getElem?_eq_getElem h]
  simp
theorem isum_b (l : List Int) (hb : ∀ x ∈ l, 0 ≤ x ∧ x ≤ 1099511627776) : 0 ≤ l.sum ∧ l.sum ≤ l.length * 1099511627776 := by
  induction l with
  | nil => simp
  | cons x l ih =>
    have h1 := hb x (by simp)
    have h2 := ih (fun y hy => hb y (by simp [hy]))
    simp only [List.sum_cons, List.length_cons]
    omega
set_option maxHeartbeats 4000000 in
set_option maxRecDepth 100000 in
theorem itotal_walk (A : Option Addr) (c : Nat) (l : List Int) (hm : l.length ≤ 64) (hb : ∀ x ∈ l, 0 ≤ x ∧ x ≤ 1099511627776) (w : World) (hC : Kd.C (Kd.int .i64) w A l.length l) :
    Calls Try.prog 36 #[.slice A l.length c, .func (.func 38) #[] #[]] w fun e w' => e = .returned (.int .i64 l.sum) ∧ w' = w := by
  have hl : ∀ j, j < l.length → ∃ ad, A = some ad ∧ w.cell? (ad.add j) = some (.int .i64 (l.getD j 0)) := fun j hj => by
    have := Kd.at_int hC (j : Int) (by omega) (by omega)
    rw [Int.toNat_natCast] at this
    have e : rd l (j : Int) = l.getD j 0 := by unfold rd; rw [Int.toNat_natCast]
    rwa [e] at this
  have hsum : ∀ j : Nat, j < l.length → (l.take (j + 1)).sum = (l.take j).sum + l.getD j 0 ∧ 0 ≤ (l.take j).sum ∧ (l.take j).sum ≤ 70368744177664 ∧ 0 ≤ l.getD j 0 ∧ l.getD j 0 ≤ 1099511627776 := fun j hj => by
    have h1 := isum_b (l.take j) (fun x hx => hb x (List.mem_of_mem_take hx))
    have h2 : 0 ≤ l.getD j 0 ∧ l.getD j 0 ≤ 1099511627776 := by
      rw [List.getD_eq_getElem?_getD, List.getElem?_eq_getElem hj]
      exact hb _ (List.getElem_mem hj)
    have h3 : (l.take j).length ≤ 64 := by rw [List.length_take]; omega
    exact ⟨isum_take l j hj, h1.1, by omega, h2.1, h2.2⟩
  have hend : l.sum = (l.take l.length).sum := by rw [List.take_length]
  have HR := Lib.hid hl; have HS := Lib.hid hsum; have HE := Lib.hid hend
  have hz : (l.take 0).sum = 0 := rfl
  clear hsum hl hend hC
  go_enter Try.func36, Try.ntmps36
  go_wp2_with fail
  go_loopw [5, 10] (fun s i wr => ∃ j : Nat, j ≤ l.length ∧ s = .int .i64 ((l.take j).sum) ∧ i = .int .i64 j ∧ wr = w) (fun _ i _ => l.length - (intOf i).toNat)
  case atStart => exact ⟨0, Nat.zero_le _, by rw [hz], rfl, rfl⟩
  case round =>
    obtain ⟨j, hj, rfl, rfl, rfl⟩ := hrel
    by_cases hlt : j < l.length
    · obtain ⟨ad, rfl, c0⟩ := HR.out j hlt
      obtain ⟨s1, s2, s3, s4, s5⟩ := HS.out j hlt
      have hA := fun w => same_int (l.getD j 0) w
      generalize l.getD j 0 = x at *
      generalize (l.take j).sum = s at *
      have HA := Lib.hid hA
      have hN := Lib.hid s1
      clear HR HS HE hz hA s1
      go_wp2_with (go_at_call 38; (with_reducible refine (HA.out _).mono ?_); rintro e wa ⟨rfl, rfl⟩)
      go_roundw
      case rel => exact ⟨j + 1, by omega, by rw [hN.out], by go_num, trivial⟩
      case measure => simp only [intOf]; omega
    · obtain rfl : j = l.length := by omega
      have he := HE.out
      clear HR HS HE
      go_wp2_with fail
      go_ret
      exact ⟨congrArg (fun x => Ending.returned (.int .i64 x)) he.symm, rfl⟩
/-- Of two rests the greater goes ahead. -/
def cfR (x y : Int) : Int := if y < x then -1 else if x < y then 1 else 0
set_option maxHeartbeats 2000000 in
theorem scmp_walk (bR gr n : Nat) (r : List Int) (i k : Nat) (hi : i < n) (hk : k < n) (w : World) (h1 : w.cell? ⟨bR, 0, none⟩ = some (.slice (some ⟨gr, 0, none⟩) n n)) (h2 : ∀ j, j < n → w.cell? ⟨gr, j, none⟩ = some (.int .i64 (r.getD j 0))) :
    Calls Try.prog 40 #[.int .i64 i, .int .i64 k, .pointer (some ⟨bR, 0, none⟩)] w fun e w' => e = .returned (.int .i64 (cfR (r.getD i 0) (r.getD k 0))) ∧ ∃ q, w' = w.drewN q := by
  have c1 := h2 i hi
  have c2 := h2 k hk
  have dn : ∀ e : Ending, ∀ m : Nat, e = e ∧ ∃ q, w.drewN m = w.drewN q := fun e m => ⟨rfl, m, rfl⟩
  have p1 : (0 : Int) ≤ (i : Int) := by omega
  have p2 : (0 : Int) ≤ (k : Int) := by omega
  have q1 : (i : Int) < (n : Int) := by omega
  have q2 : (k : Int) < (n : Int) := by omega
  clear h2 dn
  unfold cfR
  generalize r.getD i 0 = x at *
  generalize r.getD k 0 = y at *
  by_cases d1 : y < x
  · rw [if_pos d1]
    go_enter Try.func40, Try.ntmps40
    go_wp2_with fail
    repeat (go_quiet (fail); try go_wp2)
    go_ret
    exact ⟨rfl, by first | exact ⟨_, rfl⟩ | exact ⟨_, World.drewN_drewN ..⟩⟩
  · rw [if_neg d1]
    by_cases d2 : x < y
    · rw [if_pos d2]
      go_enter Try.func40, Try.ntmps40
      go_wp2_with fail
      repeat (go_quiet (fail); try go_wp2)
      go_ret
      exact ⟨rfl, by first | exact ⟨_, rfl⟩ | exact ⟨_, World.drewN_drewN ..⟩⟩
    · rw [if_neg d2]
      go_enter Try.func40, Try.ntmps40
      go_wp2_with fail
      repeat (go_quiet (fail); try go_wp2)
      go_ret
      exact ⟨rfl, by first | exact ⟨_, rfl⟩ | exact ⟨_, World.drewN_drewN ..⟩⟩
end Go.Proofs.Ytknmojjccfhchaa.Hand
