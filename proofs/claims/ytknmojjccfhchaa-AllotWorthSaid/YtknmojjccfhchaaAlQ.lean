/- The chapter's examples, plainly; a row of the statement's as shares. -/
import Derived.Test.YtknmojjccfhchaaAlP
import Derived.Test.YtknmojjccfhchaaUx4
import Derived.Test.YtknmojjccfhchaaUx6
set_option linter.unusedVariables false
set_option linter.unusedSimpArgs false
namespace Go.Proofs.Ytknmojjccfhchaa.Hand
open Go Go.RowKit Go.Proofs.YtknmojjccfhchaaW.PrintWords Go.Proofs.YtknmojjccfhchaaW.PrintMore Go.Proofs.Ytknmojjccfhchaa.RL Go.Proofs.Ytknmojjccfhchaa.PL
theorem ints_ext {xs ys : List Int} (hn : xs.length = ys.length) (h : ∀ j, j < xs.length → rd xs (j : Int) = rd ys (j : Int)) : xs = ys := by
  apply List.ext_getElem hn
  intro i h1 h2
  have := h i h1
  unfold rd at this
  simp only [Int.toNat_natCast] at this
  rwa [List.getD_eq_getElem?_getD, List.getD_eq_getElem?_getD, List.getElem?_eq_getElem h1, List.getElem?_eq_getElem h2] at this
theorem same_l0 (xs ys : List Int) (hn : xs.length = ys.length) (hm : xs.length ≤ 1000) (d : Nat) : ∀ (k i : Nat), i ≤ xs.length → xs.length - i = d → d < k → (∀ m, m < i → rd xs (m : Int) = rd ys (m : Int)) → U.spigotref03_Same.l0 k xs ys (i : Int) = some (decide (xs = ys)) := by
  induction d with
  | zero =>
    intro k i hi hd hk hall
    obtain ⟨k, rfl⟩ : ∃ m, k = m + 1 := ⟨k - 1, by omega⟩
    simp only [U.spigotref03_Same.l0]
    rw [if_neg (by omega), decide_eq_true (ints_ext hn (fun j hj => hall j (by omega)))]
  | succ d ih =>
    intro k i hi hd hk hall
    obtain ⟨k, rfl⟩ : ∃ m, k = m + 1 := ⟨k - 1, by omega⟩
    simp only [U.spigotref03_Same.l0]
    rw [if_pos (by omega), if_pos (by omega), if_pos (by omega)]
    by_cases h : rd xs (i : Int) = rd ys (i : Int)
    · rw [if_pos h, show wrap64 ((i : Int) + 1) = ((i + 1 : Nat) : Int) from by rw [w64 (by omega) (by omega)]; rfl]
      refine ih k (i + 1) (by omega) (by omega) (by omega) ?_
      intro m hm'
      by_cases he : m = i
      · rw [he]; exact h
      · exact hall m (by omega)
    · rw [if_neg h, decide_eq_false (by rintro rfl; exact h rfl)]
theorem same_is (xs ys : List Int) (hm : xs.length ≤ 1000) (k : Nat) (hk : xs.length < k) : U.spigotref03_Same.f k xs ys = some (decide (xs = ys)) := by
  unfold U.spigotref03_Same.f
  by_cases h : xs.length = ys.length
  · rw [if_pos (by omega)]
    exact same_l0 xs ys h hm _ k 0 (by omega) rfl (by omega) (fun m hm => absurd hm (Nat.not_lt_zero _))
  · rw [if_neg (by omega), decide_eq_false (by rintro rfl; exact h rfl)]
theorem pro_ex : allot_Pro.f 10 [⟨1, 0, 1⟩, ⟨1, 0, 1⟩, ⟨1, 0, 1⟩] = some ([4, 3, 3], 0) := by kernel_rfl
theorem lots_ex : allot_Lots.f 25 [⟨10, 10, 10⟩, ⟨20, 20, 5⟩] = some ([10, 15], 0, 0) := by kernel_rfl
theorem awake_is (k : Nat) (hk : 5 ≤ k) : U.spigotlaw36_awake.f k = some true := by
  unfold U.spigotlaw36_awake.f
  rw [pro_ex, Option.bind_some, lots_ex, Option.bind_some]
  dsimp only
  rw [same_is _ _ (by simp) k (by simp; omega), same_is _ _ (by simp) k (by simp; omega)]
  rfl
/-- A row of the statement's, as shares. -/
def mkS (x : Int × Int × Int) : Shr := ⟨x.1, x.2.1, x.2.2⟩
theorem shr_row (W : World) (A1 : Option Addr) (c1 : Nat) (l1 : List (Int × Int × Int)) (w1 : (A1 = none ∧ c1 = 0 ∧ l1 = []) ∨ ∃ x, A1 = some x ∧ l1.length ≤ c1 ∧ c1 ≤ maxLen ∧ ∀ i (h : i < l1.length), W.cell? (x.add (i * 3 + 0)) = some (.int .i64 l1[i].1) ∧ W.cell? (x.add (i * 3 + 1)) = some (.int .i64 l1[i].2.1) ∧ W.cell? (x.add (i * 3 + 2)) = some (.int .i64 l1[i].2.2) ∧ (Lit.int .i64 l1[i].1).wf = true ∧ (Lit.int .i64 l1[i].2.1).wf = true ∧ (Lit.int .i64 l1[i].2.2).wf = true) :
    Kd.C kS W A1 (l1.map mkS).length (l1.map mkS) ∧ (l1.map mkS).length ≤ c1 ∧ (l1.map mkS).length ≤ 9223372036854775807 := by
  have hlen : (l1.map mkS).length = l1.length := List.length_map ..
  rcases w1 with ⟨rfl, rfl, rfl⟩ | ⟨x, rfl, hc, hm, hf⟩
  · exact ⟨⟨rfl, by simp, fun hp => absurd hp (by simp)⟩, by simp, by simp⟩
  · have hmx : maxLen ≤ 9223372036854775807 := by decide
    refine ⟨⟨rfl, by rw [hlen]; omega, fun hp => ⟨x, rfl, fun j p hj => ?_⟩⟩, by omega, by omega⟩
    have hlt : j < (l1.map mkS).length := (List.getElem?_eq_some_iff.1 hj).1
    have e : (l1.map mkS)[j] = p := (List.getElem?_eq_some_iff.1 hj).2
    have hlt' : j < l1.length := by omega
    obtain ⟨g0, g1, g2, _⟩ := hf j hlt'
    rw [List.getElem_map] at e
    subst e
    refine ⟨[.int .i64 l1[j].1, .int .i64 l1[j].2.1, .int .i64 l1[j].2.2], rfl, U.k42_mk _ (mkS l1[j]), fun i u hu => ?_⟩
    match i, hu with
    | 0, hu => cases hu; exact g0
    | 1, hu => cases hu; exact g1
    | 2, hu => cases hu; exact g2
    | i + 3, hu => simp at hu
end Go.Proofs.Ytknmojjccfhchaa.Hand
