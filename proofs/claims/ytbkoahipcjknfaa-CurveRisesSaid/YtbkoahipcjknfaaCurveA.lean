/- curve.Check: whether weights are a curve. -/
import Derived.Test.YtbkoahipcjknfaaPl
import Derived.Test.YtbkoahipcjknfaaVx0
import Derived.Test.YtbkoahipcjknfaaVx1
set_option linter.unusedVariables false
set_option linter.unusedSimpArgs false
namespace Go.Proofs.Ytbkoahipcjknfaa.Hand
open Go Go.RowKit Go.Proofs.YtbkoahipcjknfaaW.PrintWords Go.Proofs.YtbkoahipcjknfaaW.PrintMore Go.Proofs.Ytbkoahipcjknfaa.RL
def okW (x : Int) : Bool := decide (0 ≤ x ∧ x ≤ 1048576)
def posW (x : Int) : Bool := decide (0 < x)
/-- Are weights a curve? -/
def rightW (l : List Int) : Bool := decide (1 ≤ l.length ∧ l.length ≤ 64) && l.all okW && l.any posW
theorem check_l0 (l : List Int) (hl : l.length ≤ 64) : ∀ (d k i : Nat) (s : Bool), i + d = l.length → d < k →
    V.curve_Check.l0 k s l (l.length : Int) (i : Int) = some (if (l.drop i).all okW = true then (if (s || (l.drop i).any posW) = true then 0 else 30) else 30) := by
  intro d
  induction d with
  | zero =>
    intro k i s hi hk
    obtain ⟨k, rfl⟩ : ∃ m, k = m + 1 := ⟨k - 1, by omega⟩
    simp only [V.curve_Check.l0]
    rw [if_neg (by omega), List.drop_eq_nil_of_le (by omega)]
    cases s <;> rfl
  | succ d ih =>
    intro k i s hi hk
    obtain ⟨k, rfl⟩ : ∃ m, k = m + 1 := ⟨k - 1, by omega⟩
    have hlt : i < l.length := by omega
    have hx : rd l (i : Int) = l[i] := by simp [rd, hlt]
    have hd : l.drop i = l[i] :: l.drop (i + 1) := List.drop_eq_getElem_cons hlt
    simp only [V.curve_Check.l0]
    rw [if_pos (by omega), if_pos (by omega), if_pos (by omega), hx, hd]
    have hw : wrap64 ((i : Int) + 1) = ((i + 1 : Nat) : Int) := wsucc i (by omega)
    by_cases h1 : l[i] < 0
    · have e : okW l[i] = false := by unfold okW; rw [decide_eq_false_iff_not]; omega
      rw [if_pos h1, List.all_cons, e]; rfl
    · rw [if_neg h1]
      by_cases h2 : l[i] > 1048576
      · have e : okW l[i] = false := by unfold okW; rw [decide_eq_false_iff_not]; omega
        rw [if_pos h2, List.all_cons, e]; rfl
      · have e : okW l[i] = true := by unfold okW; rw [decide_eq_true_eq]; omega
        rw [if_neg h2, List.all_cons, e, Bool.true_and, List.any_cons, hw]
        cases s
        · rw [if_neg (by simp), ih k (i + 1) _ (by omega) (by omega)]
          show some (if (l.drop (i + 1)).all okW = true then (if (posW l[i] || (l.drop (i + 1)).any posW) = true then 0 else 30) else 30) = _
          rw [Bool.false_or]
        · rw [if_pos rfl, ih k (i + 1) true (by omega) (by omega)]
          simp
theorem check_is (l : List Int) : V.curve_Check.f 66 l = some (if rightW l = true then 0 else 30) := by
  have hj : V.curve_Check.j0 66 l true = some 30 := by simp [V.curve_Check.j0]
  unfold V.curve_Check.f rightW
  by_cases h1 : (l.length : Int) < 1
  · rw [if_pos h1, hj, decide_eq_false (by omega)]; simp
  · rw [if_neg h1]
    by_cases h2 : (l.length : Int) > 64
    · rw [if_pos h2, hj, decide_eq_false (by omega)]; simp
    · rw [if_neg h2, decide_eq_true (by omega)]
      simp only [V.curve_Check.j0, Bool.false_eq_true, if_false]
      have e0 := check_l0 l (by omega) l.length 65 0 false (by omega) (by omega)
      rw [List.drop_zero, Bool.false_or] at e0
      rw [show V.curve_Check.l0 65 false l (l.length : Int) 0 = _ from e0, Bool.true_and]
      by_cases h3 : l.all okW = true
      · rw [if_pos h3, h3, Bool.true_and]
      · rw [if_neg h3, if_neg (by simp [h3])]
def curve_Check.f (l0 : List Int) : Option Int := some (if rightW l0 = true then 0 else 30)
theorem curve_Check.calls (A0 : Option Addr) (c0 : Nat) (l0 : List Int) (r : Int) (w : World) (hr0 : Kd.C (Kd.int .i64) w A0 l0.length l0) (hc0 : l0.length ≤ c0) (h : curve_Check.f l0 = some r) :
    Calls Try.prog 18 #[.slice A0 l0.length c0] w fun e w' => e = .returned (.int .i64 r) ∧ Drawn0 w w' :=
  V.curve_Check.calls 66 A0 c0 l0 r w hr0 hc0 ((check_is l0).trans h)
/-- What a curve's weights are. -/
theorem right_open {l : List Int} (h : rightW l = true) : (1 ≤ l.length ∧ l.length ≤ 64) ∧ (∀ x ∈ l, 0 ≤ x ∧ x ≤ 1048576) ∧ ∃ x ∈ l, 0 < x := by
  unfold rightW at h
  simp only [Bool.and_eq_true, decide_eq_true_eq, List.all_eq_true, List.any_eq_true] at h
  refine ⟨h.1.1, fun x hx => ?_, ?_⟩
  · have := h.1.2 x hx; unfold okW at this; simpa using this
  · obtain ⟨x, hx, hp⟩ := h.2
    exact ⟨x, hx, by unfold posW at hp; simpa using hp⟩
end Go.Proofs.Ytbkoahipcjknfaa.Hand
