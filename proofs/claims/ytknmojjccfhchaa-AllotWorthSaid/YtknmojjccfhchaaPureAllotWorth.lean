/- AllotWorth: what each got is worth is the document's, or refused; no condition. -/
import Derived.Test.YtknmojjccfhchaaAlQ
import Derived.Test.YtknmojjccfhchaaAlE
import Derived.Test.YtknmojjccfhchaaAlW
import Derived.Test.YtknmojjccfhchaaUx17
set_option linter.unusedVariables false
set_option linter.unusedSimpArgs false
namespace Go.Proofs.Ytknmojjccfhchaa.Pure
open Go Go.RowKit Go.Proofs.Ytknmojjccfhchaa.U Go.Proofs.Ytknmojjccfhchaa.PL Go.Proofs.Ytknmojjccfhchaa.Hand Go.Proofs.Ytknmojjccfhchaa.RL Go.Proofs.YtknmojjccfhchaaW.PrintWords Go.Proofs.YtknmojjccfhchaaW.PrintMore
/-- Is anything wrong from i on? Is anything there? -/
def badF (l : List Int) (i : Nat) : Bool := (l.drop i).any (fun n => !okN n)
def someF (l : List Int) (i : Nat) : Bool := (l.drop i).any (fun n => decide (0 < n))
theorem drop_step (l : List Int) (i : Nat) (hi : i < l.length) : badF l i = (!okN (rd l (i : Int)) || badF l (i + 1)) ∧ someF l i = (decide (0 < rd l (i : Int)) || someF l (i + 1)) := by
  have e : rd l (i : Int) = l[i] := by unfold rd; rw [Int.toNat_natCast, List.getD_eq_getElem?_getD, List.getElem?_eq_getElem hi]; rfl
  unfold badF someF
  rw [List.drop_eq_getElem_cons hi, e]
  exact ⟨rfl, rfl⟩
theorem worth_l0 (q : Int) (l G : List Int) (e : Int) (res : Bool) (hn : l.length ≤ 1000) (d : Nat) :
    ∀ (i : Nat) (b s : Bool), i ≤ l.length → l.length - i = d → Ev (fun k => (if (b || badF l i) = true then spigotlaw36_AllotWorth.j2 k q l G e true else spigotlaw36_AllotWorth.j2 k q l G e (!(s || someF l i))) = some res) → Ev fun k => spigotlaw36_AllotWorth.l0 k q l G e b s l (l.length : Int) (i : Int) = some res := by
  induction d with
  | zero =>
    intro i b s hi hd h
    obtain rfl : i = l.length := by omega
    refine h.succ fun k hk => ?_
    have e1 : badF l l.length = false := by unfold badF; rw [List.drop_length]; rfl
    have e2 : someF l l.length = false := by unfold someF; rw [List.drop_length]; rfl
    rw [e1, e2, Bool.or_false, Bool.or_false] at hk
    simp only [spigotlaw36_AllotWorth.l0]
    rw [if_neg (by omega)]
    exact hk
  | succ d ih =>
    intro i b s hi hd h
    have hil : i < l.length := by omega
    obtain ⟨d1, d2⟩ := drop_step l i hil
    have key : ∀ b' s', b' = (b || !okN (rd l (i : Int))) → s' = (s || decide (0 < rd l (i : Int))) → Ev fun k => spigotlaw36_AllotWorth.l0 k q l G e b' s' l (l.length : Int) (wrap64 ((i : Int) + 1)) = some res := fun b' s' hb hs => by
      rw [wrap_n (by omega)]
      refine ih (i + 1) b' s' (by omega) (by omega) (h.imp fun k hk => ?_)
      rw [d1, d2] at hk
      rw [hb, hs, Bool.or_assoc, Bool.or_assoc]
      exact hk
    generalize hx : rd l (i : Int) = x at *
    have hstep : ∀ k, spigotlaw36_AllotWorth.l0 (k + 1) q l G e b s l (l.length : Int) (i : Int) = spigotlaw36_AllotWorth.l0 k q l G e (b || !okN x) (s || decide (0 < x)) l (l.length : Int) (wrap64 ((i : Int) + 1)) := fun k => by
      simp only [spigotlaw36_AllotWorth.l0]
      rw [if_pos (by omega), if_pos (by omega), if_pos (by omega), hx]
      unfold okN
      cases b with
      | true =>
        rw [if_pos rfl]
        cases s with
        | true => rw [if_pos rfl]; rfl
        | false => rw [if_neg (by decide)]; rfl
      | false =>
        rw [if_neg (by decide)]
        by_cases c : x < 0
        · rw [if_pos c, decide_eq_false (show ¬ (0 ≤ x ∧ x ≤ 1099511627776) by omega)]
          cases s with
          | true => rw [if_pos rfl]; rfl
          | false => rw [if_neg (by decide)]; rfl
        · rw [if_neg c]
          have e3 : (!decide (0 ≤ x ∧ x ≤ 1099511627776)) = decide (x > 1099511627776) := by
            by_cases c2 : x > 1099511627776
            · rw [decide_eq_true c2, decide_eq_false (by omega)]; rfl
            · rw [decide_eq_false c2, decide_eq_true (by omega)]; rfl
          rw [e3]
          cases s with
          | true => rw [if_pos rfl]; rfl
          | false => rw [if_neg (by decide)]; rfl
    refine (key _ _ rfl rfl).succ fun k hk => ?_
    rw [hstep]; exact hk
theorem worth_flags (q : Int) (l : List Int) : (decide (q < 0) || decide ((l.length : Int) > 64) || badF l 0 || !someF l 0) = !okW q l := by
  unfold okW
  have eb : badF l 0 = !l.all okN := by unfold badF; rw [List.drop_zero]; rw [List.not_all_eq_any_not]
  cases hall : l.all okN with
  | false => rw [eb, hall]; simp
  | true =>
    have h0 : ∀ x ∈ l, 0 ≤ x := fun x hx => by
      have := List.all_eq_true.1 hall x hx
      unfold okN at this
      rw [decide_eq_true_eq] at this
      exact this.1
    have es : someF l 0 = !decide (l.sum = 0) := by
      unfold someF
      rw [List.drop_zero]
      clear hall eb
      induction l with
      | nil => rfl
      | cons a l ih =>
        have ih := ih (fun y hy => h0 y (by simp [hy]))
        have h1 := h0 a (by simp)
        have h2 := sum_nn l (fun y hy => h0 y (by simp [hy]))
        rw [List.any_cons, ih, List.sum_cons]
        by_cases c : 0 < a
        · rw [decide_eq_true c, decide_eq_false (show ¬ a + l.sum = 0 by omega)]; rfl
        · rw [decide_eq_false c]
          by_cases c2 : l.sum = 0
          · rw [decide_eq_true c2, decide_eq_true (show a + l.sum = 0 by omega)]; rfl
          · rw [decide_eq_false c2, decide_eq_false (show ¬ a + l.sum = 0 by omega)]; rfl
    rw [eb, hall, es]
    by_cases c1 : 0 ≤ q ∧ l.length ≤ 64
    · rw [decide_eq_true c1, decide_eq_false (show ¬ q < 0 by omega), decide_eq_false (show ¬ (l.length : Int) > 64 by omega)]
      simp
    · rw [decide_eq_false c1]
      rcases Int.lt_or_le q 0 with h | h
      · rw [decide_eq_true h]; simp
      · rw [decide_eq_true (show (l.length : Int) > 64 by omega)]; simp
def resW (q : Int) (l : List Int) : List Int × Int := if okW q l = true then (splitS q l, 0) else ([], 2)
theorem AllotWorth : spigotlaw36_AllotWorth.Pure := by
  intro q l hw _ _ hwf
  have hq := in64_wf hw
  unfold in64 at hq
  by_cases h70 : (l.length : Int) > 70
  · refine ⟨5, ?_⟩
    unfold spigotlaw36_AllotWorth.f
    rw [awake_is _ (by omega), Option.bind_some, if_pos rfl, if_pos h70]
  · have hW : allot_Worth.f q l = some (resW q l) := by unfold allot_Worth.f; rw [if_pos (by omega)]; rfl
    have hfl := worth_flags q l
    -- what the last question tells
    have hend : Ev fun k => spigotlaw36_AllotWorth.j2 k q l (resW q l).1 (resW q l).2 (!okW q l) = some true := by
      unfold resW
      cases hok : okW q l with
      | false =>
        refine (Ev.now (p := fun _ => True) fun _ => trivial).succ fun k _ => ?_
        simp [spigotlaw36_AllotWorth.j2]
      | true =>
        rw [if_pos rfl]
        unfold okW at hok
        simp only [Bool.and_eq_true, decide_eq_true_eq, Bool.not_eq_true', decide_eq_false_iff_not] at hok
        obtain ⟨⟨h0, h64⟩, hall, hs0⟩ := hok
        have hx : ∀ x ∈ l, 0 ≤ x ∧ x ≤ 1099511627776 := fun x hx => by
          have := List.all_eq_true.1 hall x hx
          unfold okN at this
          rw [decide_eq_true_eq] at this
          exact this
        have hsb := isum_b l hx
        have hpos : 0 < l.length := by
          rcases Nat.eq_zero_or_pos l.length with h | h
          · exact absurd (by rw [List.length_eq_zero_iff.1 h]; rfl) hs0
          · exact h
        have F : SplitF q l.sum l := ⟨hpos, h64, ⟨h0, hq.2⟩, ⟨by omega, by omega⟩, rfl, fun x h => (hx x h).1⟩
        obtain ⟨K, hK⟩ := rsplit_is F
        refine Ev.from (K + 1010) fun k hk => ?_
        obtain ⟨k, rfl⟩ : ∃ m, k = m + 1 := ⟨k - 1, by omega⟩
        simp [spigotlaw36_AllotWorth.j2, hK k (by omega), same_is (splitS q l) (splitS q l) (by rw [split_len]; omega) k (by rw [split_len]; omega)]
    have hl : ∀ b, b = (decide (q < 0) || decide ((l.length : Int) > 64)) → Ev fun k => spigotlaw36_AllotWorth.j0 k q l (resW q l).1 (resW q l).2 b = some true := fun b hb => by
      have h1 : Ev fun k => (if (b || badF l 0) = true then spigotlaw36_AllotWorth.j2 k q l (resW q l).1 (resW q l).2 true else spigotlaw36_AllotWorth.j2 k q l (resW q l).1 (resW q l).2 (!(false || someF l 0))) = some true := hend.imp (fun k hk => by
        rw [← hfl, ← hb] at hk
        cases hbb : (b || badF l 0) with
        | true => rw [if_pos rfl]; rw [hbb, Bool.true_or] at hk; exact hk
        | false => rw [if_neg (by decide), Bool.false_or]; rw [hbb, Bool.false_or] at hk; exact hk)
      exact (worth_l0 q l _ _ true (by omega) l.length 0 b false (Nat.zero_le _) rfl h1).succ (fun k hk => by
        simp only [spigotlaw36_AllotWorth.j0]
        exact hk)
    obtain ⟨K, hK⟩ := hl _ rfl
    refine ⟨K + 5, ?_⟩
    have hk := hK (K + 5) (by omega)
    unfold spigotlaw36_AllotWorth.f
    rw [awake_is _ (by omega), Option.bind_some, if_pos rfl, if_neg h70, hW, Option.bind_some]
    by_cases c : q < 0
    · rw [if_pos c]
      rw [decide_eq_true c, Bool.true_or] at hk; exact hk
    · rw [if_neg c]
      rw [decide_eq_false c, Bool.false_or] at hk
      by_cases c2 : (l.length : Int) > 64
      · rw [if_pos c2]
        rw [decide_eq_true c2] at hk; exact hk
      · rw [if_neg c2]
        rw [decide_eq_false c2] at hk; exact hk
end Go.Proofs.Ytknmojjccfhchaa.Pure
