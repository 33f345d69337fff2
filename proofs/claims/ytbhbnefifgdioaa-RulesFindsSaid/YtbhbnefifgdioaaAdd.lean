/- The reference's Add, as a function of whole numbers. -/
import Derived.Test.YtbhbnefifgdioaaAx0
import Derived.Test.YtbhbnefifgdioaaAx1
import Derived.Test.YtbhbnefifgdioaaHandC
set_option linter.unusedVariables false
set_option linter.unusedSimpArgs false
namespace Go.Proofs.Ytbhbnefifgdioaa.Hand
open Go Go.RowKit Go.Proofs.YtbhbnefifgdioaaW.PrintWords Go.Proofs.YtbhbnefifgdioaaW.PrintMore Go.Proofs.Ytbhbnefifgdioaa.RL

theorem add_at (a b : Int) (ha : small a) (hb : small b) : A.spigotref01_Add.f 100000000 (enc a).1 (enc a).2 (enc b).1 (enc b).2 = some (enc (a + b)) := by
  have la : (Bl.nbits a.natAbs).length ≤ 1000000 := ha
  have lb : (Bl.nbits b.natAbs).length ≤ 1000000 := hb
  have hp := plus_at (Bl.nbits a.natAbs) (Bl.nbits b.natAbs) (by omega) (by omega) 100000000 (by omega)
  have hc := cmp_at (Bl.nbits a.natAbs) (Bl.nbits b.natAbs) (by omega) (by omega) 100000000 (by omega)
  rw [Bl.val_bits, Bl.val_bits] at hp hc
  unfold A.spigotref01_Add.f
  show (if ((enc a).1 == (enc b).1) = true then _ else _) = _
  by_cases hs : decide (a < 0) = decide (b < 0)
  · have e1 : ((enc a).1 == (enc b).1) = true := by show (decide (a < 0) == decide (b < 0)) = true; simp [hs]
    rw [if_pos e1]
    rw [show R.spigotref01_plus.f 100000000 (enc a).2 (enc b).2 = _ from hp, Option.bind_some]
    unfold enc
    rw [decide_eq_decide] at hs
    congr 2
    · rw [decide_eq_decide]; omega
    · congr 1; omega
  · have e1 : ¬ ((enc a).1 == (enc b).1) = true := by show ¬ (decide (a < 0) == decide (b < 0)) = true; simpa using hs
    rw [if_neg e1, show R.spigotref01_cmp.f 100000000 (enc a).2 (enc b).2 = _ from hc, Option.bind_some]
    rw [decide_eq_decide] at hs
    by_cases hlt : a.natAbs < b.natAbs
    · rw [if_pos hlt, if_pos (by omega)]
      have hm := minus_at (Bl.nbits b.natAbs) (Bl.nbits a.natAbs) (by rw [Bl.val_bits, Bl.val_bits]; omega) (by omega) 100000000 (by omega)
      rw [Bl.val_bits, Bl.val_bits] at hm
      rw [show R.spigotref01_minus.f 100000000 (enc b).2 (enc a).2 = _ from hm, Option.bind_some]
      unfold enc
      congr 2
      · rw [decide_eq_decide]; omega
      · congr 1; omega
    · have hge : ¬ (if a.natAbs < b.natAbs then (-1 : Int) else if a.natAbs = b.natAbs then 0 else 1) < 0 := by rw [if_neg hlt]; split <;> omega
      rw [if_neg hge]
      have hm := minus_at (Bl.nbits a.natAbs) (Bl.nbits b.natAbs) (by rw [Bl.val_bits, Bl.val_bits]; omega) (by omega) 100000000 (by omega)
      rw [Bl.val_bits, Bl.val_bits] at hm
      rw [show R.spigotref01_minus.f 100000000 (enc a).2 (enc b).2 = _ from hm, Option.bind_some, pos_ifs]
      show (if decide (a < 0) = true then _ else _) = _
      unfold enc
      have e3 : a.natAbs - b.natAbs = (a + b).natAbs := by omega
      rw [e3]
      by_cases h0 : a < 0
      · rw [if_pos (by simpa using h0)]
        congr 2
        rw [decide_eq_decide]; omega
      · rw [if_neg (by simpa using h0)]
        congr 2
        rw [eq_comm, decide_eq_false_iff_not]; omega
def spigotref01_Add.f (a0_0 : Bool) (l0_1 : List Bool) (a1_0 : Bool) (l1_1 : List Bool) : Option (Bool × List Bool) := if okB a0_0 l0_1 = true ∧ okB a1_0 l1_1 = true then some (enc (dec a0_0 l0_1 + dec a1_0 l1_1)) else none
theorem spigotref01_Add.calls (a0_0 : Bool) (A0_1 : Option Addr) (c0_1 : Nat) (l0_1 : List Bool) (a1_0 : Bool) (A1_1 : Option Addr) (c1_1 : Nat) (l1_1 : List Bool) (r1 : Bool) (r2 : List Bool) (w : World) (hr0_1 : Kd.C Kd.bool w A0_1 l0_1.length l0_1) (hc0_1 : l0_1.length ≤ c0_1) (hr1_1 : Kd.C Kd.bool w A1_1 l1_1.length l1_1) (hc1_1 : l1_1.length ≤ c1_1) (h : spigotref01_Add.f a0_0 l0_1 a1_0 l1_1 = some (r1, r2)) :
    Calls Try.prog 53 #[.agg #[.bool a0_0, .slice A0_1 l0_1.length c0_1], .agg #[.bool a1_0, .slice A1_1 l1_1.length c1_1]] w fun e w' => ∃ v1_ : Value, e = .returned (.agg #[.bool r1, v1_]) ∧ Kd.R Kd.bool 4 w' w.heap.size (fun _ => True) v1_ r2 ∧ Below w.heap.size w w' := by
  unfold spigotref01_Add.f at h
  by_cases c : okB a0_0 l0_1 = true ∧ okB a1_0 l1_1 = true
  · rw [if_pos c] at h
    obtain ⟨z, rfl, rfl, hs, hd⟩ := okB_open c.1
    obtain ⟨y, rfl, rfl, hs2, hd2⟩ := okB_open c.2
    rw [hd, hd2] at h
    have hk := add_at z y hs hs2
    rw [Option.some.inj h] at hk
    exact A.spigotref01_Add.calls _ _ _ _ _ _ _ _ _ r1 r2 w hr0_1 hc0_1 hr1_1 hc1_1 hk
  · rw [if_neg c] at h; exact absurd h (by simp)
end Go.Proofs.Ytbhbnefifgdioaa.Hand
