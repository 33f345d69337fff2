/- The reference's Neg, walked. -/
import Derived.Test.YtenlifjfehnldaaAdd
import Derived.Test.YtenlifjfehnldaaPl
import Derived.Test.YtenlifjfehnldaaBlk
import Derived.Outline
set_option linter.unusedVariables false
set_option linter.unusedSimpArgs false
namespace Go.Proofs.Ytenlifjfehnldaa.Hand
open Go Go.RowKit Go.Proofs.YtenlifjfehnldaaW.PrintWords Go.Proofs.YtenlifjfehnldaaW.PrintMore Go.Proofs.Ytenlifjfehnldaa.RL Go.Proofs.Ytenlifjfehnldaa.PL
set_option maxHeartbeats 1000000 in
theorem neg_walk (s : Bool) (A : Option Addr) (n c : Nat) (w : World) :
    Calls Try.prog 34 #[.agg #[.bool s, .slice A n c]] w fun e w' => e = .returned (.agg #[.bool (!s && decide (0 < n)), .slice A n c]) ∧ Below w.heap.size w w' := by
  by_cases h : 0 < n <;> cases s
  all_goals
    go_enter Try.func34, Try.ntmps34
    go_wp2_with fail
    exact bodyPost_ret (v := .agg #[.bool _, .slice A n c]) (by simp [results, Try.results34, go_sem, h]; rfl) rfl ⟨by simp [h], ((Below.refl w.heap.size w).alloc (Nat.le_refl _) _).alloc (by simp) _⟩
theorem neg_enc (b : Int) (A : Option Addr) (c : Nat) (w : World) :
    Calls Try.prog 34 #[.agg #[.bool (enc b).1, .slice A (enc b).2.length c]] w fun e w' => e = .returned (.agg #[.bool (enc (-b)).1, .slice A (enc b).2.length c]) ∧ Below w.heap.size w w' := by
  have e : (!(enc b).1 && decide (0 < (enc b).2.length)) = (enc (-b)).1 := by
    have hl := len_pos b.natAbs
    show (!decide (b < 0) && decide (0 < (Bl.nbits b.natAbs).length)) = decide (-b < 0)
    by_cases h : b < 0
    · have h2 : ¬ -b < 0 := by omega
      simp [h]; omega
    · by_cases h2 : 0 < b.natAbs
      · have h3 := hl.2 h2
        have h4 : -b < 0 := by omega
        have h5 : 0 < (Bl.nbits b.natAbs).length := by omega
        simp [h, h5]; omega
      · have h3 : ¬ 0 < (Bl.nbits b.natAbs).length := fun q => h2 (hl.1 (by omega))
        have h4 : ¬ -b < 0 := by omega
        simp [h3]; omega
  have := neg_walk (enc b).1 A (enc b).2.length c w
  rw [e] at this
  exact this
theorem bcell_new {W w1 : World} {o : Obj} (hb : Below (W.alloc o).heap.size (W.alloc o) w1) (k : Nat) : w1.cell? ⟨W.heap.size, k, none⟩ = (W.alloc o).cell? ⟨W.heap.size, k, none⟩ ∧ w1.frozen? ⟨W.heap.size, k, none⟩ = (W.alloc o).frozen? ⟨W.heap.size, k, none⟩ ∧ W.heap.size < w1.heap.size := by
  have hs : W.heap.size < (W.alloc o).heap.size := by simp
  exact ⟨(bcell hb).1 _ _ hs, (bcell hb).2 _ _ hs, Nat.lt_of_lt_of_le hs hb.size⟩
theorem bcell_newd {W w1 : World} {o : Obj} (hb : Below ((W.alloc o).drew).heap.size ((W.alloc o).drew) w1) (k : Nat) : w1.cell? ⟨W.heap.size, k, none⟩ = (W.alloc o).cell? ⟨W.heap.size, k, none⟩ ∧ w1.frozen? ⟨W.heap.size, k, none⟩ = (W.alloc o).frozen? ⟨W.heap.size, k, none⟩ ∧ W.heap.size < w1.heap.size := by
  have hs : W.heap.size < (W.alloc o).heap.size := by simp
  exact ⟨(bcell hb).1 _ _ hs, (bcell hb).2 _ _ hs, Nat.lt_of_lt_of_le hs hb.size⟩
end Go.Proofs.Ytenlifjfehnldaa.Hand
