/- The document's asks: Same, kept, walked. -/
import Derived.Test.YtapfidpfjbacgaaSp1
set_option linter.unusedVariables false
set_option linter.unusedSimpArgs false
namespace Go.Proofs.Ytapfidpfjbacgaa.Hand
open Go Go.RowKit Go.Proofs.YtapfidpfjbacgaaW.PrintWords Go.Proofs.YtapfidpfjbacgaaW.PrintMore Go.Proofs.Ytapfidpfjbacgaa.RL Go.Proofs.Ytapfidpfjbacgaa.PL
set_option maxHeartbeats 8000000 in
set_option maxRecDepth 100000 in
theorem same12_walk (k sd q p al st en rt sh rt2 sh2 : Int) (id tg ac sy : ByteArray) (A B : Option Addr) (n c m d : Nat) (v : Bool) (w : World) (hS : ∀ w', Below w.heap.size w w' → Calls Try.prog 37 #[.slice A n c, .slice B m d] w' fun e w'' => e = .returned (.bool v) ∧ Below w'.heap.size w' w'') :
    Calls Try.prog 17 #[.agg (askC k sd q p al st en rt sh id tg ac sy (.slice A n c)), .agg (askC k sd q p al st en rt2 sh2 id tg ac sy (.slice B m d))] w fun e w' => e = .returned (.bool (decide (rt = rt2) && decide (sh = sh2) && v)) ∧ Below w.heap.size w w' := by
  have HS := Lib.hid (fun o1 o2 => hS ((w.alloc o1).alloc o2) (((Below.refl _ _).alloc (Nat.le_refl _) _).alloc (by simp) _))
  clear hS
  by_cases g1 : rt = rt2
  · subst g1
    by_cases g2 : sh = sh2
    · subst g2
      go_enter Try.func17, Try.ntmps17
      go_wp2_with (go_at_call 37; (with_reducible refine (HS.out _ _).mono ?_); rintro e wi ⟨rfl, hb⟩)
      go_ret
      exact ⟨by simp, bt (((Below.refl _ _).alloc (Nat.le_refl _) _).alloc (by simp) _) hb⟩
    · go_enter Try.func17, Try.ntmps17
      go_wp2_with fail
      go_ret
      exact ⟨by simp [g2], ((Below.refl _ _).alloc (Nat.le_refl _) _).alloc (by simp) _⟩
  · go_enter Try.func17, Try.ntmps17
    go_wp2_with fail
    go_ret
    exact ⟨by simp [g1], ((Below.refl _ _).alloc (Nat.le_refl _) _).alloc (by simp) _⟩
set_option maxHeartbeats 8000000 in
set_option maxRecDepth 100000 in
theorem same12_no (k sd q p al st en rt sh rt2 sh2 : Int) (id tg ac sy : ByteArray) (A B : Option Addr) (n c m d : Nat) (htg : tg.toList.isEmpty = false) (w : World) :
    Calls Try.prog 17 #[.agg (askC k sd q p al st en rt sh id tg ac sy (.slice A n c)), .agg (askC k sd q p al st en rt2 sh2 id ⟨#[]⟩ ac sy (.slice B m d))] w fun e w' => e = .returned (.bool false) ∧ Below w.heap.size w w' := by
  go_enter Try.func17, Try.ntmps17
  go_wp2_with fail
  go_ret
  exact ⟨by simp, ((Below.refl _ _).alloc (Nat.le_refl _) _).alloc (by simp) _⟩
set_option maxHeartbeats 8000000 in
set_option maxRecDepth 100000 in
theorem kept_walk (sd q p al st en rt sh : Int) (id tg ac sy : ByteArray) (A : Option Addr) (n c : Nat) (w : World) :
    Calls Try.prog 53 #[.agg (askC 1 sd q p al st en rt sh id tg ac sy (.slice A n c))] w fun e w' => e = .returned (.agg (askC 1 sd q p al st en (if al = 3 then rt else 0) (if al = 4 then sh else 0) id ⟨#[]⟩ ac sy (if al = 2 then .slice A n c else .slice none 0 0))) ∧ Below w.heap.size w w' := by
  by_cases a2 : al = 2
  · subst a2
    go_enter Try.func53, Try.ntmps53
    go_wp2_with fail
    exact bodyPost_ret (v := .agg (askC 1 sd q p 2 st en 0 0 id ⟨#[]⟩ ac sy (.slice A n c))) (by simp [results, Try.results53, go_sem]) rfl ⟨rfl, (((Below.refl _ _).alloc (Nat.le_refl _) _).alloc (by simp) _).alloc (by simp; omega) _⟩
  · by_cases a3 : al = 3
    · subst a3
      go_enter Try.func53, Try.ntmps53
      go_wp2_with fail
      exact bodyPost_ret (v := .agg (askC 1 sd q p 3 st en rt 0 id ⟨#[]⟩ ac sy (.slice none 0 0))) (by simp [results, Try.results53, go_sem]) rfl ⟨rfl, (((Below.refl _ _).alloc (Nat.le_refl _) _).alloc (by simp) _).alloc (by simp; omega) _⟩
    · by_cases a4 : al = 4
      · subst a4
        go_enter Try.func53, Try.ntmps53
        go_wp2_with fail
        exact bodyPost_ret (v := .agg (askC 1 sd q p 4 st en 0 sh id ⟨#[]⟩ ac sy (.slice none 0 0))) (by simp [results, Try.results53, go_sem]) rfl ⟨rfl, (((Below.refl _ _).alloc (Nat.le_refl _) _).alloc (by simp) _).alloc (by simp; omega) _⟩
      · rw [if_neg a2, if_neg a3, if_neg a4]
        go_enter Try.func53, Try.ntmps53
        go_wp2_with fail
        exact bodyPost_ret (v := .agg (askC 1 sd q p al st en 0 0 id ⟨#[]⟩ ac sy (.slice none 0 0))) (by simp [results, Try.results53, go_sem]) rfl ⟨rfl, (((Below.refl _ _).alloc (Nat.le_refl _) _).alloc (by simp) _).alloc (by simp; omega) _⟩
end Go.Proofs.Ytapfidpfjbacgaa.Hand
