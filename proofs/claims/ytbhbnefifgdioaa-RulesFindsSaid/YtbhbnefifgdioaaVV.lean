/- Texts laid together by join.py: Val Var. -/
import Derived.Test.YtbhbnefifgdioaaPl
import Derived.Test.YtbhbnefifgdioaaBlk
import Derived.Test.YtbhbnefifgdioaaHandE
import Derived.Laws.MakeOwn
import Derived.Laws.OwnMore
import Derived.LoopTactic
import Derived.BigRegion
import Derived.Outline
import Derived.Laws.RangeAny
import Derived.Laws.IdiomStrings
/- The document's names: Valid walked. -/
set_option linter.unusedVariables false
set_option linter.unusedSimpArgs false
namespace Go.Proofs.Ytbhbnefifgdioaa.Hand
open Go Go.RowKit Go.Proofs.YtbhbnefifgdioaaW.PrintWords Go.Proofs.YtbhbnefifgdioaaW.PrintMore Go.Proofs.Ytbhbnefifgdioaa.RL Go.Proofs.Ytbhbnefifgdioaa.PL
/-- A yes or no, and what was there is left. -/
def AnyB (w : World) (e : Ending) (w' : World) : Prop := ∃ b : Bool, e = .returned (.bool b) ∧ Below w.heap.size w w'
theorem AnyB.mk {w w' : World} (b : Bool) (h : Below w.heap.size w w') : AnyB w (.returned (.bool b)) w' := ⟨b, rfl, h⟩
end Go.Proofs.Ytbhbnefifgdioaa.Hand

/- The roster's Valid, walked: it says what the runes of a text say. -/
set_option linter.unusedVariables false
set_option linter.unusedSimpArgs false
namespace Go.Proofs.Ytbhbnefifgdioaa.Hand
open Go Go.RowKit Go.Proofs.YtbhbnefifgdioaaW.PrintWords Go.Proofs.YtbhbnefifgdioaaW.PrintMore Go.Proofs.Ytbhbnefifgdioaa.RL Go.Proofs.Ytbhbnefifgdioaa.PL
/-- The runes of a text, from a place on. -/
def rl (s : ByteArray) : Nat → Nat → List Nat
  | 0, _ => []
  | b + 1, pos => if pos < s.size then (Utf8.decode s pos).1 :: rl s b (pos + (Utf8.decode s pos).2) else []
def mayR (c : Nat) : Bool := decide (33 ≤ c) && decide (c ≠ 127) && decide (c ≠ 61) && decide (c ≠ 65533)
/-- Is a text a name? -/
def nameV (s : ByteArray) : Bool := decide (1 ≤ (rl s s.size 0).length) && decide ((rl s s.size 0).length ≤ 20) && (rl s s.size 0).all mayR
theorem rl_end (s : ByteArray) (b pos : Nat) (h : ¬ pos < s.size) : rl s b pos = [] := by
  cases b with
  | zero => rfl
  | succ b => simp [rl, h]
theorem wd_pos (s : ByteArray) (pos : Nat) (h : pos < s.size) : 1 ≤ (Utf8.decode s pos).2 := by
  by_cases ha : (s[pos]'h).toNat < 128
  · rw [decode_ascii s pos h ha]
    exact Nat.le_refl _
  · exact (decode_high s pos h (by omega)).2
theorem may_calls (c : Int) (w : World) : Calls Try.prog 64 #[.int .i32 c] w fun e w' => e = .returned (.bool (decide (33 ≤ c) && decide (c ≠ 127) && decide (c ≠ 61) && decide (c ≠ 65533))) ∧ w' = w := by
  by_cases h1 : 33 ≤ c <;> by_cases h2 : c = 127 <;> by_cases h3 : c = 61 <;> by_cases h4 : c = 65533
  all_goals first
    | (exfalso; omega)
    | (go_enter Try.func64, Try.ntmps64
       go_wp2_with fail
       go_ret
       exact ⟨by simp [h1, h2, h3, h4], rfl⟩)
set_option maxHeartbeats 4000000 in
set_option maxRecDepth 100000 in
theorem rvalid_walk (s : ByteArray) (w : World) : Calls Try.prog 55 #[.string s] w fun e w' => e = .returned (.bool (nameV s)) ∧ ∃ o, w' = w.alloc o := by
  have hres : ∀ b, b = nameV s → ∀ p, (Ending.returned (.bool b) = .returned (.bool (nameV s)) ∧ ∃ o, (w.iter s p) = w.alloc o) := fun b h p => ⟨by rw [h], _, rfl⟩
  have HR := Lib.hid hres
  clear hres
  obtain ⟨v, hv⟩ : ∃ v, v = nameV s := ⟨_, rfl⟩
  rw [← hv]
  rw [← hv] at HR
  have HV := Lib.hid hv
  clear hv
  go_enter Try.func55, Try.ntmps55
  go_wp2_with fail
  go_loopw [3] (fun n w' => ∃ (pos b : Nat) (pre : List Nat), w' = w.iter s pos ∧ n = .int .i64 pre.length ∧ s.size ≤ pos + b ∧ pre.length ≤ 20 ∧ Hid (rl s s.size 0 = pre ++ rl s b pos ∧ pre.all mayR = true)) (fun _ w' => s.size - w'.iterPos w.heap.size)
  case atStart => exact ⟨0, s.size, [], rfl, rfl, by omega, by simp, Lib.hid ⟨rfl, rfl⟩⟩
  case round =>
    obtain ⟨pos, b, pre, rfl, rfl, hb, hl, H⟩ := hrel
    by_cases hp : pos < s.size
    · have hnx : ∀ ty, (Instr.next (.pointer (some ⟨w.heap.size, 0, none⟩)) true ty).run Try.prog (w.iter s pos) = _ := fun ty => run_next_any w s pos ty hp
      have hwd := wd_pos s pos hp
      cases b with
      | zero => omega
      | succ b =>
        have e1 : rl s (b + 1) pos = (Utf8.decode s pos).1 :: rl s b (pos + (Utf8.decode s pos).2) := by simp [rl, hp]
        have HE := Lib.hid e1
        clear e1
        have hm := fun w => may_calls ((Utf8.decode s pos).1 : Nat) w
        generalize (Utf8.decode s pos).2 = wd at *
        generalize (Utf8.decode s pos).1 = c at *
        have hmr : (decide ((33 : Int) ≤ (c : Int)) && decide ((c : Int) ≠ 127) && decide ((c : Int) ≠ 61) && decide ((c : Int) ≠ 65533)) = mayR c := by
          unfold mayR
          rw [Bool.eq_iff_iff]; simp; omega
        rw [hmr] at hm
        clear hmr
        have HM := Lib.hid hm
        clear hm
        by_cases h20 : pre.length < 20
        · go_wp2_with fail
          refine (HM.out _).mono ?_
          rintro e w1 ⟨rfl, rfl⟩
          by_cases hc : mayR c = true
          · rw [hc]
            go_wp2_with fail
            go_roundw
            case rel =>
              refine ⟨pos + wd, b, pre ++ [c], rfl, by rw [List.length_append]; rfl, by omega, by rw [List.length_append]; simp; omega, Lib.hid ⟨?_, ?_⟩⟩
              · rw [H.out.1, HE.out, List.append_assoc]; rfl
              · rw [List.all_append, H.out.2]; simp [hc]
            case measure => simp; omega
          · have hcf : mayR c = false := by simpa using hc
            rw [hcf]
            go_wp2_with fail
            go_ret
            exact HR.out _ (by rw [HV.out]; unfold nameV; rw [H.out.1, HE.out, List.all_append]; simp [hcf]) _
        · go_wp2_with fail
          go_ret
          exact HR.out _ (by rw [HV.out]; unfold nameV; rw [H.out.1, HE.out, List.length_append]; simp; intro _ h; omega) _
    · have hnx : ∀ ty, (Instr.next (.pointer (some ⟨w.heap.size, 0, none⟩)) true ty).run Try.prog (w.iter s pos) = _ := fun ty => run_next_end w s pos ty hp
      have he : v = decide ((0 : Int) < (pre.length : Int)) := by
        rw [HV.out]; unfold nameV; rw [H.out.1, rl_end s b pos hp, List.append_nil, H.out.2, decide_eq_true hl]
        rw [Bool.eq_iff_iff]; simp; omega
      have HE := Lib.hid he
      clear he
      go_wp2_with fail
      go_ret
      exact HR.out _ (by rw [HE.out, decide_eq_decide]; omega) _
end Go.Proofs.Ytbhbnefifgdioaa.Hand

