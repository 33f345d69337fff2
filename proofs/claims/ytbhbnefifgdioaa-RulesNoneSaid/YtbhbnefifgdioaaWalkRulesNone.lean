/- RulesNone: rules that are none tell nothing; any text, any number; no condition. -/
import Derived.Test.YtbhbnefifgdioaaRJ4
set_option linter.unusedVariables false
set_option linter.unusedSimpArgs false
namespace Go.Proofs.Ytbhbnefifgdioaa.Walk
open Go Go.RowKit Go.Proofs.Ytbhbnefifgdioaa.Hand Go.Proofs.YtbhbnefifgdioaaW.PrintWords Go.Proofs.YtbhbnefifgdioaaW.PrintMore Go.Proofs.YtbhbnefifgdioaaW.PrintLast Go.Proofs.Ytbhbnefifgdioaa.RL Go.Proofs.Ytbhbnefifgdioaa.PL Go.Proofs.Ytbhbnefifgdioaa.K
theorem fld_parents (v1 v2 v3 : Value) (p1 p2 p3 p4 p5 p6 : Int) (w : World) : (Instr.field 26 (.agg (setC v1 v2 v3 p1 p2 p3 p4 p5 p6)) 3).run Try.prog w = .ok (.int .i64 p1) w := by kernel_rfl
theorem fld_accounts (v1 v2 v3 : Value) (p1 p2 p3 p4 p5 p6 : Int) (w : World) : (Instr.field 26 (.agg (setC v1 v2 v3 p1 p2 p3 p4 p5 p6)) 0).run Try.prog w = .ok v1 w := by kernel_rfl
set_option maxHeartbeats 8000000 in
set_option maxRecDepth 100000 in
theorem RulesNone (a0 : ByteArray) (a1 : Int) (W : World) (w0 : a0.size ≤ 140737488351232) (w1 : (Lit.int .i64 a1).wf = true) :
    Calls Try.prog 5 #[.string a0, .int .i64 a1] W fun e W' => e = .returned (.bool true) ∧ Below W.heap.size W W' := by
  go_enter Try.func5, Try.ntmps5
  go_wp2_with fail
  refine (awake15 W).mono ?_
  rintro e wa ⟨rfl, b1⟩
  go_wp2_with fail
  have z0 : ZeroR (wa.alloc (.cells #[.slice none 0 0, .slice none 0 0, .slice none 0 0, .int .i64 0, .int .i64 0, .int .i64 0, .int .i64 0, .int .i64 0, .int .i64 0, .map none, .map none, .map none] 56)) wa.heap.size := Blk.new wa 56 _
  have b2 : Below W.heap.size W (wa.alloc (.cells #[.slice none 0 0, .slice none 0 0, .slice none 0 0, .int .i64 0, .int .i64 0, .int .i64 0, .int .i64 0, .int .i64 0, .int .i64 0, .map none, .map none, .map none] 56)) := b1.alloc b1.size _
  have hsz : (wa.alloc (.cells #[.slice none 0 0, .slice none 0 0, .slice none 0 0, .int .i64 0, .int .i64 0, .int .i64 0, .int .i64 0, .int .i64 0, .int .i64 0, .map none, .map none, .map none] 56)).heap.size = wa.heap.size + 1 := by simp
  generalize wa.alloc (.cells #[.slice none 0 0, .slice none 0 0, .slice none 0 0, .int .i64 0, .int .i64 0, .int .i64 0, .int .i64 0, .int .i64 0, .int .i64 0, .map none, .map none, .map none] 56) = wb at *
  have z1 := Blk.new wb 36 #[.pointer none, .pointer (some ⟨wa.heap.size, 0, none⟩)]
  have z0 : ZeroR _ _ := z0.alloc (.cells #[.pointer none, .pointer (some ⟨wa.heap.size, 0, none⟩)] 36)
  have b2 := b2.alloc b2.size (.cells #[.pointer none, .pointer (some ⟨wa.heap.size, 0, none⟩)] 36)
  rw [hsz] at z1
  generalize wb.alloc (.cells #[.pointer none, .pointer (some ⟨wa.heap.size, 0, none⟩)] 36) = wc at *
  generalize wa.heap.size = g at *
  clear hsz b1
  go_loopw [23] (fun i wr => ∃ k : Nat, k ≤ 2 ∧ i = .int .i64 k ∧ Below W.heap.size W wr ∧ ZeroR wr g ∧ Blk wr (g + 1) 36 #[.pointer none, .pointer (some ⟨g, 0, none⟩)]) (fun i _ => 2 - (intOf i).toNat)
  case atStart => exact ⟨0, by omega, rfl, b2, z0, z1⟩
  case round =>
    clear b2 z0 z1
    obtain ⟨k, hk, rfl, hB, z0, z1⟩ := hrel
    have hk3 : k = 0 ∨ k = 1 ∨ k = 2 := by omega
    rcases hk3 with rfl | rfl | rfl
    · have c0 : wr.cell? ⟨g + 1, 0, none⟩ = some (.pointer none) := z1.cell 0
      go_wp2_with fail
      refine (Account_nil a0 wr).mono ?_
      rintro e u1 ⟨rfl, d1⟩
      go_wp2_with fail
      refine (Symbol_nil a0 u1).mono ?_
      rintro e u2 ⟨rfl, d2⟩
      go_wp2_with fail
      refine (Venue_nil a0 u2).mono ?_
      rintro e u3 ⟨rfl, d3⟩
      go_wp2_with fail
      refine (Band_nil a1 u3).mono ?_
      rintro e u4 ⟨rfl, d4⟩
      go_wp2_with fail
      refine (Setup_nil u4).mono ?_
      rintro e u5 ⟨rfl, d5⟩
      have q1 := fld_parents (.slice none 0 0) (.slice none 0 0) (.slice none 0 0) 0 0 0 0 0 0 u5
      go_wp2_with fail
      refine (Setup_nil u5).mono ?_
      rintro e u6 ⟨rfl, d6⟩
      have q2 := fld_accounts (.slice none 0 0) (.slice none 0 0) (.slice none 0 0) 0 0 0 0 0 0 u6
      have d := bt d1 (bt d2 (bt d3 (bt d4 (bt d5 d6))))
      have hB := bt hB d
      have z0 : ZeroR _ _ := z0.on d
      have z1 := z1.on d
      clear d1 d2 d3 d4 d5 d6 d
      go_wp2_with fail
      go_roundw
      case rel => exact ⟨1, by omega, by go_num, hB, z0, z1⟩
      case measure => simp only [intOf]; omega
    · have c0 : wr.cell? ⟨g + 1, 1, none⟩ = some (.pointer (some ⟨g, 0, none⟩)) := z1.cell 1
      go_wp2_with fail
      refine (Account_zero a0 g wr w0 z0).mono ?_
      rintro e u1 ⟨rfl, d1⟩
      have z0 : ZeroR _ _ := z0.on d1
      go_wp2_with fail
      refine (Symbol_zero a0 g u1 w0 z0).mono ?_
      rintro e u2 ⟨rfl, d2⟩
      have z0 : ZeroR _ _ := z0.on d2
      go_wp2_with fail
      refine (Venue_zero a0 g u2 w0 z0).mono ?_
      rintro e u3 ⟨rfl, d3⟩
      have z0 : ZeroR _ _ := z0.on d3
      go_wp2_with fail
      refine (Band_out a1 g u3 none 0 0 (z0.cell 1) (by omega)).mono ?_
      rintro e u4 ⟨rfl, d4⟩
      have z0 : ZeroR _ _ := z0.on d4
      have HS := Lib.hid (fun (u : World) (z : ZeroR u g) => Setup_of none none none 0 0 0 [] [] [] 0 0 0 0 0 0 (.map none) (.map none) (.map none) g u (by decide) (by decide) (by decide) ⟨rfl, by decide, fun h => absurd h (by decide)⟩ ⟨rfl, by decide, fun h => absurd h (by decide)⟩ ⟨rfl, by decide, fun h => absurd h (by decide)⟩ z)
      go_wp2_with fail
      refine (HS.out u4 z0).mono ?_
      rintro e u5 ⟨B1, B2, B3, e1, e2, e3, rfl, _, _, _, d5⟩
      have z0 : ZeroR _ _ := z0.on d5
      have q1 := fld_parents (.slice B1 0 e1) (.slice B2 0 e2) (.slice B3 0 e3) 0 0 0 0 0 0 u5
      go_wp2_with fail
      refine (HS.out u5 z0).mono ?_
      rintro e u6 ⟨F1, F2, F3, f1, f2, f3, rfl, _, _, _, d6⟩
      have z0 : ZeroR _ _ := z0.on d6
      have q2 := fld_accounts (.slice F1 0 f1) (.slice F2 0 f2) (.slice F3 0 f3) 0 0 0 0 0 0 u6
      have d := bt d1 (bt d2 (bt d3 (bt d4 (bt d5 d6))))
      have hB := bt hB d
      have z1 := z1.on d
      clear d1 d2 d3 d4 d5 d6 d HS
      go_wp2_with fail
      go_roundw
      case rel => exact ⟨2, by omega, by go_num, hB, z0, z1⟩
      case measure => simp only [intOf]; omega
    · go_wp2_with fail
      go_ret
      exact ⟨rfl, hB⟩
end Go.Proofs.Ytbhbnefifgdioaa.Walk
