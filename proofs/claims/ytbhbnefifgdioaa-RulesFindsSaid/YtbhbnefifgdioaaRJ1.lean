/- Texts laid together by join.py: Rul1 Rul2 Rul3 Rul4. -/
import Derived.Test.YtbhbnefifgdioaaPla
import Derived.Test.YtbhbnefifgdioaaVV
import Derived.Test.YtbhbnefifgdioaaHandE
import Derived.Maps.OwnSet
import Derived.Test.YtbhbnefifgdioaaPl02b
import Derived.Lib.SliceRun
/- rules: the names of a list, walked. -/
set_option linter.unusedVariables false
set_option linter.unusedSimpArgs false
namespace Go.Proofs.Ytbhbnefifgdioaa.Hand
open Go Go.RowKit Go.Proofs.YtbhbnefifgdioaaW.PrintWords Go.Proofs.YtbhbnefifgdioaaW.PrintMore Go.Proofs.YtbhbnefifgdioaaW.PrintLast Go.Proofs.Ytbhbnefifgdioaa.RL Go.Proofs.Ytbhbnefifgdioaa.PL
theorem nameA_calls (x : Acc) (w : World) : Calls Try.prog 29 #[.agg #[.string x.1, .int .i64 x.2]] w fun e w' => e = .returned (.string x.1) ∧ Below w.heap.size w w' := by
  go_enter Try.func29, Try.ntmps29
  go_wp2_with fail
  go_ret
  exact ⟨rfl, by first | exact Below.refl _ _ | exact (Below.refl _ _).alloc (Nat.le_refl _) _⟩
set_option maxHeartbeats 4000000 in
set_option maxRecDepth 100000 in
theorem rnamesA (A : Option Addr) (c : Nat) (l : List Acc) (hm : l.length ≤ 900) (w : World) (hl : Kd.C kA w A l.length l) :
    Calls Try.prog 28 #[.slice A l.length c, .func (.func 29) #[] #[]] w fun e w' => ∃ B d, e = .returned (.slice B l.length d) ∧ l.length ≤ d ∧ Kd.C Kd.string w' B l.length (l.map (·.1)) ∧ Below w.heap.size w w' := by
  have inf : (Try.prog.info? 9).map (fun i => (i.zero, i.size, i.bytes)) = some (some (.string ⟨#[]⟩), 1, 16) := by kernel_rfl
  have INF := Lib.hid inf
  have HX := Lib.hid hl
  clear inf hl
  go_enter Try.func28, Try.ntmps28
  go_wp2_with fail
  go_loopw [5, 10] (fun v i wr => ∃ k : Nat, k ≤ l.length ∧ i = .int .i64 k ∧ Below w.heap.size w wr ∧ Kd.R Kd.string 9 wr w.heap.size (fun _ => True) v ((l.take k).map (·.1))) (fun _ i _ => l.length - (intOf i).toNat)
  case atStart => exact ⟨0, Nat.zero_le _, rfl, Below.refl _ _, Kd.R_nil _ _ _ _ _⟩
  case round =>
    obtain ⟨k, hk, rfl, hB, hR⟩ := hrel
    by_cases hlt : k < l.length
    · obtain ⟨ad, rfl, hcell⟩ := at_A (Kd.C_below HX.out hB) k hlt
      have e1 : l.getD k zA = l[k] := by simp [hlt]
      have hs1 : (l.take (k + 1)).map (·.1) = (l.take k).map (·.1) ++ [l[k].1] := by rw [List.take_succ_eq_append_getElem hlt, List.map_append]; rfl
      rw [e1] at hcell
      have hA := fun w => nameA_calls l[k] w
      generalize l[k] = x at *
      have c0 : wr.cell? (ad.add (k * 2)) = some (.string x.1) := hcell 0 _ rfl
      have c1 : wr.cell? (ad.add (k * 2 + 1)) = some (.int .i64 x.2) := hcell 1 _ rfl
      have q0 := World.block_lt_of_cell? wr _ c0
      rw [add_field _ _ _ (by omega)] at c1
      have hlen : ((l.take k).map (·.1)).length = k := by rw [List.length_map, List.length_take]; omega
      have hlen1 : ((l.take (k + 1)).map (·.1)).length = k + 1 := by rw [List.length_map, List.length_take]; omega
      have bO := (Below.refl wr.heap.size wr).alloc (Nat.le_refl _) (.cells #[.string x.1, .int .i64 x.2] 60)
      have hO := Blk.new wr 60 #[.string x.1, .int .i64 x.2]
      have R8 := Lib.hid (Kd.R_below hR bO)
      have B8 := Lib.hid (bt hB bO)
      have HO := Lib.hid hO; have HA := Lib.hid hA; have HS := Lib.hid (And.intro hs1 (And.intro hlen hlen1))
      have hs8 : w.heap.size ≤ (wr.alloc (.cells #[.string x.1, .int .i64 x.2] 60)).heap.size := by have := hB.size; simp; omega
      clear hR hB bO hO hA hs1 hlen hlen1 hcell e1
      go_upto_region 5 with (fail)
      generalize wr.alloc (.cells #[.string x.1, .int .i64 x.2] 60) = w8 at *
      generalize wr.heap.size = ob at *
      have y0 : w8.cell? ⟨ob, 0, none⟩ = some (.string x.1) := HO.out.cell 0
      have y1 : w8.cell? ⟨ob, 1, none⟩ = some (.int .i64 x.2) := HO.out.cell 1
      clear c0 c1 HO
      obtain ⟨Av, cv, rfl⟩ := Kd.R_slice R8.out
      have htk : ((l.take k).map (·.1)).length ≤ 1000 := by rw [HS.out.2.1]; omega
      have R8k := R8.out
      rw [HS.out.2.1] at R8k ⊢
      replace R8 := Lib.hid R8k
      clear R8k
      go_wp2_with (first | (go_at_call 29; (with_reducible refine (HA.out _).mono ?_); rintro e w9 ⟨rfl, hb9⟩; have R9 := Lib.hid (Kd.R_below R8.out hb9); have B9 := Lib.hid (bt B8.out hb9); have hs9 : w.heap.size ≤ w9.heap.size := Nat.le_trans hs8 hb9.size) | (at_builtin; (refine Kd.R_append Kd.string (w0 := w) w.heap.size rfl (.tmp 14) (.tmp 18) 50 9 (.string ⟨#[]⟩) 16 rfl Try.underlying50 INF.out rfl (by decide) (by omega) (.slice Av k cv) ((l.take k).map (·.1)) x.1 [.string x.1] (fun _ => True) (fun _ => False) rfl rfl rfl (fun _ hk => hk.elim) (fun _ _ => trivial) R9.out B9.out hs9 (by omega) ?_); intro v' w7 ho hb7 hg hat))
      have hf : Kd.R Kd.string 9 w7 w.heap.size (fun _ => True) v' ((l.take (k + 1)).map (·.1)) := by rw [HS.out.1]; exact ho
      clear ho hg hat
      go_roundw
      case rel => exact ⟨k + 1, by omega, by go_num, hb7, hf⟩
      case measure => simp only [intOf]; omega
    · obtain rfl : l.length = k := by omega
      rw [List.take_length] at hR
      obtain ⟨B, d, rfl⟩ := Kd.R_slice hR
      have hC := (Kd.R_reads' hR).2
      rw [List.length_map] at hC
      rw [List.length_map]
      go_wp2_with fail
      go_ret
      exact ⟨B, d, rfl, hC.1, hC.2, hB⟩
theorem nameS_calls (x : Sym) (w : World) : Calls Try.prog 31 #[.agg #[.string x.1, .int .i64 x.2.1, .int .i64 x.2.2.1, .int .i64 x.2.2.2.1, .int .i64 x.2.2.2.2.1, .int .i64 x.2.2.2.2.2.1, .int .i64 x.2.2.2.2.2.2]] w fun e w' => e = .returned (.string x.1) ∧ Below w.heap.size w w' := by
  go_enter Try.func31, Try.ntmps31
  go_wp2_with fail
  go_ret
  exact ⟨rfl, by first | exact Below.refl _ _ | exact (Below.refl _ _).alloc (Nat.le_refl _) _⟩
set_option maxHeartbeats 4000000 in
set_option maxRecDepth 100000 in
theorem rnamesS (A : Option Addr) (c : Nat) (l : List Sym) (hm : l.length ≤ 900) (w : World) (hl : Kd.C kS w A l.length l) :
    Calls Try.prog 30 #[.slice A l.length c, .func (.func 31) #[] #[]] w fun e w' => ∃ B d, e = .returned (.slice B l.length d) ∧ l.length ≤ d ∧ Kd.C Kd.string w' B l.length (l.map (·.1)) ∧ Below w.heap.size w w' := by
  have inf : (Try.prog.info? 9).map (fun i => (i.zero, i.size, i.bytes)) = some (some (.string ⟨#[]⟩), 1, 16) := by kernel_rfl
  have INF := Lib.hid inf
  have HX := Lib.hid hl
  clear inf hl
  go_enter Try.func30, Try.ntmps30
  go_wp2_with fail
  go_loopw [5, 10] (fun v i wr => ∃ k : Nat, k ≤ l.length ∧ i = .int .i64 k ∧ Below w.heap.size w wr ∧ Kd.R Kd.string 9 wr w.heap.size (fun _ => True) v ((l.take k).map (·.1))) (fun _ i _ => l.length - (intOf i).toNat)
  case atStart => exact ⟨0, Nat.zero_le _, rfl, Below.refl _ _, Kd.R_nil _ _ _ _ _⟩
  case round =>
    obtain ⟨k, hk, rfl, hB, hR⟩ := hrel
    by_cases hlt : k < l.length
    · obtain ⟨ad, rfl, hcell⟩ := at_S (Kd.C_below HX.out hB) k hlt
      have e1 : l.getD k zS = l[k] := by simp [hlt]
      have hs1 : (l.take (k + 1)).map (·.1) = (l.take k).map (·.1) ++ [l[k].1] := by rw [List.take_succ_eq_append_getElem hlt, List.map_append]; rfl
      rw [e1] at hcell
      have hA := fun w => nameS_calls l[k] w
      generalize l[k] = x at *
      have c0 : wr.cell? (ad.add (k * 7)) = some (.string x.1) := hcell 0 _ rfl
      have c1 : wr.cell? (ad.add (k * 7 + 1)) = some (.int .i64 x.2.1) := hcell 1 _ rfl
      have c2 : wr.cell? (ad.add (k * 7 + 2)) = some (.int .i64 x.2.2.1) := hcell 2 _ rfl
      have c3 : wr.cell? (ad.add (k * 7 + 3)) = some (.int .i64 x.2.2.2.1) := hcell 3 _ rfl
      have c4 : wr.cell? (ad.add (k * 7 + 4)) = some (.int .i64 x.2.2.2.2.1) := hcell 4 _ rfl
      have c5 : wr.cell? (ad.add (k * 7 + 5)) = some (.int .i64 x.2.2.2.2.2.1) := hcell 5 _ rfl
      have c6 : wr.cell? (ad.add (k * 7 + 6)) = some (.int .i64 x.2.2.2.2.2.2) := hcell 6 _ rfl
      have q0 := World.block_lt_of_cell? wr _ c0
      rw [add_field _ _ _ (by omega)] at c1 c2 c3 c4 c5 c6
      have hlen : ((l.take k).map (·.1)).length = k := by rw [List.length_map, List.length_take]; omega
      have hlen1 : ((l.take (k + 1)).map (·.1)).length = k + 1 := by rw [List.length_map, List.length_take]; omega
      have bO := (Below.refl wr.heap.size wr).alloc (Nat.le_refl _) (.cells #[.string x.1, .int .i64 x.2.1, .int .i64 x.2.2.1, .int .i64 x.2.2.2.1, .int .i64 x.2.2.2.2.1, .int .i64 x.2.2.2.2.2.1, .int .i64 x.2.2.2.2.2.2] 41)
      have hO := Blk.new wr 41 #[.string x.1, .int .i64 x.2.1, .int .i64 x.2.2.1, .int .i64 x.2.2.2.1, .int .i64 x.2.2.2.2.1, .int .i64 x.2.2.2.2.2.1, .int .i64 x.2.2.2.2.2.2]
      have R8 := Lib.hid (Kd.R_below hR bO)
      have B8 := Lib.hid (bt hB bO)
      have HO := Lib.hid hO; have HA := Lib.hid hA; have HS := Lib.hid (And.intro hs1 (And.intro hlen hlen1))
      have hs8 : w.heap.size ≤ (wr.alloc (.cells #[.string x.1, .int .i64 x.2.1, .int .i64 x.2.2.1, .int .i64 x.2.2.2.1, .int .i64 x.2.2.2.2.1, .int .i64 x.2.2.2.2.2.1, .int .i64 x.2.2.2.2.2.2] 41)).heap.size := by have := hB.size; simp; omega
      clear hR hB bO hO hA hs1 hlen hlen1 hcell e1
      go_upto_region 5 with (fail)
      generalize wr.alloc (.cells #[.string x.1, .int .i64 x.2.1, .int .i64 x.2.2.1, .int .i64 x.2.2.2.1, .int .i64 x.2.2.2.2.1, .int .i64 x.2.2.2.2.2.1, .int .i64 x.2.2.2.2.2.2] 41) = w8 at *
      generalize wr.heap.size = ob at *
      have y0 : w8.cell? ⟨ob, 0, none⟩ = some (.string x.1) := HO.out.cell 0
      have y1 : w8.cell? ⟨ob, 1, none⟩ = some (.int .i64 x.2.1) := HO.out.cell 1
      have y2 : w8.cell? ⟨ob, 2, none⟩ = some (.int .i64 x.2.2.1) := HO.out.cell 2
      have y3 : w8.cell? ⟨ob, 3, none⟩ = some (.int .i64 x.2.2.2.1) := HO.out.cell 3
      have y4 : w8.cell? ⟨ob, 4, none⟩ = some (.int .i64 x.2.2.2.2.1) := HO.out.cell 4
      have y5 : w8.cell? ⟨ob, 5, none⟩ = some (.int .i64 x.2.2.2.2.2.1) := HO.out.cell 5
      have y6 : w8.cell? ⟨ob, 6, none⟩ = some (.int .i64 x.2.2.2.2.2.2) := HO.out.cell 6
      clear c0 c1 c2 c3 c4 c5 c6 HO
      obtain ⟨Av, cv, rfl⟩ := Kd.R_slice R8.out
      have htk : ((l.take k).map (·.1)).length ≤ 1000 := by rw [HS.out.2.1]; omega
      have R8k := R8.out
      rw [HS.out.2.1] at R8k ⊢
      replace R8 := Lib.hid R8k
      clear R8k
      go_wp2_with (first | (go_at_call 31; (with_reducible refine (HA.out _).mono ?_); rintro e w9 ⟨rfl, hb9⟩; have R9 := Lib.hid (Kd.R_below R8.out hb9); have B9 := Lib.hid (bt B8.out hb9); have hs9 : w.heap.size ≤ w9.heap.size := Nat.le_trans hs8 hb9.size) | (at_builtin; (refine Kd.R_append Kd.string (w0 := w) w.heap.size rfl (.tmp 14) (.tmp 18) 50 9 (.string ⟨#[]⟩) 16 rfl Try.underlying50 INF.out rfl (by decide) (by omega) (.slice Av k cv) ((l.take k).map (·.1)) x.1 [.string x.1] (fun _ => True) (fun _ => False) rfl rfl rfl (fun _ hk => hk.elim) (fun _ _ => trivial) R9.out B9.out hs9 (by omega) ?_); intro v' w7 ho hb7 hg hat))
      have hf : Kd.R Kd.string 9 w7 w.heap.size (fun _ => True) v' ((l.take (k + 1)).map (·.1)) := by rw [HS.out.1]; exact ho
      clear ho hg hat
      go_roundw
      case rel => exact ⟨k + 1, by omega, by go_num, hb7, hf⟩
      case measure => simp only [intOf]; omega
    · obtain rfl : l.length = k := by omega
      rw [List.take_length] at hR
      obtain ⟨B, d, rfl⟩ := Kd.R_slice hR
      have hC := (Kd.R_reads' hR).2
      rw [List.length_map] at hC
      rw [List.length_map]
      go_wp2_with fail
      go_ret
      exact ⟨B, d, rfl, hC.1, hC.2, hB⟩
theorem nameV_calls (x : Ven) (w : World) : Calls Try.prog 33 #[.agg #[.string x.1, .int .i64 x.2.1, .int .i64 x.2.2.1, .int .i64 x.2.2.2.1, .bool x.2.2.2.2]] w fun e w' => e = .returned (.string x.1) ∧ Below w.heap.size w w' := by
  go_enter Try.func33, Try.ntmps33
  go_wp2_with fail
  go_ret
  exact ⟨rfl, by first | exact Below.refl _ _ | exact (Below.refl _ _).alloc (Nat.le_refl _) _⟩
set_option maxHeartbeats 4000000 in
set_option maxRecDepth 100000 in
theorem rnamesV (A : Option Addr) (c : Nat) (l : List Ven) (hm : l.length ≤ 900) (w : World) (hl : Kd.C kV w A l.length l) :
    Calls Try.prog 32 #[.slice A l.length c, .func (.func 33) #[] #[]] w fun e w' => ∃ B d, e = .returned (.slice B l.length d) ∧ l.length ≤ d ∧ Kd.C Kd.string w' B l.length (l.map (·.1)) ∧ Below w.heap.size w w' := by
  have inf : (Try.prog.info? 9).map (fun i => (i.zero, i.size, i.bytes)) = some (some (.string ⟨#[]⟩), 1, 16) := by kernel_rfl
  have INF := Lib.hid inf
  have HX := Lib.hid hl
  clear inf hl
  go_enter Try.func32, Try.ntmps32
  go_wp2_with fail
  go_loopw [5, 10] (fun v i wr => ∃ k : Nat, k ≤ l.length ∧ i = .int .i64 k ∧ Below w.heap.size w wr ∧ Kd.R Kd.string 9 wr w.heap.size (fun _ => True) v ((l.take k).map (·.1))) (fun _ i _ => l.length - (intOf i).toNat)
  case atStart => exact ⟨0, Nat.zero_le _, rfl, Below.refl _ _, Kd.R_nil _ _ _ _ _⟩
  case round =>
    obtain ⟨k, hk, rfl, hB, hR⟩ := hrel
    by_cases hlt : k < l.length
    · obtain ⟨ad, rfl, hcell⟩ := at_V (Kd.C_below HX.out hB) k hlt
      have e1 : l.getD k zV = l[k] := by simp [hlt]
      have hs1 : (l.take (k + 1)).map (·.1) = (l.take k).map (·.1) ++ [l[k].1] := by rw [List.take_succ_eq_append_getElem hlt, List.map_append]; rfl
      rw [e1] at hcell
      have hA := fun w => nameV_calls l[k] w
      generalize l[k] = x at *
      have c0 : wr.cell? (ad.add (k * 5)) = some (.string x.1) := hcell 0 _ rfl
      have c1 : wr.cell? (ad.add (k * 5 + 1)) = some (.int .i64 x.2.1) := hcell 1 _ rfl
      have c2 : wr.cell? (ad.add (k * 5 + 2)) = some (.int .i64 x.2.2.1) := hcell 2 _ rfl
      have c3 : wr.cell? (ad.add (k * 5 + 3)) = some (.int .i64 x.2.2.2.1) := hcell 3 _ rfl
      have c4 : wr.cell? (ad.add (k * 5 + 4)) = some (.bool x.2.2.2.2) := hcell 4 _ rfl
      have q0 := World.block_lt_of_cell? wr _ c0
      rw [add_field _ _ _ (by omega)] at c1 c2 c3 c4
      have hlen : ((l.take k).map (·.1)).length = k := by rw [List.length_map, List.length_take]; omega
      have hlen1 : ((l.take (k + 1)).map (·.1)).length = k + 1 := by rw [List.length_map, List.length_take]; omega
      have bO := (Below.refl wr.heap.size wr).alloc (Nat.le_refl _) (.cells #[.string x.1, .int .i64 x.2.1, .int .i64 x.2.2.1, .int .i64 x.2.2.2.1, .bool x.2.2.2.2] 62)
      have hO := Blk.new wr 62 #[.string x.1, .int .i64 x.2.1, .int .i64 x.2.2.1, .int .i64 x.2.2.2.1, .bool x.2.2.2.2]
      have R8 := Lib.hid (Kd.R_below hR bO)
      have B8 := Lib.hid (bt hB bO)
      have HO := Lib.hid hO; have HA := Lib.hid hA; have HS := Lib.hid (And.intro hs1 (And.intro hlen hlen1))
      have hs8 : w.heap.size ≤ (wr.alloc (.cells #[.string x.1, .int .i64 x.2.1, .int .i64 x.2.2.1, .int .i64 x.2.2.2.1, .bool x.2.2.2.2] 62)).heap.size := by have := hB.size; simp; omega
      clear hR hB bO hO hA hs1 hlen hlen1 hcell e1
      go_upto_region 5 with (fail)
      generalize wr.alloc (.cells #[.string x.1, .int .i64 x.2.1, .int .i64 x.2.2.1, .int .i64 x.2.2.2.1, .bool x.2.2.2.2] 62) = w8 at *
      generalize wr.heap.size = ob at *
      have y0 : w8.cell? ⟨ob, 0, none⟩ = some (.string x.1) := HO.out.cell 0
      have y1 : w8.cell? ⟨ob, 1, none⟩ = some (.int .i64 x.2.1) := HO.out.cell 1
      have y2 : w8.cell? ⟨ob, 2, none⟩ = some (.int .i64 x.2.2.1) := HO.out.cell 2
      have y3 : w8.cell? ⟨ob, 3, none⟩ = some (.int .i64 x.2.2.2.1) := HO.out.cell 3
      have y4 : w8.cell? ⟨ob, 4, none⟩ = some (.bool x.2.2.2.2) := HO.out.cell 4
      clear c0 c1 c2 c3 c4 HO
      obtain ⟨Av, cv, rfl⟩ := Kd.R_slice R8.out
      have htk : ((l.take k).map (·.1)).length ≤ 1000 := by rw [HS.out.2.1]; omega
      have R8k := R8.out
      rw [HS.out.2.1] at R8k ⊢
      replace R8 := Lib.hid R8k
      clear R8k
      go_wp2_with (first | (go_at_call 33; (with_reducible refine (HA.out _).mono ?_); rintro e w9 ⟨rfl, hb9⟩; have R9 := Lib.hid (Kd.R_below R8.out hb9); have B9 := Lib.hid (bt B8.out hb9); have hs9 : w.heap.size ≤ w9.heap.size := Nat.le_trans hs8 hb9.size) | (at_builtin; (refine Kd.R_append Kd.string (w0 := w) w.heap.size rfl (.tmp 14) (.tmp 18) 50 9 (.string ⟨#[]⟩) 16 rfl Try.underlying50 INF.out rfl (by decide) (by omega) (.slice Av k cv) ((l.take k).map (·.1)) x.1 [.string x.1] (fun _ => True) (fun _ => False) rfl rfl rfl (fun _ hk => hk.elim) (fun _ _ => trivial) R9.out B9.out hs9 (by omega) ?_); intro v' w7 ho hb7 hg hat))
      have hf : Kd.R Kd.string 9 w7 w.heap.size (fun _ => True) v' ((l.take (k + 1)).map (·.1)) := by rw [HS.out.1]; exact ho
      clear ho hg hat
      go_roundw
      case rel => exact ⟨k + 1, by omega, by go_num, hb7, hf⟩
      case measure => simp only [intOf]; omega
    · obtain rfl : l.length = k := by omega
      rw [List.take_length] at hR
      obtain ⟨B, d, rfl⟩ := Kd.R_slice hR
      have hC := (Kd.R_reads' hR).2
      rw [List.length_map] at hC
      rw [List.length_map]
      go_wp2_with fail
      go_ret
      exact ⟨B, d, rfl, hC.1, hC.2, hB⟩
end Go.Proofs.Ytbhbnefifgdioaa.Hand

/- rules: names that differ, and where each stands: maps that the call makes. -/
set_option linter.unusedVariables false
set_option linter.unusedSimpArgs false
namespace Go.Proofs.Ytbhbnefifgdioaa.Hand
open Go Go.RowKit Go.Proofs.YtbhbnefifgdioaaW.PrintWords Go.Proofs.YtbhbnefifgdioaaW.PrintMore Go.Proofs.YtbhbnefifgdioaaW.PrintLast Go.Proofs.Ytbhbnefifgdioaa.RL Go.Proofs.Ytbhbnefifgdioaa.PL Go.Maps Go.WideMaps
theorem plainElem_bool_inv {H : Type} {P : Program} {e : TypeId} (he : P.underlying e = some .bool) {v : Value} {z : DataW H × List MemPlace} (h : plainElem P e v = some z) : ∃ x, v = .bool x ∧ z = (.lit (.bool x), []) := by
  unfold plainElem at h
  rw [he] at h
  cases v <;> simp at h
  exact ⟨_, rfl, h.symm⟩
theorem lookup_bool {H : Type} {P : Program} {k : TypeId} {w : World} {b n : Nat} {D : DataW H} {t e : TypeId} (h : w.ownsMap P k (plainElem P e) b n D) (K : Keyed P k) (ht : P.underlying t = some (.map k e)) (he : P.underlying e = some .bool) (hz : (zeroValue e).run P w = .ok (.bool false) w)
    {key : Value} {kl : Lit} (hkey : keyOf P k key = some kl) {c : Bool} (hc : D.atKey kl (.lit (.bool false)) = .lit (.bool c)) : (Instr.lookup t (.map (some b)) key false).run P w = .ok (.bool c) w := by
  obtain ⟨v, ps, hrun, hv⟩ := h.lookup K ht hz (plainElem_bool he false) hkey
  obtain ⟨x, rfl, hx⟩ := plainElem_bool_inv he hv
  simp only [Prod.mk.injEq] at hx
  rw [hc] at hx
  have : c = x := by have := hx.1; injection this with this; injection this
  rw [this]; exact hrun
theorem lawT : Keyed Try.prog 9 := string_keyed Try.underlying9
def keyB (s : ByteArray) : Lit := .string s.data.toList
theorem keyB_inj {a b : ByteArray} (h : keyB a = keyB b) : a = b := by
  unfold keyB at h
  injection h with h
  obtain ⟨⟨a⟩⟩ := a; obtain ⟨⟨b⟩⟩ := b
  simp at h; rw [h]
theorem keyB_lit (s : ByteArray) : WideAt.IsKeyLit (keyB s) := by first | trivial | exact ⟨_, rfl⟩ | simp [keyB, WideAt.IsKeyLit]
/-- What was met so far. -/
def setD (l : List ByteArray) : DataW Unit := l.foldl (fun D s => D.put (keyB s) (.lit (.bool true))) (.map [])
theorem setD_step (l : List ByteArray) (s : ByteArray) : setD (l ++ [s]) = (setD l).put (keyB s) (.lit (.bool true)) := by unfold setD; rw [List.foldl_append]; rfl
theorem isMap_put {D : DataW Unit} (h : IsMap D) (k : Lit) (d : DataW Unit) : IsMap (D.put k d) := by obtain ⟨es, rfl⟩ := h; exact ⟨_, rfl⟩
theorem foldl_isMap {α : Type} (f : DataW Unit → α → DataW Unit) (hf : ∀ D a, IsMap D → IsMap (f D a)) : ∀ (l : List α) (D : DataW Unit), IsMap D → IsMap (l.foldl f D)
  | [], D, h => h
  | a :: r, D, h => foldl_isMap f hf r (f D a) (hf D a h)
theorem setD_map (l : List ByteArray) : IsMap (setD l) := foldl_isMap _ (fun D a h => isMap_put h _ _) l _ ⟨[], rfl⟩
def memB (s : ByteArray) (l : List ByteArray) : Bool := l.any fun x => decide (x = s)
theorem memB_iff (s : ByteArray) (l : List ByteArray) : memB s l = true ↔ s ∈ l := by simp [memB]
theorem setD_at (s : ByteArray) (l : List ByteArray) : (setD l).atKey (keyB s) (.lit (.bool false)) = .lit (.bool (memB s l)) := by
  suffices H : ∀ (r : List ByteArray), (setD r.reverse).atKey (keyB s) (.lit (.bool false)) = .lit (.bool (memB s r)) by
    have := H l.reverse
    rw [List.reverse_reverse] at this
    rw [this, Bool.eq_iff_iff.2 (show memB s l.reverse = true ↔ memB s l = true by rw [memB_iff, memB_iff, List.mem_reverse])]
  intro r
  induction r with
  | nil => rfl
  | cons a r ih =>
    rw [List.reverse_cons, setD_step]
    by_cases h : a = s
    · subst h
      rw [atKey_put_same (setD_map _) (keyB_lit _)]
      rw [Bool.eq_iff_iff.2 (show memB a (a :: r) = true ↔ true = true by rw [memB_iff]; simp)]
    · rw [atKey_put_other (fun q => h (keyB_inj q).symm), ih]
      rw [Bool.eq_iff_iff.2 (show memB s r = true ↔ memB s (a :: r) = true by rw [memB_iff, memB_iff, List.mem_cons]; exact ⟨Or.inr, fun q => q.elim (fun e => absurd e.symm h) id⟩)]
/-- Where each name stands, from a place on. -/
def plD (l : List ByteArray) : DataW Unit := (l.zipIdx).foldl (fun D s => D.put (keyB s.1) (.lit (.int .i64 s.2))) (.map [])
theorem plD_step (l : List ByteArray) (s : ByteArray) : plD (l ++ [s]) = (plD l).put (keyB s) (.lit (.int .i64 l.length)) := by unfold plD; rw [List.zipIdx_append, List.foldl_append]; simp
theorem plD_map (l : List ByteArray) : IsMap (plD l) := foldl_isMap _ (fun D a h => isMap_put h _ _) _ _ ⟨[], rfl⟩
/-- The place of a name among names. -/
def plc : List ByteArray → ByteArray → Int
  | [], _ => -1
  | a :: r, s => if a = s then 0 else if plc r s < 0 then -1 else plc r s + 1
theorem plc_no : ∀ (l : List ByteArray) (s : ByteArray), s ∉ l → plc l s = -1
  | [], s, _ => rfl
  | a :: r, s, h => by
    unfold plc
    rw [if_neg (fun q => h (by rw [q]; exact List.mem_cons_self)), plc_no r s (fun q => h (List.mem_cons_of_mem _ q))]
    rfl
theorem plc_app : ∀ (l : List ByteArray) (s a : ByteArray), s ∉ l → plc (l ++ [s]) a = if a = s then (l.length : Int) else plc l a
  | [], s, a, _ => by
    simp only [List.nil_append, plc]
    by_cases h : s = a
    · simp [h]
    · rw [if_neg h, if_neg (fun q : a = s => h q.symm)]; rfl
  | b :: r, s, a, h => by
    have hr : s ∉ r := fun q => h (List.mem_cons_of_mem _ q)
    have hb : b ≠ s := fun q => h (by rw [q]; exact List.mem_cons_self)
    rw [List.cons_append]
    unfold plc
    rw [plc_app r s a hr]
    by_cases h1 : b = a
    · rw [if_pos h1, if_pos h1]
      rw [if_neg (fun q => hb (h1.trans q))]
    · rw [if_neg h1, if_neg h1]
      by_cases h2 : a = s
      · rw [if_pos h2, if_pos h2, if_neg (by omega)]
        simp
      · rw [if_neg h2, if_neg h2]
theorem plD_at (s : ByteArray) (z : DataW Unit) (l : List ByteArray) (hd : l.Nodup) : (plD l).atKey (keyB s) z = if plc l s < 0 then z else .lit (.int .i64 (plc l s)) := by
  suffices H : ∀ (r : List ByteArray), r.reverse.Nodup → (plD r.reverse).atKey (keyB s) z = if plc r.reverse s < 0 then z else .lit (.int .i64 (plc r.reverse s)) by
    have := H l.reverse
    rw [List.reverse_reverse] at this
    exact this hd
  intro r
  induction r with
  | nil => intro _; rfl
  | cons a r ih =>
    intro hd
    rw [List.reverse_cons] at hd ⊢
    have h1 := (List.nodup_append.1 hd).1
    have h2 : a ∉ r.reverse := fun q => (List.nodup_append.1 hd).2.2 a q a (by simp) rfl
    rw [plD_step, plc_app _ _ _ h2]
    by_cases h : s = a
    · subst h
      rw [atKey_put_same (plD_map _) (keyB_lit _), if_pos rfl, if_neg (by omega)]
    · rw [atKey_put_other (fun q => h (keyB_inj q)), ih h1, if_neg h]
theorem plD_has (s : ByteArray) (l : List ByteArray) (hd : l.Nodup) : Maps.has (plD l) (keyB s) = decide (0 ≤ plc l s) := by
  by_cases h : plc l s < 0
  · rw [has_false_of_atKey (fun z => by rw [plD_at s z l hd, if_pos h])]
    symm; rw [decide_eq_false_iff_not]; omega
  · rw [has_true_of_atKey (fun z => by rw [plD_at s z l hd, if_neg h])]
    symm; rw [decide_eq_true_eq]; omega
/-- Are there as many as may be, all names, each once? -/
def diffS (l : List ByteArray) (m : Int) : Bool := decide (1 ≤ (l.length : Int)) && decide ((l.length : Int) ≤ m) && l.all nameV && decide l.Nodup
theorem within15_calls (a lo hi : Int) (w : World) : Calls Try.prog 49 #[.int .i64 a, .int .i64 lo, .int .i64 hi] w fun e w' => e = .returned (.bool (decide (lo ≤ a) && decide (a ≤ hi))) ∧ ∃ m, w' = w.drewN m := by
  go_enter Try.func49, Try.ntmps49
  by_cases h : lo ≤ a
  · go_wp2_with fail
    go_ret
    exact ⟨by simp [h], 0, rfl⟩
  · go_wp2_with fail
    go_ret
    exact ⟨by simp; omega, 0, rfl⟩
theorem zeroB (w : World) : (zeroValue 4).run Try.prog w = .ok (.bool false) w := by kernel_rfl
theorem zeroI (w : World) : (zeroValue 3).run Try.prog w = .ok (.int .i64 0) w := by kernel_rfl
theorem at_T {w : World} {A : Option Addr} {n : Nat} {xs : List ByteArray} (h : Kd.C Kd.string w A n xs) (i : Nat) (h1 : i < n) (hl : xs.length = n) : ∃ ad, A = some ad ∧ w.cell? (ad.add i) = some (.string (xs[i]'(by omega))) := by
  obtain ⟨ad, c, e, _, hK, hc0⟩ := Kd.C_get h ⟨#[]⟩ (i : Int) (by omega) (by omega)
  simp only [Int.toNat_natCast] at hc0 hK
  have e2 : xs.getD i ⟨#[]⟩ = xs[i]'(by omega) := by simp [show i < xs.length by omega]
  rw [e2] at hK
  have hK' : c = [.string (xs[i]'(by omega))] := hK
  rw [hK'] at hc0
  have := hc0 0 _ rfl
  rw [show Kd.string.sz = 1 from rfl, Nat.mul_one, Nat.add_zero] at this
  exact ⟨ad, e, this⟩
theorem diff_no {xs : List ByteArray} {m : Int} (h : ¬ (1 ≤ xs.length ∧ (xs.length : Int) ≤ m)) : diffS xs m = false := by
  unfold diffS
  by_cases h1 : 1 ≤ (xs.length : Int)
  · rw [decide_eq_false (show ¬ (xs.length : Int) ≤ m by omega)]; simp
  · rw [decide_eq_false h1]; simp
theorem diff_bad {xs : List ByteArray} {m : Int} (k : Nat) (h : k < xs.length) (hb : nameV xs[k] = false ∨ xs[k] ∈ xs.take k) : diffS xs m = false := by
  unfold diffS
  rcases hb with hb | hb
  · have : xs.all nameV = false := by
      rw [Bool.eq_false_iff]; intro ha
      have := List.all_eq_true.1 ha _ (List.getElem_mem h)
      rw [hb] at this; cases this
    rw [this]; simp
  · have : ¬ xs.Nodup := by
      intro hd
      rw [← List.take_append_drop k xs, List.nodup_append] at hd
      refine hd.2.2 _ hb _ ?_ rfl
      rw [List.drop_eq_getElem_cons h]
      exact List.mem_cons_self
    rw [decide_eq_false this]; simp
theorem diff_yes {xs : List ByteArray} {m : Int} (h1 : 1 ≤ xs.length) (h2 : (xs.length : Int) ≤ m) (h3 : ∀ s ∈ xs, nameV s = true) (h4 : xs.Nodup) : diffS xs m = true := by
  unfold diffS
  rw [decide_eq_true (show 1 ≤ (xs.length : Int) by omega), decide_eq_true h2, List.all_eq_true.2 h3, decide_eq_true h4]; rfl
set_option maxHeartbeats 4000000 in
set_option maxRecDepth 100000 in
theorem diff_walk (A : Option Addr) (c n : Nat) (xs : List ByteArray) (m : Int) (w : World) (hn : xs.length = n) (hm : n ≤ 900) (hx : Kd.C Kd.string w A n xs) (hs : ∀ s ∈ xs, s.size ≤ 1000) :
    Calls Try.prog 48 #[.slice A n c, .int .i64 m] w fun e w' => e = .returned (.bool (diffS xs m)) ∧ Below w.heap.size w w' := by
  have HX := Lib.hid hx
  have hmm := @run_makeMap Try.prog
  have HI := Lib.hid (fun w => within15_calls (n : Int) 1 m w)
  obtain ⟨v, hv⟩ : ∃ v, v = diffS xs m := ⟨_, rfl⟩
  have HV := Lib.hid hv
  rw [← hv]
  clear hx hv
  by_cases hr : 1 ≤ n ∧ (n : Int) ≤ m
  · have hd : (decide (1 ≤ (n : Int)) && decide ((n : Int) ≤ m)) = true := by simp; omega
    rw [hd] at HI
    go_enter Try.func48, Try.ntmps48
    go_wp2_with fail
    with_reducible refine (HI.out _).mono ?_
    rintro e w1 ⟨rfl, m', hw1⟩
    have hB1 : Below w.heap.size w w1 := by rw [hw1]; exact pw_below_drewN (Below.refl _ _) m'
    clear hw1
    go_wp2_with fail
    have hown0 : (w1.alloc (.map #[] 0)).ownsMap Try.prog 9 (plainElem Try.prog 4) w1.heap.size 0 (setD (xs.take 0)) := World.ownsMap_made _ _ _ _
    have hB2 : Below w.heap.size w (w1.alloc (.map #[] 0)) := hB1.alloc hB1.size _
    have hlb := hB1.size
    generalize w1.heap.size = b at *
    generalize w1.alloc (.map #[] 0) = w2 at *
    clear hmm
    go_loopw [16] (fun i wr => ∃ k : Nat, k ≤ n ∧ i = .int .i64 k ∧ Below w.heap.size w wr ∧ wr.ownsMap Try.prog 9 (plainElem Try.prog 4) b k (setD (xs.take k)) ∧ Hid ((∀ s ∈ xs.take k, nameV s = true) ∧ (xs.take k).Nodup)) (fun i _ => n - (intOf i).toNat)
    case atStart => exact ⟨0, Nat.zero_le _, rfl, hB2, hown0, Lib.hid ⟨fun s h => absurd h (by simp), by simp⟩⟩
    case round =>
      obtain ⟨k, hk, rfl, hB, hown, HJ⟩ := hrel
      by_cases hlt : k < n
      · obtain ⟨ad, rfl, hcell⟩ := at_T (Kd.C_below HX.out hB) k hlt hn
        have hkl : k < xs.length := by omega
        have hsz : (xs[k]'hkl).size ≤ 1000 := hs _ (List.getElem_mem _)
        have hat := setD_at (xs[k]'hkl) (xs.take k)
        have hno1 : nameV (xs[k]'hkl) = false → v = false := fun q => by rw [HV.out]; exact diff_bad k hkl (Or.inl q)
        have hno2 : memB (xs[k]'hkl) (xs.take k) = true → v = false := fun q => by rw [HV.out]; exact diff_bad k hkl (Or.inr ((memB_iff _ _).1 q))
        have hgo : nameV (xs[k]'hkl) = true → memB (xs[k]'hkl) (xs.take k) = false → ((∀ s ∈ xs.take (k + 1), nameV s = true) ∧ (xs.take (k + 1)).Nodup) ∧ setD (xs.take (k + 1)) = (setD (xs.take k)).put (keyB (xs[k]'hkl)) (.lit (.bool true)) := by
          intro q1 q2
          have e1 : xs.take (k + 1) = xs.take k ++ [xs[k]] := List.take_succ_eq_append_getElem hkl
          rw [e1]
          refine ⟨⟨fun s hs => ?_, ?_⟩, setD_step _ _⟩
          · rcases List.mem_append.1 hs with h | h
            · exact HJ.out.1 s h
            · rw [List.mem_singleton.1 h]; exact q1
          · rw [List.nodup_append]
            refine ⟨HJ.out.2, by simp, fun a ha b hb => ?_⟩
            rw [List.mem_singleton.1 hb]
            intro e
            rw [e] at ha
            rw [(memB_iff _ _).2 ha] at q2; cases q2
        have hvw := fun w => rvalid_walk (xs[k]'hkl) w
        generalize xs[k]'hkl = s at *
        generalize setD (xs.take k) = D at *
        have hkey : keyOf Try.prog 9 (.string s) = some (keyB s) := keyOf_string_mk Try.underlying9 (by unfold maxLen; omega)
        have HW := Lib.hid hvw; have HN1 := Lib.hid hno1; have HN2 := Lib.hid hno2; have HG := Lib.hid hgo; have HAT := Lib.hid hat
        clear hvw hno1 hno2 hgo hat hB2 hown0
        go_wp2_with fail
        with_reducible refine (HW.out _).mono ?_
        rintro e w3 ⟨rfl, o, hw3⟩
        have hB3 : Below w.heap.size w w3 := by rw [hw3]; exact hB.alloc hB.size _
        have hown3 : w3.ownsMap Try.prog 9 (plainElem Try.prog 4) b k D := by rw [hw3]; exact hown.alloc o
        clear hw3 hB hown hcell
        cases hnv : nameV s with
        | false =>
          have hvf := HN1.out hnv
          go_wp2_with fail
          go_ret
          exact ⟨by subst hvf; rfl, hB3⟩
        | true =>
          cases hmb : memB s (xs.take k) with
          | true =>
            have hvf := HN2.out hmb
            have hrun := lookup_bool hown3 lawT Try.underlying97 Try.underlying4 (zeroB _) hkey (c := true) (by rw [HAT.out, hmb])
            go_wp2_with fail
            go_ret
            exact ⟨by subst hvf; rfl, hB3⟩
          | false =>
            have hG := HG.out hnv hmb
            have hrun := lookup_bool hown3 lawT Try.underlying97 Try.underlying4 (zeroB _) hkey (c := false) (by rw [HAT.out, hmb])
            go_wp2_with (first
              | (at_mapUpdate; refine wpList_mapUpdate_own _ rfl _ _ _ 97 rfl 9 4 lawT Try.underlying97 _ b k _ rfl hown3 (by unfold maxLen; omega) _ _ _ rfl rfl hkey _ [] (plainElem_bool Try.underlying4 true) ?_))
            intro w4 hown4 hgrow4
            rw [← hG.2] at hown4
            have hB4 : Below w.heap.size w w4 := hB3.grown hgrow4 hB3.size (fun j hj => by cases hj; exact hlb)
            clear hown3 hrun hB3
            have HG2 := Lib.hid hG.1
            clear hG
            go_wp2_with fail
            go_roundw
            case rel => exact ⟨k + 1, by omega, by go_num, hB4, hown4, HG2⟩
            case measure => simp only [intOf]; omega
      · obtain rfl : n = k := by omega
        rw [List.take_of_length_le (by omega)] at HJ
        have hvt : v = true := HV.out.trans (diff_yes (by omega) (by rw [hn]; exact hr.2) HJ.out.1 HJ.out.2)
        go_wp2_with fail
        go_ret
        exact ⟨by subst hvt; rfl, hB⟩
  · have hd : (decide (1 ≤ (n : Int)) && decide ((n : Int) ≤ m)) = false := by simp; omega
    rw [hd] at HI
    go_enter Try.func48, Try.ntmps48
    go_wp2_with fail
    with_reducible refine (HI.out _).mono ?_
    rintro e w1 ⟨rfl, m', hw1⟩
    have hB1 : Below w.heap.size w w1 := by rw [hw1]; exact pw_below_drewN (Below.refl _ _) m'
    clear hw1
    go_wp2_with fail
    go_ret
    have hvf := HV.out.trans (diff_no (m := m) (by rw [hn]; exact hr))
    exact ⟨by subst hvf; rfl, hB1⟩
set_option maxHeartbeats 4000000 in
set_option maxRecDepth 100000 in
theorem places_walk (A : Option Addr) (c n : Nat) (xs : List ByteArray) (w : World) (hn : xs.length = n) (hm : n ≤ 900) (hx : Kd.C Kd.string w A n xs) (hs : ∀ s ∈ xs, s.size ≤ 1000) :
    Calls Try.prog 27 #[.slice A n c] w fun e w' => ∃ b, e = .returned (.map (some b)) ∧ w.heap.size ≤ b ∧ w'.ownsMap Try.prog 9 (plainElem Try.prog 3) b n (plD xs) ∧ Below w.heap.size w w' := by
  have HX := Lib.hid hx
  have hmm := @run_makeMap Try.prog
  clear hx
  go_enter Try.func27, Try.ntmps27
  go_wp2_with fail
  have hown0 : (w.alloc (.map #[] 0)).ownsMap Try.prog 9 (plainElem Try.prog 3) w.heap.size 0 (plD (xs.take 0)) := World.ownsMap_made _ _ _ _
  have hB2 : Below w.heap.size w (w.alloc (.map #[] 0)) := (Below.refl _ _).alloc (Nat.le_refl _) _
  generalize w.alloc (.map #[] 0) = w2 at *
  clear hmm
  go_loopw [9] (fun i wr => ∃ k : Nat, k ≤ n ∧ i = .int .i64 k ∧ Below w.heap.size w wr ∧ wr.ownsMap Try.prog 9 (plainElem Try.prog 3) w.heap.size k (plD (xs.take k))) (fun i _ => n - (intOf i).toNat)
  case atStart => exact ⟨0, Nat.zero_le _, rfl, hB2, hown0⟩
  case round =>
    obtain ⟨k, hk, rfl, hB, hown⟩ := hrel
    by_cases hlt : k < n
    · obtain ⟨ad, rfl, hcell⟩ := at_T (Kd.C_below HX.out hB) k hlt hn
      have hkl : k < xs.length := by omega
      have hsz : (xs[k]'hkl).size ≤ 1000 := hs _ (List.getElem_mem _)
      have e1 : plD (xs.take (k + 1)) = (plD (xs.take k)).put (keyB (xs[k]'hkl)) (.lit (.int .i64 k)) := by
        rw [List.take_succ_eq_append_getElem hkl, plD_step, List.length_take, Nat.min_eq_left (by omega)]
      generalize xs[k]'hkl = s at *
      have hkey : keyOf Try.prog 9 (.string s) = some (keyB s) := keyOf_string_mk Try.underlying9 (by unfold maxLen; omega)
      have hwf : (Lit.int .i64 (k : Int)).wf = true := by
        have := wrap64_wf (k : Int)
        rwa [show wrap64 (k : Int) = (k : Int) by unfold wrap64; omega] at this
      have HE := Lib.hid e1
      clear e1 hown0 hB2
      go_wp2_with (first
        | (at_mapUpdate; refine wpList_mapUpdate_own _ rfl _ _ _ 54 rfl 9 3 lawT Try.underlying54 _ w.heap.size k _ rfl hown (by unfold maxLen; omega) _ _ _ rfl rfl hkey _ [] (plainElem_int Try.underlying3 hwf) ?_))
      intro w4 hown4 hgrow4
      rw [← HE.out] at hown4
      have hB4 : Below w.heap.size w w4 := hB.grown hgrow4 hB.size (fun j hj => by cases hj; exact Nat.le_refl _)
      clear hown hB
      go_wp2_with fail
      go_roundw
      case rel => exact ⟨k + 1, by omega, by go_num, hB4, hown4⟩
      case measure => simp only [intOf]; omega
    · obtain rfl : n = k := by omega
      rw [List.take_of_length_le (by omega)] at hown
      go_wp2_with fail
      go_ret
      exact ⟨w.heap.size, rfl, Nat.le_refl _, hown, hB⟩
set_option maxRecDepth 100000 in
theorem find_own (b n : Nat) (xs : List ByteArray) (s : ByteArray) (w : World) (hs : s.size ≤ 1000) (hd : xs.Nodup) (hown : w.ownsMap Try.prog 9 (plainElem Try.prog 3) b n (plD xs)) :
    Calls Try.prog 38 #[.map (some b), .string s] w fun e w' => e = .returned (.tuple #[.int .i64 (if plc xs s < 0 then 0 else plc xs s), .bool (decide (0 ≤ plc xs s))]) ∧ w' = w := by
  have hkey : keyOf Try.prog 9 (.string s) = some (keyB s) := keyOf_string_mk Try.underlying9 (by unfold maxLen; omega)
  have hhas := plD_has s xs hd
  have hat := plD_at s (.lit (.int .i64 0)) xs hd
  obtain ⟨v, ps, hrun, hv⟩ := hown.look_ok lawT Try.underlying54 (zeroI w) (plainElem_int Try.underlying3 (by decide)) hkey
  obtain ⟨c, rfl, hc, hwc⟩ := plainElem_int_inv Try.underlying3 hv
  rw [hhas] at hrun
  simp only [Prod.mk.injEq] at hc
  rw [hat] at hc
  have hcc : c = (if plc xs s < 0 then 0 else plc xs s) := by
    by_cases h : plc xs s < 0
    · rw [if_pos h] at hc ⊢
      have := hc.1; simp only [DataW.lit.injEq, Lit.int.injEq, true_and] at this; exact this.symm
    · rw [if_neg h] at hc ⊢
      have := hc.1; simp only [DataW.lit.injEq, Lit.int.injEq, true_and] at this; exact this.symm
  rw [← hcc]
  generalize decide (0 ≤ plc xs s) = d at *
  clear hc hv hcc hat hhas
  go_enter Try.func38, Try.ntmps38
  go_wp2_with fail
  go_ret2
  exact ⟨rfl, rfl⟩
theorem find_nil (s : ByteArray) (w : World) (hs : s.size ≤ 140737488351232) :
    Calls Try.prog 38 #[.map none, .string s] w fun e w' => e = .returned (.tuple #[.int .i64 0, .bool false]) ∧ w' = w := by
  have hkey : keyOf Try.prog 9 (.string s) = some (keyB s) := keyOf_string_mk Try.underlying9 (by unfold maxLen; omega)
  have hrun := Maps.look_nil true lawT Try.underlying54 (zeroI w) hkey
  simp only [if_true] at hrun
  go_enter Try.func38, Try.ntmps38
  go_wp2_with fail
  go_ret2
  exact ⟨rfl, rfl⟩
end Go.Proofs.Ytbhbnefifgdioaa.Hand

/- rules: accounts, symbols, venues, walked (gen_rul3.py). -/
set_option linter.unusedVariables false
set_option linter.unusedSimpArgs false
namespace Go.Proofs.Ytbhbnefifgdioaa.Hand
open Go Go.RowKit Go.Proofs.YtbhbnefifgdioaaW.PrintWords Go.Proofs.YtbhbnefifgdioaaW.PrintMore Go.Proofs.YtbhbnefifgdioaaW.PrintLast Go.Proofs.Ytbhbnefifgdioaa.RL Go.Proofs.Ytbhbnefifgdioaa.PL Go.Proofs.Ytbhbnefifgdioaa.K
theorem Blk.on {w w' : World} {g : Nat} {t : TypeId} {cs : Array Value} (h : Blk w g t cs) (hb : Below w.heap.size w w') : Blk w' g t cs := h.below hb h.lt
theorem all_take {α : Type} {f : α → Bool} {l : List α} {k : Nat} (h : k < l.length) (h1 : (l.take k).all f = true) (h2 : f l[k] = true) : (l.take (k + 1)).all f = true := by
  rw [List.take_succ_eq_append_getElem h, List.all_append, h1]; simp [h2]
theorem all_noF {α : Type} {f : α → Bool} {l : List α} {k : Nat} (h : k < l.length) (h2 : f l[k] = false) : l.all f = false := by
  rw [Bool.eq_false_iff]; intro ha
  have := List.all_eq_true.1 ha _ (List.getElem_mem h)
  rw [h2] at this; cases this
/-- Is a number between two others? -/
def btw (a lo hi : Int) : Bool := decide (lo ≤ a) && decide (a ≤ hi)
theorem within15_btw (a lo hi : Int) (w : World) : Calls Try.prog 49 #[.int .i64 a, .int .i64 lo, .int .i64 hi] w fun e w' => e = .returned (.bool (btw a lo hi)) ∧ Below w.heap.size w w' := by
  refine (within15_calls a lo hi w).mono ?_
  rintro e w' ⟨rfl, m, rfl⟩
  exact ⟨rfl, pw_below_drewN (Below.refl _ _) m⟩
theorem band15_calls (m w t : Int) (ht : in64 t) (W : World) : Calls Try.prog 39 #[.int .i64 m, .int .i64 w, .int .i64 t] W fun e w' => e = .returned (.tuple #[.int .i64 (bandS m w t).1, .int .i64 (bandS m w t).2.1, .int .i64 (bandS m w t).2.2]) ∧ Below W.heap.size W w' :=
  grain_Band.calls 1 _ _ _ _ _ _ W (band_is m w t ht 1 (Nat.le_refl _))
def accB (x : Acc) : Bool := btw x.2 0 4611686018427387904
set_option maxHeartbeats 8000000 in
set_option maxRecDepth 100000 in
theorem accounts_walk (A1 A2 A3 : Option Addr) (c1 c2 c3 n2 n3 : Nat) (l : List Acc) (p1 p2 p3 p4 p5 p6 : Int) (w : World) (hm : l.length ≤ 900) (hx : Kd.C kA w A1 l.length l) (hs : ∀ x ∈ l, x.1.size ≤ 1000) :
    Calls Try.prog 34 #[.agg (setC (.slice A1 l.length c1) (.slice A2 n2 c2) (.slice A3 n3 c3) p1 p2 p3 p4 p5 p6)] w fun e w' => e = .returned (.bool (diffS (l.map (·.1)) 16 && l.all accB)) ∧ Below w.heap.size w w' := by
  have hb := Blk.new w 26 (setC (.slice A1 l.length c1) (.slice A2 n2 c2) (.slice A3 n3 c3) p1 p2 p3 p4 p5 p6)
  have hb0 := (Below.refl w.heap.size w).alloc (Nat.le_refl _) (.cells (setC (.slice A1 l.length c1) (.slice A2 n2 c2) (.slice A3 n3 c3) p1 p2 p3 p4 p5 p6) 26)
  have HX := Lib.hid hx; have HS := Lib.hid hs
  have HN := Lib.hid (fun w' (b : Below w.heap.size w w') => rnamesA A1 c1 l hm w' (Kd.C_below hx b))
  obtain ⟨v, hv⟩ : ∃ v, v = (diffS (l.map (·.1)) 16 && l.all accB) := ⟨_, rfl⟩
  rw [← hv]
  have HV := Lib.hid hv
  clear hx hs hv
  go_enter Try.func34, Try.ntmps34
  go_wp2_with fail
  generalize w.alloc (.cells (setC (.slice A1 l.length c1) (.slice A2 n2 c2) (.slice A3 n3 c3) p1 p2 p3 p4 p5 p6) 26) = w1 at *
  refine (HN.out w1 hb0).mono ?_
  rintro e wa ⟨B, d, rfl, hd, hC, ba⟩
  have hO := Blk.on hb ba
  have hB := bt hb0 ba
  clear hb hb0
  go_wp2_with fail
  refine (diff_walk B d l.length (l.map (·.1)) 16 wa (by rw [List.length_map]) hm hC (fun s hs => by obtain ⟨x, hx, rfl⟩ := List.mem_map.1 hs; exact HS.out x hx)).mono ?_
  rintro e wb ⟨rfl, bb⟩
  have hO := Blk.on hO bb
  have hB := bt hB bb
  clear hC ba bb
  cases hdf : diffS (l.map (·.1)) 16 with
  | false =>
    have hvf : v = false := HV.out.trans (by rw [hdf]; rfl)
    go_wp2_with fail
    go_ret
    exact ⟨by subst hvf; rfl, hB⟩
  | true =>
    replace HV := Lib.hid (HV.out.trans (show _ = l.all accB by rw [hdf]; rfl))
    have y0 : wb.cell? ⟨w.heap.size, 0, none⟩ = some (.slice A1 l.length c1) := hO.cell 0
    clear hO HN hdf
    go_wp2_with fail
    go_loopw [13] (fun i wr => ∃ k : Nat, k ≤ l.length ∧ i = .int .i64 k ∧ Below w.heap.size w wr ∧ Hid ((l.take k).all accB = true)) (fun i _ => l.length - (intOf i).toNat)
    case atStart => exact ⟨0, Nat.zero_le _, rfl, hB, Lib.hid rfl⟩
    case round =>
      clear hB y0
      obtain ⟨k, hk, rfl, hB, HJ⟩ := hrel
      by_cases hlt : k < l.length
      · obtain ⟨ad, rfl, hcell⟩ := at_A (Kd.C_below HX.out hB) k hlt
        have e1 : l.getD k zA = l[k] := by simp [hlt]
        rw [e1] at hcell
        have hno : accB l[k] = false → v = false := fun q => HV.out.trans (all_noF hlt q)
        have hgo : accB l[k] = true → (l.take (k + 1)).all accB = true := fun q => all_take hlt HJ.out q
        generalize l[k] = x at *
        have c0 : wr.cell? (ad.add (k * 2)) = some (.string x.1) := hcell 0 _ rfl
        have c1 : wr.cell? (ad.add (k * 2 + 1)) = some (.int .i64 x.2) := hcell 1 _ rfl
        have q0 := World.block_lt_of_cell? wr _ c0
        rw [add_field _ _ _ (by omega)] at c1
        have bO := (Below.refl wr.heap.size wr).alloc (Nat.le_refl _) (.cells #[.string x.1, .int .i64 x.2] 60)
        have hO := Blk.new wr 60 #[.string x.1, .int .i64 x.2]
        have hB8 := bt hB bO
        have HO := Lib.hid hO; have HNo := Lib.hid hno; have HGo := Lib.hid hgo
        have HW := Lib.hid (fun (a lo hi : Int) (w : World) => within15_btw a lo hi w)
        clear hO hno hgo bO hB hcell e1
        go_upto_region 6 with (fail)
        generalize wr.alloc (.cells #[.string x.1, .int .i64 x.2] 60) = v0 at *
        generalize wr.heap.size = ob at *
        clear c0 c1
        have y1 : v0.cell? ⟨ob, 1, none⟩ = some (.int .i64 x.2) := HO.out.cell 1
        go_wp2_with fail
        clear y1
        with_reducible refine (HW.out _ _ _ _).mono ?_
        rintro e v1 ⟨rfl, hb9⟩
        replace HO := Lib.hid (Blk.on HO.out hb9)
        replace hB8 := bt hB8 hb9
        clear hb9
        cases hc0 : btw x.2 0 4611686018427387904 with
        | false =>
          have hvf := HNo.out (by unfold accB; simp [hc0])
          go_wp2_with fail
          go_ret
          exact ⟨by subst hvf; rfl, hB8⟩
        | true =>
          replace HGo := Lib.hid (HGo.out (by unfold accB; rw [hc0]))
          go_wp2_with fail
          go_roundw
          case rel => exact ⟨k + 1, by omega, by go_num, hB8, HGo⟩
          case measure => simp only [intOf]; omega
      · obtain rfl : l.length = k := by omega
        rw [List.take_length] at HJ
        have hvt : v = true := HV.out.trans HJ.out
        go_wp2_with fail
        go_ret
        exact ⟨by subst hvt; rfl, hB⟩
def symB (x : Sym) : Bool := btw x.2.1 1 1099511627776 && btw x.2.2.2.2.2.1 1 1099511627776 && btw x.2.2.1 1 1099511627776 && btw x.2.2.2.1 1 1099511627776 && btw x.2.2.2.2.2.2 1 4611686018427387904 && (decide ((bandS x.2.2.2.1 x.2.2.2.2.1 x.2.2.1).2.2 = 0) && decide (1 ≤ (bandS x.2.2.2.1 x.2.2.2.2.1 x.2.2.1).1))
set_option maxHeartbeats 8000000 in
set_option maxRecDepth 100000 in
theorem symbols_walk (A1 A2 A3 : Option Addr) (c1 c2 c3 n1 n3 : Nat) (l : List Sym) (p1 p2 p3 p4 p5 p6 : Int) (w : World) (hm : l.length ≤ 900) (hx : Kd.C kS w A2 l.length l) (hs : ∀ x ∈ l, x.1.size ≤ 1000) :
    Calls Try.prog 35 #[.agg (setC (.slice A1 n1 c1) (.slice A2 l.length c2) (.slice A3 n3 c3) p1 p2 p3 p4 p5 p6)] w fun e w' => e = .returned (.bool (diffS (l.map (·.1)) 16 && l.all symB)) ∧ Below w.heap.size w w' := by
  have hb := Blk.new w 26 (setC (.slice A1 n1 c1) (.slice A2 l.length c2) (.slice A3 n3 c3) p1 p2 p3 p4 p5 p6)
  have hb0 := (Below.refl w.heap.size w).alloc (Nat.le_refl _) (.cells (setC (.slice A1 n1 c1) (.slice A2 l.length c2) (.slice A3 n3 c3) p1 p2 p3 p4 p5 p6) 26)
  have HX := Lib.hid hx; have HS := Lib.hid hs
  have HN := Lib.hid (fun w' (b : Below w.heap.size w w') => rnamesS A2 c2 l hm w' (Kd.C_below hx b))
  obtain ⟨v, hv⟩ : ∃ v, v = (diffS (l.map (·.1)) 16 && l.all symB) := ⟨_, rfl⟩
  rw [← hv]
  have HV := Lib.hid hv
  clear hx hs hv
  go_enter Try.func35, Try.ntmps35
  go_wp2_with fail
  generalize w.alloc (.cells (setC (.slice A1 n1 c1) (.slice A2 l.length c2) (.slice A3 n3 c3) p1 p2 p3 p4 p5 p6) 26) = w1 at *
  refine (HN.out w1 hb0).mono ?_
  rintro e wa ⟨B, d, rfl, hd, hC, ba⟩
  have hO := Blk.on hb ba
  have hB := bt hb0 ba
  clear hb hb0
  go_wp2_with fail
  refine (diff_walk B d l.length (l.map (·.1)) 16 wa (by rw [List.length_map]) hm hC (fun s hs => by obtain ⟨x, hx, rfl⟩ := List.mem_map.1 hs; exact HS.out x hx)).mono ?_
  rintro e wb ⟨rfl, bb⟩
  have hO := Blk.on hO bb
  have hB := bt hB bb
  clear hC ba bb
  cases hdf : diffS (l.map (·.1)) 16 with
  | false =>
    have hvf : v = false := HV.out.trans (by rw [hdf]; rfl)
    go_wp2_with fail
    go_ret
    exact ⟨by subst hvf; rfl, hB⟩
  | true =>
    replace HV := Lib.hid (HV.out.trans (show _ = l.all symB by rw [hdf]; rfl))
    have y0 : wb.cell? ⟨w.heap.size, 1, none⟩ = some (.slice A2 l.length c2) := hO.cell 1
    clear hO HN hdf
    go_wp2_with fail
    go_loopw [16] (fun i wr => ∃ k : Nat, k ≤ l.length ∧ i = .int .i64 k ∧ Below w.heap.size w wr ∧ Hid ((l.take k).all symB = true)) (fun i _ => l.length - (intOf i).toNat)
    case atStart => exact ⟨0, Nat.zero_le _, rfl, hB, Lib.hid rfl⟩
    case round =>
      clear hB y0
      obtain ⟨k, hk, rfl, hB, HJ⟩ := hrel
      by_cases hlt : k < l.length
      · obtain ⟨ad, rfl, hcell⟩ := at_S (Kd.C_below HX.out hB) k hlt
        have e1 : l.getD k zS = l[k] := by simp [hlt]
        rw [e1] at hcell
        have hno : symB l[k] = false → v = false := fun q => HV.out.trans (all_noF hlt q)
        have hgo : symB l[k] = true → (l.take (k + 1)).all symB = true := fun q => all_take hlt HJ.out q
        generalize l[k] = x at *
        have c0 : wr.cell? (ad.add (k * 7)) = some (.string x.1) := hcell 0 _ rfl
        have c1 : wr.cell? (ad.add (k * 7 + 1)) = some (.int .i64 x.2.1) := hcell 1 _ rfl
        have c2 : wr.cell? (ad.add (k * 7 + 2)) = some (.int .i64 x.2.2.1) := hcell 2 _ rfl
        have c3 : wr.cell? (ad.add (k * 7 + 3)) = some (.int .i64 x.2.2.2.1) := hcell 3 _ rfl
        have c4 : wr.cell? (ad.add (k * 7 + 4)) = some (.int .i64 x.2.2.2.2.1) := hcell 4 _ rfl
        have c5 : wr.cell? (ad.add (k * 7 + 5)) = some (.int .i64 x.2.2.2.2.2.1) := hcell 5 _ rfl
        have c6 : wr.cell? (ad.add (k * 7 + 6)) = some (.int .i64 x.2.2.2.2.2.2) := hcell 6 _ rfl
        have q0 := World.block_lt_of_cell? wr _ c0
        rw [add_field _ _ _ (by omega)] at c1 c2 c3 c4 c5 c6
        have bO := (Below.refl wr.heap.size wr).alloc (Nat.le_refl _) (.cells #[.string x.1, .int .i64 x.2.1, .int .i64 x.2.2.1, .int .i64 x.2.2.2.1, .int .i64 x.2.2.2.2.1, .int .i64 x.2.2.2.2.2.1, .int .i64 x.2.2.2.2.2.2] 41)
        have hO := Blk.new wr 41 #[.string x.1, .int .i64 x.2.1, .int .i64 x.2.2.1, .int .i64 x.2.2.2.1, .int .i64 x.2.2.2.2.1, .int .i64 x.2.2.2.2.2.1, .int .i64 x.2.2.2.2.2.2]
        have hB8 := bt hB bO
        have HO := Lib.hid hO; have HNo := Lib.hid hno; have HGo := Lib.hid hgo
        have HW := Lib.hid (fun (a lo hi : Int) (w : World) => within15_btw a lo hi w)
        clear hO hno hgo bO hB hcell e1
        go_upto_region 6 with (fail)
        generalize wr.alloc (.cells #[.string x.1, .int .i64 x.2.1, .int .i64 x.2.2.1, .int .i64 x.2.2.2.1, .int .i64 x.2.2.2.2.1, .int .i64 x.2.2.2.2.2.1, .int .i64 x.2.2.2.2.2.2] 41) = v0 at *
        generalize wr.heap.size = ob at *
        clear c0 c1 c2 c3 c4 c5 c6
        have y1 : v0.cell? ⟨ob, 1, none⟩ = some (.int .i64 x.2.1) := HO.out.cell 1
        go_wp2_with fail
        clear y1
        with_reducible refine (HW.out _ _ _ _).mono ?_
        rintro e v1 ⟨rfl, hb9⟩
        replace HO := Lib.hid (Blk.on HO.out hb9)
        replace hB8 := bt hB8 hb9
        clear hb9
        cases hc0 : btw x.2.1 1 1099511627776 with
        | false =>
          have hvf := HNo.out (by unfold symB; simp [hc0])
          go_wp2_with fail
          go_ret
          exact ⟨by subst hvf; rfl, hB8⟩
        | true =>
          have y5 : v1.cell? ⟨ob, 5, none⟩ = some (.int .i64 x.2.2.2.2.2.1) := HO.out.cell 5
          go_wp2_with fail
          clear y5
          with_reducible refine (HW.out _ _ _ _).mono ?_
          rintro e v2 ⟨rfl, hb9⟩
          replace HO := Lib.hid (Blk.on HO.out hb9)
          replace hB8 := bt hB8 hb9
          clear hb9
          cases hc1 : btw x.2.2.2.2.2.1 1 1099511627776 with
          | false =>
            have hvf := HNo.out (by unfold symB; simp [hc1])
            go_wp2_with fail
            go_ret
            exact ⟨by subst hvf; rfl, hB8⟩
          | true =>
            have y2 : v2.cell? ⟨ob, 2, none⟩ = some (.int .i64 x.2.2.1) := HO.out.cell 2
            go_wp2_with fail
            clear y2
            with_reducible refine (HW.out _ _ _ _).mono ?_
            rintro e v3 ⟨rfl, hb9⟩
            replace HO := Lib.hid (Blk.on HO.out hb9)
            replace hB8 := bt hB8 hb9
            clear hb9
            cases hc2 : btw x.2.2.1 1 1099511627776 with
            | false =>
              have hvf := HNo.out (by unfold symB; simp [hc2])
              go_wp2_with fail
              go_ret
              exact ⟨by subst hvf; rfl, hB8⟩
            | true =>
              have y3 : v3.cell? ⟨ob, 3, none⟩ = some (.int .i64 x.2.2.2.1) := HO.out.cell 3
              go_wp2_with fail
              clear y3
              with_reducible refine (HW.out _ _ _ _).mono ?_
              rintro e v4 ⟨rfl, hb9⟩
              replace HO := Lib.hid (Blk.on HO.out hb9)
              replace hB8 := bt hB8 hb9
              clear hb9
              cases hc3 : btw x.2.2.2.1 1 1099511627776 with
              | false =>
                have hvf := HNo.out (by unfold symB; simp [hc3])
                go_wp2_with fail
                go_ret
                exact ⟨by subst hvf; rfl, hB8⟩
              | true =>
                have y6 : v4.cell? ⟨ob, 6, none⟩ = some (.int .i64 x.2.2.2.2.2.2) := HO.out.cell 6
                go_wp2_with fail
                clear y6
                with_reducible refine (HW.out _ _ _ _).mono ?_
                rintro e v5 ⟨rfl, hb9⟩
                replace HO := Lib.hid (Blk.on HO.out hb9)
                replace hB8 := bt hB8 hb9
                clear hb9
                cases hc4 : btw x.2.2.2.2.2.2 1 4611686018427387904 with
                | false =>
                  have hvf := HNo.out (by unfold symB; simp [hc4])
                  go_wp2_with fail
                  go_ret
                  exact ⟨by subst hvf; rfl, hB8⟩
                | true =>
                  have htt : in64 x.2.2.1 := by have := hc2; unfold btw at this; simp at this; unfold in64; omega
                  have HBd := Lib.hid (fun w => band15_calls x.2.2.2.1 x.2.2.2.2.1 x.2.2.1 htt w)
                  replace HNo := Lib.hid (fun q : (decide ((bandS x.2.2.2.1 x.2.2.2.2.1 x.2.2.1).2.2 = 0) && decide (1 ≤ (bandS x.2.2.2.1 x.2.2.2.2.1 x.2.2.1).1)) = false => HNo.out (by unfold symB; rw [hc0, hc1, hc2, hc3, hc4, q]; rfl))
                  replace HGo := Lib.hid (fun q : (decide ((bandS x.2.2.2.1 x.2.2.2.2.1 x.2.2.1).2.2 = 0) && decide (1 ≤ (bandS x.2.2.2.1 x.2.2.2.2.1 x.2.2.1).1)) = true => HGo.out (by unfold symB; rw [hc0, hc1, hc2, hc3, hc4, q]; rfl))
                  generalize bandS x.2.2.2.1 x.2.2.2.2.1 x.2.2.1 = bd at *
                  clear htt hc0 hc1 hc2 hc3 hc4
                  have y3 : v5.cell? ⟨ob, 3, none⟩ = some (.int .i64 x.2.2.2.1) := HO.out.cell 3
                  have y4 : v5.cell? ⟨ob, 4, none⟩ = some (.int .i64 x.2.2.2.2.1) := HO.out.cell 4
                  have y2 : v5.cell? ⟨ob, 2, none⟩ = some (.int .i64 x.2.2.1) := HO.out.cell 2
                  go_wp2_with fail
                  with_reducible refine (HBd.out _).mono ?_
                  rintro e v6 ⟨rfl, hb9⟩
                  replace hB8 := bt hB8 hb9
                  clear hb9 y2 y3 y4 HO
                  obtain ⟨lo, hi, er⟩ := bd
                  dsimp only at HNo HGo ⊢
                  by_cases he : er = 0
                  · by_cases hl : 1 ≤ lo
                    · replace HGo := Lib.hid (HGo.out (by rw [decide_eq_true he, decide_eq_true hl]; rfl))
                      subst he
                      go_wp2_with fail
                      go_roundw
                      case rel => exact ⟨k + 1, by omega, by go_num, hB8, HGo⟩
                      case measure => simp only [intOf]; omega
                    · have hvf := HNo.out (by rw [decide_eq_false hl, Bool.and_false])
                      subst he
                      go_wp2_with fail
                      go_ret
                      exact ⟨by subst hvf; rfl, hB8⟩
                  · have hvf := HNo.out (by rw [decide_eq_false he, Bool.false_and])
                    have hne : (er != 0) = true := by simp [he]
                    go_wp2_with fail
                    go_ret
                    exact ⟨by subst hvf; rfl, hB8⟩
      · obtain rfl : l.length = k := by omega
        rw [List.take_length] at HJ
        have hvt : v = true := HV.out.trans HJ.out
        go_wp2_with fail
        go_ret
        exact ⟨by subst hvt; rfl, hB⟩
def venB (x : Ven) : Bool := btw x.2.1 1 1099511627776 && btw x.2.2.1 0 10000 && btw x.2.2.2.1 0 1099511627776
set_option maxHeartbeats 8000000 in
set_option maxRecDepth 100000 in
theorem venues_walk (A1 A2 A3 : Option Addr) (c1 c2 c3 n1 n2 : Nat) (l : List Ven) (p1 p2 p3 p4 p5 p6 : Int) (w : World) (hm : l.length ≤ 900) (hx : Kd.C kV w A3 l.length l) (hs : ∀ x ∈ l, x.1.size ≤ 1000) :
    Calls Try.prog 36 #[.agg (setC (.slice A1 n1 c1) (.slice A2 n2 c2) (.slice A3 l.length c3) p1 p2 p3 p4 p5 p6)] w fun e w' => e = .returned (.bool (diffS (l.map (·.1)) 8 && l.all venB)) ∧ Below w.heap.size w w' := by
  have hb := Blk.new w 26 (setC (.slice A1 n1 c1) (.slice A2 n2 c2) (.slice A3 l.length c3) p1 p2 p3 p4 p5 p6)
  have hb0 := (Below.refl w.heap.size w).alloc (Nat.le_refl _) (.cells (setC (.slice A1 n1 c1) (.slice A2 n2 c2) (.slice A3 l.length c3) p1 p2 p3 p4 p5 p6) 26)
  have HX := Lib.hid hx; have HS := Lib.hid hs
  have HN := Lib.hid (fun w' (b : Below w.heap.size w w') => rnamesV A3 c3 l hm w' (Kd.C_below hx b))
  obtain ⟨v, hv⟩ : ∃ v, v = (diffS (l.map (·.1)) 8 && l.all venB) := ⟨_, rfl⟩
  rw [← hv]
  have HV := Lib.hid hv
  clear hx hs hv
  go_enter Try.func36, Try.ntmps36
  go_wp2_with fail
  generalize w.alloc (.cells (setC (.slice A1 n1 c1) (.slice A2 n2 c2) (.slice A3 l.length c3) p1 p2 p3 p4 p5 p6) 26) = w1 at *
  refine (HN.out w1 hb0).mono ?_
  rintro e wa ⟨B, d, rfl, hd, hC, ba⟩
  have hO := Blk.on hb ba
  have hB := bt hb0 ba
  clear hb hb0
  go_wp2_with fail
  refine (diff_walk B d l.length (l.map (·.1)) 8 wa (by rw [List.length_map]) hm hC (fun s hs => by obtain ⟨x, hx, rfl⟩ := List.mem_map.1 hs; exact HS.out x hx)).mono ?_
  rintro e wb ⟨rfl, bb⟩
  have hO := Blk.on hO bb
  have hB := bt hB bb
  clear hC ba bb
  cases hdf : diffS (l.map (·.1)) 8 with
  | false =>
    have hvf : v = false := HV.out.trans (by rw [hdf]; rfl)
    go_wp2_with fail
    go_ret
    exact ⟨by subst hvf; rfl, hB⟩
  | true =>
    replace HV := Lib.hid (HV.out.trans (show _ = l.all venB by rw [hdf]; rfl))
    have y0 : wb.cell? ⟨w.heap.size, 2, none⟩ = some (.slice A3 l.length c3) := hO.cell 2
    clear hO HN hdf
    go_wp2_with fail
    go_loopw [13] (fun i wr => ∃ k : Nat, k ≤ l.length ∧ i = .int .i64 k ∧ Below w.heap.size w wr ∧ Hid ((l.take k).all venB = true)) (fun i _ => l.length - (intOf i).toNat)
    case atStart => exact ⟨0, Nat.zero_le _, rfl, hB, Lib.hid rfl⟩
    case round =>
      clear hB y0
      obtain ⟨k, hk, rfl, hB, HJ⟩ := hrel
      by_cases hlt : k < l.length
      · obtain ⟨ad, rfl, hcell⟩ := at_V (Kd.C_below HX.out hB) k hlt
        have e1 : l.getD k zV = l[k] := by simp [hlt]
        rw [e1] at hcell
        have hno : venB l[k] = false → v = false := fun q => HV.out.trans (all_noF hlt q)
        have hgo : venB l[k] = true → (l.take (k + 1)).all venB = true := fun q => all_take hlt HJ.out q
        generalize l[k] = x at *
        have c0 : wr.cell? (ad.add (k * 5)) = some (.string x.1) := hcell 0 _ rfl
        have c1 : wr.cell? (ad.add (k * 5 + 1)) = some (.int .i64 x.2.1) := hcell 1 _ rfl
        have c2 : wr.cell? (ad.add (k * 5 + 2)) = some (.int .i64 x.2.2.1) := hcell 2 _ rfl
        have c3 : wr.cell? (ad.add (k * 5 + 3)) = some (.int .i64 x.2.2.2.1) := hcell 3 _ rfl
        have c4 : wr.cell? (ad.add (k * 5 + 4)) = some (.bool x.2.2.2.2) := hcell 4 _ rfl
        have q0 := World.block_lt_of_cell? wr _ c0
        rw [add_field _ _ _ (by omega)] at c1 c2 c3 c4
        have bO := (Below.refl wr.heap.size wr).alloc (Nat.le_refl _) (.cells #[.string x.1, .int .i64 x.2.1, .int .i64 x.2.2.1, .int .i64 x.2.2.2.1, .bool x.2.2.2.2] 62)
        have hO := Blk.new wr 62 #[.string x.1, .int .i64 x.2.1, .int .i64 x.2.2.1, .int .i64 x.2.2.2.1, .bool x.2.2.2.2]
        have hB8 := bt hB bO
        have HO := Lib.hid hO; have HNo := Lib.hid hno; have HGo := Lib.hid hgo
        have HW := Lib.hid (fun (a lo hi : Int) (w : World) => within15_btw a lo hi w)
        clear hO hno hgo bO hB hcell e1
        go_upto_region 6 with (fail)
        generalize wr.alloc (.cells #[.string x.1, .int .i64 x.2.1, .int .i64 x.2.2.1, .int .i64 x.2.2.2.1, .bool x.2.2.2.2] 62) = v0 at *
        generalize wr.heap.size = ob at *
        clear c0 c1 c2 c3 c4
        have y1 : v0.cell? ⟨ob, 1, none⟩ = some (.int .i64 x.2.1) := HO.out.cell 1
        go_wp2_with fail
        clear y1
        with_reducible refine (HW.out _ _ _ _).mono ?_
        rintro e v1 ⟨rfl, hb9⟩
        replace HO := Lib.hid (Blk.on HO.out hb9)
        replace hB8 := bt hB8 hb9
        clear hb9
        cases hc0 : btw x.2.1 1 1099511627776 with
        | false =>
          have hvf := HNo.out (by unfold venB; simp [hc0])
          go_wp2_with fail
          go_ret
          exact ⟨by subst hvf; rfl, hB8⟩
        | true =>
          have y2 : v1.cell? ⟨ob, 2, none⟩ = some (.int .i64 x.2.2.1) := HO.out.cell 2
          go_wp2_with fail
          clear y2
          with_reducible refine (HW.out _ _ _ _).mono ?_
          rintro e v2 ⟨rfl, hb9⟩
          replace HO := Lib.hid (Blk.on HO.out hb9)
          replace hB8 := bt hB8 hb9
          clear hb9
          cases hc1 : btw x.2.2.1 0 10000 with
          | false =>
            have hvf := HNo.out (by unfold venB; simp [hc1])
            go_wp2_with fail
            go_ret
            exact ⟨by subst hvf; rfl, hB8⟩
          | true =>
            have y3 : v2.cell? ⟨ob, 3, none⟩ = some (.int .i64 x.2.2.2.1) := HO.out.cell 3
            go_wp2_with fail
            clear y3
            with_reducible refine (HW.out _ _ _ _).mono ?_
            rintro e v3 ⟨rfl, hb9⟩
            replace HO := Lib.hid (Blk.on HO.out hb9)
            replace hB8 := bt hB8 hb9
            clear hb9
            cases hc2 : btw x.2.2.2.1 0 1099511627776 with
            | false =>
              have hvf := HNo.out (by unfold venB; simp [hc2])
              go_wp2_with fail
              go_ret
              exact ⟨by subst hvf; rfl, hB8⟩
            | true =>
              replace HGo := Lib.hid (HGo.out (by unfold venB; rw [hc0, hc1, hc2]; rfl))
              go_wp2_with fail
              go_roundw
              case rel => exact ⟨k + 1, by omega, by go_num, hB8, HGo⟩
              case measure => simp only [intOf]; omega
      · obtain rfl : l.length = k := by omega
        rw [List.take_length] at HJ
        have hvt : v = true := HV.out.trans HJ.out
        go_wp2_with fail
        go_ret
        exact ⟨by subst hvt; rfl, hB⟩
end Go.Proofs.Ytbhbnefifgdioaa.Hand

/- rules: clones, sizes, Check, walked (gen_rul4.py). -/
set_option linter.unusedVariables false
set_option linter.unusedSimpArgs false
namespace Go.Proofs.Ytbhbnefifgdioaa.Hand
open Go Go.RowKit Go.Proofs.YtbhbnefifgdioaaW.PrintWords Go.Proofs.YtbhbnefifgdioaaW.PrintMore Go.Proofs.YtbhbnefifgdioaaW.PrintLast Go.Proofs.Ytbhbnefifgdioaa.RL Go.Proofs.Ytbhbnefifgdioaa.PL Go.Proofs.Ytbhbnefifgdioaa.K
set_option maxHeartbeats 4000000 in
set_option maxRecDepth 100000 in
theorem cloneA (A : Option Addr) (c : Nat) (l : List Acc) (hm : l.length ≤ 900) (w : World) (hl : Kd.C kA w A l.length l) :
    Calls Try.prog 45 #[.slice A l.length c] w fun e w' => ∃ B d, e = .returned (.slice B l.length d) ∧ Kd.R kA 60 w' w.heap.size (fun _ => True) (.slice B l.length d) l ∧ Below w.heap.size w w' := by
  cases A with
  | none =>
    have h0 : l = [] := by
      cases l with
      | nil => rfl
      | cons x l => obtain ⟨ad, e, _⟩ := hl.2.2 (by simp); cases e
    subst h0
    have qe := fun w : World => Lib.run_eql_slice_nil (P := Try.prog) w 22 60 none 0 c 0 0 Try.underlying22
    simp only [Option.isNone_none] at qe
    clear hl
    go_enter Try.func45, Try.ntmps45
    go_wp2_with fail
    go_ret
    exact ⟨none, 0, rfl, Kd.R_nil _ _ _ _ _, Below.refl _ _⟩
  | some ad =>
    have qe := fun w : World => Lib.run_eql_slice_nil (P := Try.prog) w 22 60 (some ad) l.length c 0 0 Try.underlying22
    simp only [Option.isNone_some] at qe
    have hO4 : Kd.R kA 60 (w.alloc (.cells #[] 60)) w.heap.size (fun _ => True) (.slice (some ⟨w.heap.size, 0, none⟩) 0 0) [] := ⟨fun _ _ => trivial, [], ⟨rfl, .inr ⟨w.heap.size, 0, #[], rfl, Nat.le_refl _, Blk.new w 60 #[], Nat.le_refl _, by decide, rfl, rfl⟩⟩, Reps.none _ _⟩
    have hb4 := (Below.refl w.heap.size w).alloc (Nat.le_refl _) (.cells #[] 60)
    have hC4 := Kd.C_below hl hb4
    have hlen : (([] : List Acc).length + l.length) * 24 ≤ 140737488355328 := by simp; omega
    have hle4 : w.heap.size ≤ (w.alloc (.cells #[] 60)).heap.size := by simp
    have hKM : ∀ (W : World) (x : Acc) cs, kA.K W x cs → kA.M W w.heap.size (fun _ => False) x cs := fun W x cs h => by rw [kA_open h]; exact kA_mkM _ _ _ x
    have inf : (Try.prog.info? 60).map (fun i => (i.zero, i.size, i.bytes)) = some (some (.agg #[.string ⟨#[]⟩, .int .i64 0]), 2, 24) := by kernel_rfl
    have INF := Lib.hid inf
    have HO4 := Lib.hid hO4; have HB4 := Lib.hid hb4; have HC4 := Lib.hid hC4; have HKM := Lib.hid hKM
    clear hO4 hb4 hC4 hKM inf hl
    go_enter Try.func45, Try.ntmps45
    go_wp2_with (at_builtin; (refine Kd.R_append_rows kA (w0 := w) w.heap.size rfl (.tmp 5) (.tmp 6) 22 60 (.agg #[.string ⟨#[]⟩, .int .i64 0]) 24 rfl Try.underlying22 INF.out rfl (by decide) (by decide) (.slice (some ⟨w.heap.size, 0, none⟩) 0 0) [] l (some ad) l.length c (fun _ => True) (fun _ => False) rfl rfl HO4.out HC4.out (HKM.out _) (fun _ hk => hk.elim) (fun _ _ => trivial) HB4.out hle4 hlen ?_); intro v1 w5 ho hb hg hat; obtain ⟨Av, cv, rfl⟩ := Kd.R_slice ho)
    rw [List.nil_append] at ho
    go_ret
    exact ⟨Av, cv, rfl, ho, hb⟩
set_option maxHeartbeats 4000000 in
set_option maxRecDepth 100000 in
theorem cloneS (A : Option Addr) (c : Nat) (l : List Sym) (hm : l.length ≤ 900) (w : World) (hl : Kd.C kS w A l.length l) :
    Calls Try.prog 46 #[.slice A l.length c] w fun e w' => ∃ B d, e = .returned (.slice B l.length d) ∧ Kd.R kS 41 w' w.heap.size (fun _ => True) (.slice B l.length d) l ∧ Below w.heap.size w w' := by
  cases A with
  | none =>
    have h0 : l = [] := by
      cases l with
      | nil => rfl
      | cons x l => obtain ⟨ad, e, _⟩ := hl.2.2 (by simp); cases e
    subst h0
    have qe := fun w : World => Lib.run_eql_slice_nil (P := Try.prog) w 23 41 none 0 c 0 0 Try.underlying23
    simp only [Option.isNone_none] at qe
    clear hl
    go_enter Try.func46, Try.ntmps46
    go_wp2_with fail
    go_ret
    exact ⟨none, 0, rfl, Kd.R_nil _ _ _ _ _, Below.refl _ _⟩
  | some ad =>
    have qe := fun w : World => Lib.run_eql_slice_nil (P := Try.prog) w 23 41 (some ad) l.length c 0 0 Try.underlying23
    simp only [Option.isNone_some] at qe
    have hO4 : Kd.R kS 41 (w.alloc (.cells #[] 41)) w.heap.size (fun _ => True) (.slice (some ⟨w.heap.size, 0, none⟩) 0 0) [] := ⟨fun _ _ => trivial, [], ⟨rfl, .inr ⟨w.heap.size, 0, #[], rfl, Nat.le_refl _, Blk.new w 41 #[], Nat.le_refl _, by decide, rfl, rfl⟩⟩, Reps.none _ _⟩
    have hb4 := (Below.refl w.heap.size w).alloc (Nat.le_refl _) (.cells #[] 41)
    have hC4 := Kd.C_below hl hb4
    have hlen : (([] : List Sym).length + l.length) * 64 ≤ 140737488355328 := by simp; omega
    have hle4 : w.heap.size ≤ (w.alloc (.cells #[] 41)).heap.size := by simp
    have hKM : ∀ (W : World) (x : Sym) cs, kS.K W x cs → kS.M W w.heap.size (fun _ => False) x cs := fun W x cs h => by rw [kS_open h]; exact kS_mkM _ _ _ x
    have inf : (Try.prog.info? 41).map (fun i => (i.zero, i.size, i.bytes)) = some (some (.agg #[.string ⟨#[]⟩, .int .i64 0, .int .i64 0, .int .i64 0, .int .i64 0, .int .i64 0, .int .i64 0]), 7, 64) := by kernel_rfl
    have INF := Lib.hid inf
    have HO4 := Lib.hid hO4; have HB4 := Lib.hid hb4; have HC4 := Lib.hid hC4; have HKM := Lib.hid hKM
    clear hO4 hb4 hC4 hKM inf hl
    go_enter Try.func46, Try.ntmps46
    go_wp2_with (at_builtin; (refine Kd.R_append_rows kS (w0 := w) w.heap.size rfl (.tmp 5) (.tmp 6) 23 41 (.agg #[.string ⟨#[]⟩, .int .i64 0, .int .i64 0, .int .i64 0, .int .i64 0, .int .i64 0, .int .i64 0]) 64 rfl Try.underlying23 INF.out rfl (by decide) (by decide) (.slice (some ⟨w.heap.size, 0, none⟩) 0 0) [] l (some ad) l.length c (fun _ => True) (fun _ => False) rfl rfl HO4.out HC4.out (HKM.out _) (fun _ hk => hk.elim) (fun _ _ => trivial) HB4.out hle4 hlen ?_); intro v1 w5 ho hb hg hat; obtain ⟨Av, cv, rfl⟩ := Kd.R_slice ho)
    rw [List.nil_append] at ho
    go_ret
    exact ⟨Av, cv, rfl, ho, hb⟩
set_option maxHeartbeats 4000000 in
set_option maxRecDepth 100000 in
theorem cloneV (A : Option Addr) (c : Nat) (l : List Ven) (hm : l.length ≤ 900) (w : World) (hl : Kd.C kV w A l.length l) :
    Calls Try.prog 47 #[.slice A l.length c] w fun e w' => ∃ B d, e = .returned (.slice B l.length d) ∧ Kd.R kV 62 w' w.heap.size (fun _ => True) (.slice B l.length d) l ∧ Below w.heap.size w w' := by
  cases A with
  | none =>
    have h0 : l = [] := by
      cases l with
      | nil => rfl
      | cons x l => obtain ⟨ad, e, _⟩ := hl.2.2 (by simp); cases e
    subst h0
    have qe := fun w : World => Lib.run_eql_slice_nil (P := Try.prog) w 24 62 none 0 c 0 0 Try.underlying24
    simp only [Option.isNone_none] at qe
    clear hl
    go_enter Try.func47, Try.ntmps47
    go_wp2_with fail
    go_ret
    exact ⟨none, 0, rfl, Kd.R_nil _ _ _ _ _, Below.refl _ _⟩
  | some ad =>
    have qe := fun w : World => Lib.run_eql_slice_nil (P := Try.prog) w 24 62 (some ad) l.length c 0 0 Try.underlying24
    simp only [Option.isNone_some] at qe
    have hO4 : Kd.R kV 62 (w.alloc (.cells #[] 62)) w.heap.size (fun _ => True) (.slice (some ⟨w.heap.size, 0, none⟩) 0 0) [] := ⟨fun _ _ => trivial, [], ⟨rfl, .inr ⟨w.heap.size, 0, #[], rfl, Nat.le_refl _, Blk.new w 62 #[], Nat.le_refl _, by decide, rfl, rfl⟩⟩, Reps.none _ _⟩
    have hb4 := (Below.refl w.heap.size w).alloc (Nat.le_refl _) (.cells #[] 62)
    have hC4 := Kd.C_below hl hb4
    have hlen : (([] : List Ven).length + l.length) * 48 ≤ 140737488355328 := by simp; omega
    have hle4 : w.heap.size ≤ (w.alloc (.cells #[] 62)).heap.size := by simp
    have hKM : ∀ (W : World) (x : Ven) cs, kV.K W x cs → kV.M W w.heap.size (fun _ => False) x cs := fun W x cs h => by rw [kV_open h]; exact kV_mkM _ _ _ x
    have inf : (Try.prog.info? 62).map (fun i => (i.zero, i.size, i.bytes)) = some (some (.agg #[.string ⟨#[]⟩, .int .i64 0, .int .i64 0, .int .i64 0, .bool false]), 5, 48) := by kernel_rfl
    have INF := Lib.hid inf
    have HO4 := Lib.hid hO4; have HB4 := Lib.hid hb4; have HC4 := Lib.hid hC4; have HKM := Lib.hid hKM
    clear hO4 hb4 hC4 hKM inf hl
    go_enter Try.func47, Try.ntmps47
    go_wp2_with (at_builtin; (refine Kd.R_append_rows kV (w0 := w) w.heap.size rfl (.tmp 5) (.tmp 6) 24 62 (.agg #[.string ⟨#[]⟩, .int .i64 0, .int .i64 0, .int .i64 0, .bool false]) 48 rfl Try.underlying24 INF.out rfl (by decide) (by decide) (.slice (some ⟨w.heap.size, 0, none⟩) 0 0) [] l (some ad) l.length c (fun _ => True) (fun _ => False) rfl rfl HO4.out HC4.out (HKM.out _) (fun _ hk => hk.elim) (fun _ _ => trivial) HB4.out hle4 hlen ?_); intro v1 w5 ho hb hg hat; obtain ⟨Av, cv, rfl⟩ := Kd.R_slice ho)
    rw [List.nil_append] at ho
    go_ret
    exact ⟨Av, cv, rfl, ho, hb⟩
/-- Are the sizes right? -/
def sizB (p1 p2 p3 p4 p5 p6 : Int) : Bool := btw p1 1 64 && btw p2 1 256 && btw p3 1 4096 && btw p4 1 1073741824 && btw p5 1 1024 && btw p6 2 1024
set_option maxHeartbeats 4000000 in
set_option maxRecDepth 100000 in
theorem sizes_walk (v1 v2 v3 : Value) (p1 p2 p3 p4 p5 p6 : Int) (w : World) :
    Calls Try.prog 37 #[.agg (setC v1 v2 v3 p1 p2 p3 p4 p5 p6)] w fun e w' => e = .returned (.bool (sizB p1 p2 p3 p4 p5 p6)) ∧ Below w.heap.size w w' := by
  have hO := Blk.new w 26 (setC v1 v2 v3 p1 p2 p3 p4 p5 p6)
  have hB := (Below.refl w.heap.size w).alloc (Nat.le_refl _) (.cells (setC v1 v2 v3 p1 p2 p3 p4 p5 p6) 26)
  obtain ⟨v, hv⟩ : ∃ v, v = sizB p1 p2 p3 p4 p5 p6 := ⟨_, rfl⟩
  rw [← hv]
  have HV := Lib.hid hv
  clear hv
  have HW := Lib.hid (fun (a lo hi : Int) (w : World) => within15_btw a lo hi w)
  go_enter Try.func37, Try.ntmps37
  go_wp2_with fail
  generalize w.alloc (.cells (setC v1 v2 v3 p1 p2 p3 p4 p5 p6) 26) = u0 at *
  have y3 : u0.cell? ⟨w.heap.size, 3, none⟩ = some (.int .i64 p1) := hO.cell 3
  go_wp2_with fail
  clear y3
  with_reducible refine (HW.out _ _ _ _).mono ?_
  rintro e u1 ⟨rfl, hb9⟩
  replace hO := Blk.on hO hb9
  replace hB := bt hB hb9
  clear hb9
  cases hc0 : btw p1 1 64 with
  | false =>
    have hvf : v = false := HV.out.trans (by unfold sizB; simp [hc0])
    go_wp2_with fail
    go_ret
    exact ⟨by subst hvf; rfl, hB⟩
  | true =>
    have y4 : u1.cell? ⟨w.heap.size, 4, none⟩ = some (.int .i64 p2) := hO.cell 4
    go_wp2_with fail
    clear y4
    with_reducible refine (HW.out _ _ _ _).mono ?_
    rintro e u2 ⟨rfl, hb9⟩
    replace hO := Blk.on hO hb9
    replace hB := bt hB hb9
    clear hb9
    cases hc1 : btw p2 1 256 with
    | false =>
      have hvf : v = false := HV.out.trans (by unfold sizB; simp [hc1])
      go_wp2_with fail
      go_ret
      exact ⟨by subst hvf; rfl, hB⟩
    | true =>
      have y5 : u2.cell? ⟨w.heap.size, 5, none⟩ = some (.int .i64 p3) := hO.cell 5
      go_wp2_with fail
      clear y5
      with_reducible refine (HW.out _ _ _ _).mono ?_
      rintro e u3 ⟨rfl, hb9⟩
      replace hO := Blk.on hO hb9
      replace hB := bt hB hb9
      clear hb9
      cases hc2 : btw p3 1 4096 with
      | false =>
        have hvf : v = false := HV.out.trans (by unfold sizB; simp [hc2])
        go_wp2_with fail
        go_ret
        exact ⟨by subst hvf; rfl, hB⟩
      | true =>
        have y6 : u3.cell? ⟨w.heap.size, 6, none⟩ = some (.int .i64 p4) := hO.cell 6
        go_wp2_with fail
        clear y6
        with_reducible refine (HW.out _ _ _ _).mono ?_
        rintro e u4 ⟨rfl, hb9⟩
        replace hO := Blk.on hO hb9
        replace hB := bt hB hb9
        clear hb9
        cases hc3 : btw p4 1 1073741824 with
        | false =>
          have hvf : v = false := HV.out.trans (by unfold sizB; simp [hc3])
          go_wp2_with fail
          go_ret
          exact ⟨by subst hvf; rfl, hB⟩
        | true =>
          have y7 : u4.cell? ⟨w.heap.size, 7, none⟩ = some (.int .i64 p5) := hO.cell 7
          go_wp2_with fail
          clear y7
          with_reducible refine (HW.out _ _ _ _).mono ?_
          rintro e u5 ⟨rfl, hb9⟩
          replace hO := Blk.on hO hb9
          replace hB := bt hB hb9
          clear hb9
          cases hc4 : btw p5 1 1024 with
          | false =>
            have hvf : v = false := HV.out.trans (by unfold sizB; simp [hc4])
            go_wp2_with fail
            go_ret
            exact ⟨by subst hvf; rfl, hB⟩
          | true =>
            have y8 : u5.cell? ⟨w.heap.size, 8, none⟩ = some (.int .i64 p6) := hO.cell 8
            go_wp2_with fail
            clear y8
            with_reducible refine (HW.out _ _ _ _).mono ?_
            rintro e u6 ⟨rfl, hb9⟩
            replace hO := Blk.on hO hb9
            replace hB := bt hB hb9
            clear hb9
            cases hc5 : btw p6 2 1024 with
            | false =>
              have hvf : v = false := HV.out.trans (by unfold sizB; simp [hc5])
              go_wp2_with fail
              go_ret
              exact ⟨by subst hvf; rfl, hB⟩
            | true =>
              have hvt : v = true := HV.out.trans (by unfold sizB; rw [hc0, hc1, hc2, hc3, hc4, hc5]; rfl)
              go_wp2_with fail
              go_ret
              exact ⟨by subst hvt; rfl, hB⟩
/-- Is a setup right? -/
def chkS (l1 : List Acc) (l2 : List Sym) (l3 : List Ven) (p1 p2 p3 p4 p5 p6 : Int) : Bool := (diffS (l1.map (·.1)) 16 && l1.all accB) && ((diffS (l2.map (·.1)) 16 && l2.all symB) && ((diffS (l3.map (·.1)) 8 && l3.all venB) && sizB p1 p2 p3 p4 p5 p6))
set_option maxHeartbeats 8000000 in
set_option maxRecDepth 100000 in
theorem check_walk (A1 A2 A3 : Option Addr) (c1 c2 c3 : Nat) (l1 : List Acc) (l2 : List Sym) (l3 : List Ven) (p1 p2 p3 p4 p5 p6 : Int) (w : World) (hm1 : l1.length ≤ 900) (hm2 : l2.length ≤ 900) (hm3 : l3.length ≤ 900)
    (h1 : Kd.C kA w A1 l1.length l1) (h2 : Kd.C kS w A2 l2.length l2) (h3 : Kd.C kV w A3 l3.length l3) (s1 : ∀ x ∈ l1, x.1.size ≤ 1000) (s2 : ∀ x ∈ l2, x.1.size ≤ 1000) (s3 : ∀ x ∈ l3, x.1.size ≤ 1000) :
    Calls Try.prog 11 #[.agg (setC (.slice A1 l1.length c1) (.slice A2 l2.length c2) (.slice A3 l3.length c3) p1 p2 p3 p4 p5 p6)] w fun e w' => e = .returned (.int .i64 (if chkS l1 l2 l3 p1 p2 p3 p4 p5 p6 then 0 else 150)) ∧ Below w.heap.size w w' := by
  have hO := Blk.new w 26 (setC (.slice A1 l1.length c1) (.slice A2 l2.length c2) (.slice A3 l3.length c3) p1 p2 p3 p4 p5 p6)
  have hB := (Below.refl w.heap.size w).alloc (Nat.le_refl _) (.cells (setC (.slice A1 l1.length c1) (.slice A2 l2.length c2) (.slice A3 l3.length c3) p1 p2 p3 p4 p5 p6) 26)
  have H0 := Lib.hid (fun w' (b : Below w.heap.size w w') => accounts_walk A1 A2 A3 c1 c2 c3 l2.length l3.length l1 p1 p2 p3 p4 p5 p6 w' hm1 (Kd.C_below h1 b) s1)
  have H1 := Lib.hid (fun w' (b : Below w.heap.size w w') => symbols_walk A1 A2 A3 c1 c2 c3 l1.length l3.length l2 p1 p2 p3 p4 p5 p6 w' hm2 (Kd.C_below h2 b) s2)
  have H2 := Lib.hid (fun w' (b : Below w.heap.size w w') => venues_walk A1 A2 A3 c1 c2 c3 l1.length l2.length l3 p1 p2 p3 p4 p5 p6 w' hm3 (Kd.C_below h3 b) s3)
  have H3 := Lib.hid (fun w' => sizes_walk (.slice A1 l1.length c1) (.slice A2 l2.length c2) (.slice A3 l3.length c3) p1 p2 p3 p4 p5 p6 w')
  unfold chkS
  generalize (diffS (l1.map (·.1)) 16 && l1.all accB) = b0 at *
  generalize (diffS (l2.map (·.1)) 16 && l2.all symB) = b1 at *
  generalize (diffS (l3.map (·.1)) 8 && l3.all venB) = b2 at *
  generalize sizB p1 p2 p3 p4 p5 p6 = b3 at *
  clear h1 h2 h3 s1 s2 s3
  generalize (.slice A1 l1.length c1 : Value) = q1 at *
  generalize (.slice A2 l2.length c2 : Value) = q2 at *
  generalize (.slice A3 l3.length c3 : Value) = q3 at *
  obtain ⟨v, hv⟩ : ∃ v : Int, v = (if (b0 && (b1 && (b2 && b3))) then 0 else 150) := ⟨_, rfl⟩
  rw [← hv]
  have HV := Lib.hid hv
  clear hv
  go_enter Try.func11, Try.ntmps11
  go_wp2_with fail
  have hF := Blk.new (w.alloc (.cells (setC q1 q2 q3 p1 p2 p3 p4 p5 p6) 26)) 28 #[.func (.func 34) #[] #[], .func (.func 35) #[] #[], .func (.func 36) #[] #[], .func (.func 37) #[] #[]]
  have hb2 := (Below.refl (w.alloc (.cells (setC q1 q2 q3 p1 p2 p3 p4 p5 p6) 26)).heap.size (w.alloc (.cells (setC q1 q2 q3 p1 p2 p3 p4 p5 p6) 26))).alloc (Nat.le_refl _) (.cells #[.func (.func 34) #[] #[], .func (.func 35) #[] #[], .func (.func 36) #[] #[], .func (.func 37) #[] #[]] 28)
  rw [show (w.alloc (.cells (setC q1 q2 q3 p1 p2 p3 p4 p5 p6) 26)).heap.size = w.heap.size + 1 from Array.size_push ..] at hF
  replace hO := Blk.on hO hb2
  replace hB := bt hB hb2
  clear hb2
  generalize (w.alloc (.cells (setC q1 q2 q3 p1 p2 p3 p4 p5 p6) 26)).alloc (.cells #[.func (.func 34) #[] #[], .func (.func 35) #[] #[], .func (.func 36) #[] #[], .func (.func 37) #[] #[]] 28) = u0 at *
  go_loopw [7] (fun i wr => ∃ k : Nat, k ≤ 4 ∧ i = .int .i64 k ∧ Below w.heap.size w wr ∧ Blk wr w.heap.size 26 (setC q1 q2 q3 p1 p2 p3 p4 p5 p6) ∧ Blk wr (w.heap.size + 1) 28 #[.func (.func 34) #[] #[], .func (.func 35) #[] #[], .func (.func 36) #[] #[], .func (.func 37) #[] #[]] ∧ Hid ((0 < k → b0 = true) ∧ (1 < k → b1 = true) ∧ (2 < k → b2 = true) ∧ (3 < k → b3 = true))) (fun i _ => 4 - (intOf i).toNat)
  case atStart => exact ⟨0, by omega, rfl, hB, hO, hF, Lib.hid ⟨fun h => by omega, fun h => by omega, fun h => by omega, fun h => by omega⟩⟩
  case round =>
    clear hB hO hF
    obtain ⟨k, hk, rfl, hB, hO, hF, HJ⟩ := hrel
    have y0 : wr.cell? ⟨w.heap.size, 0, none⟩ = some (q1) := hO.cell 0
    have y1 : wr.cell? ⟨w.heap.size, 1, none⟩ = some (q2) := hO.cell 1
    have y2 : wr.cell? ⟨w.heap.size, 2, none⟩ = some (q3) := hO.cell 2
    have y3 : wr.cell? ⟨w.heap.size, 3, none⟩ = some (.int .i64 p1) := hO.cell 3
    have y4 : wr.cell? ⟨w.heap.size, 4, none⟩ = some (.int .i64 p2) := hO.cell 4
    have y5 : wr.cell? ⟨w.heap.size, 5, none⟩ = some (.int .i64 p3) := hO.cell 5
    have y6 : wr.cell? ⟨w.heap.size, 6, none⟩ = some (.int .i64 p4) := hO.cell 6
    have y7 : wr.cell? ⟨w.heap.size, 7, none⟩ = some (.int .i64 p5) := hO.cell 7
    have y8 : wr.cell? ⟨w.heap.size, 8, none⟩ = some (.int .i64 p6) := hO.cell 8
    have hk5 : k = 0 ∨ k = 1 ∨ k = 2 ∨ k = 3 ∨ k = 4 := by omega
    rcases hk5 with rfl | rfl | rfl | rfl | rfl
    · have z0 : wr.cell? ⟨w.heap.size + 1, 0, none⟩ = some (.func (.func 34) #[] #[]) := hF.cell 0
      go_wp2_with fail
      refine (H0.out wr hB).mono ?_
      rintro e w3 ⟨rfl, bb⟩
      have hB3 := bt hB bb
      have hO3 := Blk.on hO bb
      have hF3 := Blk.on hF bb
      clear hB hO hF bb y0 y1 y2 y3 y4 y5 y6 y7 y8 z0 H0 H1 H2 H3
      cases hb : b0 with
      | false =>
        have hvf := HV.out.trans (show _ = (150 : Int) by rw [hb]; simp)
        go_wp2_with fail
        go_ret
        exact ⟨by subst hvf; rfl, hB3⟩
      | true =>
        go_wp2_with fail
        go_roundw
        case rel => exact ⟨1, by omega, by go_num, hB3, hO3, hF3, Lib.hid ⟨fun h => by first | exact hb | exact HJ.out.1 (by omega), fun h => by first | omega | exact hb | exact HJ.out.2.1 (by omega), fun h => by first | omega | exact hb | exact HJ.out.2.2.1 (by omega), fun h => by first | omega | exact hb | exact HJ.out.2.2.2 (by omega)⟩⟩
        case measure => simp only [intOf]; omega
    · have z1 : wr.cell? ⟨w.heap.size + 1, 1, none⟩ = some (.func (.func 35) #[] #[]) := hF.cell 1
      go_wp2_with fail
      refine (H1.out wr hB).mono ?_
      rintro e w3 ⟨rfl, bb⟩
      have hB3 := bt hB bb
      have hO3 := Blk.on hO bb
      have hF3 := Blk.on hF bb
      clear hB hO hF bb y0 y1 y2 y3 y4 y5 y6 y7 y8 z1 H0 H1 H2 H3
      cases hb : b1 with
      | false =>
        have hvf := HV.out.trans (show _ = (150 : Int) by rw [hb]; simp)
        go_wp2_with fail
        go_ret
        exact ⟨by subst hvf; rfl, hB3⟩
      | true =>
        go_wp2_with fail
        go_roundw
        case rel => exact ⟨2, by omega, by go_num, hB3, hO3, hF3, Lib.hid ⟨fun h => by first | exact hb | exact HJ.out.1 (by omega), fun h => by first | omega | exact hb | exact HJ.out.2.1 (by omega), fun h => by first | omega | exact hb | exact HJ.out.2.2.1 (by omega), fun h => by first | omega | exact hb | exact HJ.out.2.2.2 (by omega)⟩⟩
        case measure => simp only [intOf]; omega
    · have z2 : wr.cell? ⟨w.heap.size + 1, 2, none⟩ = some (.func (.func 36) #[] #[]) := hF.cell 2
      go_wp2_with fail
      refine (H2.out wr hB).mono ?_
      rintro e w3 ⟨rfl, bb⟩
      have hB3 := bt hB bb
      have hO3 := Blk.on hO bb
      have hF3 := Blk.on hF bb
      clear hB hO hF bb y0 y1 y2 y3 y4 y5 y6 y7 y8 z2 H0 H1 H2 H3
      cases hb : b2 with
      | false =>
        have hvf := HV.out.trans (show _ = (150 : Int) by rw [hb]; simp)
        go_wp2_with fail
        go_ret
        exact ⟨by subst hvf; rfl, hB3⟩
      | true =>
        go_wp2_with fail
        go_roundw
        case rel => exact ⟨3, by omega, by go_num, hB3, hO3, hF3, Lib.hid ⟨fun h => by first | exact hb | exact HJ.out.1 (by omega), fun h => by first | omega | exact hb | exact HJ.out.2.1 (by omega), fun h => by first | omega | exact hb | exact HJ.out.2.2.1 (by omega), fun h => by first | omega | exact hb | exact HJ.out.2.2.2 (by omega)⟩⟩
        case measure => simp only [intOf]; omega
    · have z3 : wr.cell? ⟨w.heap.size + 1, 3, none⟩ = some (.func (.func 37) #[] #[]) := hF.cell 3
      go_wp2_with fail
      refine (H3.out wr).mono ?_
      rintro e w3 ⟨rfl, bb⟩
      have hB3 := bt hB bb
      have hO3 := Blk.on hO bb
      have hF3 := Blk.on hF bb
      clear hB hO hF bb y0 y1 y2 y3 y4 y5 y6 y7 y8 z3 H0 H1 H2 H3
      cases hb : b3 with
      | false =>
        have hvf := HV.out.trans (show _ = (150 : Int) by rw [hb]; simp)
        go_wp2_with fail
        go_ret
        exact ⟨by subst hvf; rfl, hB3⟩
      | true =>
        go_wp2_with fail
        go_roundw
        case rel => exact ⟨4, by omega, by go_num, hB3, hO3, hF3, Lib.hid ⟨fun h => by first | exact hb | exact HJ.out.1 (by omega), fun h => by first | omega | exact hb | exact HJ.out.2.1 (by omega), fun h => by first | omega | exact hb | exact HJ.out.2.2.1 (by omega), fun h => by first | omega | exact hb | exact HJ.out.2.2.2 (by omega)⟩⟩
        case measure => simp only [intOf]; omega
    · have hvt := HV.out.trans (show _ = (0 : Int) by rw [HJ.out.1 (by omega), HJ.out.2.1 (by omega), HJ.out.2.2.1 (by omega), HJ.out.2.2.2 (by omega)]; rfl)
      clear H0 H1 H2 H3
      go_wp2_with fail
      go_ret
      exact ⟨by subst hvt; rfl, hB⟩
end Go.Proofs.Ytbhbnefifgdioaa.Hand

