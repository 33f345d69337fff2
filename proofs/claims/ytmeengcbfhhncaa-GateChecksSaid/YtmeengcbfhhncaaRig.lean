/- The document's Right, walked: it says yes or no; if yes, each symbol is right. -/
import Derived.Test.YtmeengcbfhhncaaPla
import Derived.Test.YtmeengcbfhhncaaPl02k
import Derived.Test.YtmeengcbfhhncaaKx11
set_option linter.unusedVariables false
set_option linter.unusedSimpArgs false
namespace Go.Proofs.Ytmeengcbfhhncaa.Hand
open Go Go.RowKit Go.Proofs.YtmeengcbfhhncaaW.PrintWords Go.Proofs.YtmeengcbfhhncaaW.PrintMore Go.Proofs.YtmeengcbfhhncaaW.PrintLast Go.Proofs.Ytmeengcbfhhncaa.RL Go.Proofs.Ytmeengcbfhhncaa.PL Go.Proofs.Ytmeengcbfhhncaa.K
theorem Blk.on {w w' : World} {g : Nat} {t : TypeId} {cs : Array Value} (h : Blk w g t cs) (hb : Below w.heap.size w w') : Blk w' g t cs := h.below hb h.lt
theorem in15 (a lo hi : Int) (w : World) : Calls Try.prog 29 #[.int .i64 a, .int .i64 lo, .int .i64 hi] w fun e w' => e = .returned (.bool (decide (lo ≤ a) && decide (a ≤ hi))) ∧ ∃ m, w' = w.drewN m := by
  go_enter Try.func29, Try.ntmps29
  by_cases h : lo ≤ a
  · go_wp2_with fail
    go_ret
    exact ⟨by simp [h], 0, rfl⟩
  · go_wp2_with fail
    go_ret
    exact ⟨by simp; omega, 0, rfl⟩
theorem in15b (a lo hi : Int) (w : World) : Calls Try.prog 29 #[.int .i64 a, .int .i64 lo, .int .i64 hi] w (AnyB w) := by
  refine (in15 a lo hi w).mono ?_
  rintro e w' ⟨rfl, m, rfl⟩
  exact AnyB.mk _ (pw_below_drewN (Below.refl _ _) m)
theorem at_T {w : World} {A : Option Addr} {n : Nat} {xs : List ByteArray} (h : Kd.C Kd.string w A n xs) (i : Nat) (h1 : i < n) (hl : xs.length = n) : ∃ ad, A = some ad ∧ w.cell? (ad.add i) = some (.string (xs[i]'(by omega))) := by
  obtain ⟨ad, c, e, _, hK, hc0⟩ := Kd.C_get h ⟨#[]⟩ (i : Int) (by omega) (by omega)
  simp only [Int.toNat_natCast] at hc0 hK
  have e2 : xs.getD i ⟨#[]⟩ = xs[i]'(by omega) := by simp [show i < xs.length by omega]
  rw [e2] at hK
  have hK' : c = [.string (xs[i]'(by omega))] := hK
  rw [hK'] at hc0
  have := hc0 0 _ rfl
  rw [show Kd.string.sz = 1 from rfl, Nat.mul_one, Nat.add_zero] at this
  exact ⟨ad, e, this⟩
set_option maxHeartbeats 4000000 in
set_option maxRecDepth 100000 in
theorem names_walk (A : Option Addr) (c n : Nat) (xs : List ByteArray) (m : Int) (w : World) (hn : xs.length = n) (hm : n ≤ 900) (hx : Kd.C Kd.string w A n xs) (hs : ∀ s ∈ xs, s.size ≤ 1000) :
    Calls Try.prog 25 #[.slice A n c, .int .i64 m] w (AnyB w) := by
  have HX := Lib.hid hx
  clear hx
  go_enter Try.func25, Try.ntmps25
  go_wp2_with fail
  go_loopw [5] (fun i wr => ∃ k : Nat, k ≤ n ∧ i = .int .i64 k ∧ Below w.heap.size w wr) (fun i _ => n - (intOf i).toNat)
  case atStart => exact ⟨0, Nat.zero_le _, rfl, Below.refl _ _⟩
  case round =>
    obtain ⟨k, hk, rfl, hB⟩ := hrel
    by_cases hlt : k < n
    · obtain ⟨ad, rfl, hcell⟩ := at_T (Kd.C_below HX.out hB) k hlt hn
      have hv := valid_walk xs[k] (hs _ (List.getElem_mem _)) wr
      obtain ⟨s, hsk⟩ : ∃ s, s = xs[k]'(by omega) := ⟨_, rfl⟩
      rw [← hsk] at hcell hv
      have HV := Lib.hid hv
      have HS := Lib.hid hsk
      clear hv hsk
      go_wp2_with fail
      with_reducible refine HV.out.mono ?_
      rintro e w1 ⟨b, rfl, hb1⟩
      cases b with
      | false =>
        go_wp2_with fail
        go_ret
        exact AnyB.mk _ (bt hB hb1)
      | true =>
        have hB1 := bt hB hb1
        clear hB hb1 HV hcell
        go_wp2_with fail
        go_loopw [6] (fun i wq => ∃ j : Nat, j ≤ k ∧ i = .int .i64 j ∧ Below w.heap.size w wq) (fun i _ => k - (intOf i).toNat)
        case atStart => exact ⟨0, Nat.zero_le _, rfl, hB1⟩
        case round =>
          clear hB1
          obtain ⟨j, hj, rfl, hB⟩ := hrel
          by_cases hlt2 : j < k
          · obtain ⟨ad', e1, c1⟩ := at_T (Kd.C_below HX.out hB) k hlt hn
            obtain rfl : ad = ad' := by injection e1
            obtain ⟨ad', e2, c2⟩ := at_T (Kd.C_below HX.out hB) j (by omega) hn
            obtain rfl : ad = ad' := by injection e2
            rw [← HS.out] at c1
            generalize xs[j]'(by omega) = u at c2
            go_wp2_with fail
            go_quiet (fail)
            go_wp2_with fail
            all_goals first
              | exact ⟨⟨j + 1, by omega, by go_num, pw_below_drewN hB _⟩, by simp only [intOf]; omega⟩
              | (go_ret; exact AnyB.mk _ (pw_below_drewN hB _))
          · go_wp2_with fail
            go_roundw
            case rel => exact ⟨k + 1, by omega, by go_num, hB⟩
            case measure => simp only [intOf]; omega
    · have hI := fun w => in15b (n : Int) 1 m w
      have HI := Lib.hid hI
      clear hI
      go_wp2_with fail
      with_reducible refine (HI.out _).mono ?_
      rintro e w1 ⟨b, rfl, hb1⟩
      go_wp2_with fail
      go_ret
      exact AnyB.mk _ (bt hB hb1)
set_option maxHeartbeats 4000000 in
set_option maxRecDepth 100000 in
theorem namesA (A1 A2 A3 : Option Addr) (c1 c2 c3 n1 n2 n3 : Nat) (l : List Acc) (p1 p2 p3 p4 p5 p6 : Int) (w : World) (hn : l.length = n1) (hm : n1 ≤ 900) (hx : Kd.C kA w A1 n1 l) :
    Calls Try.prog 26 #[.agg (setC (.slice A1 n1 c1) (.slice A2 n2 c2) (.slice A3 n3 c3) p1 p2 p3 p4 p5 p6)] w fun e w' => ∃ B d, e = .returned (.slice B n1 d) ∧ Kd.C Kd.string w' B n1 (l.map (·.1)) ∧ Below w.heap.size w w' := by
  have HX := Lib.hid hx
  have hb := Blk.new w 50 (setC (.slice A1 n1 c1) (.slice A2 n2 c2) (.slice A3 n3 c3) p1 p2 p3 p4 p5 p6)
  have hb0 := (Below.refl w.heap.size w).alloc (Nat.le_refl _) (.cells (setC (.slice A1 n1 c1) (.slice A2 n2 c2) (.slice A3 n3 c3) p1 p2 p3 p4 p5 p6) 50)
  have inf : (Try.prog.info? 9).map (fun i => (i.zero, i.size, i.bytes)) = some (some (.string ⟨#[]⟩), 1, 16) := by kernel_rfl
  have INF := Lib.hid inf
  clear hx inf
  go_enter Try.func26, Try.ntmps26
  go_wp2_with fail
  generalize w.alloc (.cells (setC (.slice A1 n1 c1) (.slice A2 n2 c2) (.slice A3 n3 c3) p1 p2 p3 p4 p5 p6) 50) = w1 at *
  go_loopw [3, 4] (fun v i wr => ∃ k : Nat, k ≤ n1 ∧ i = .int .i64 k ∧ Blk wr w.heap.size 50 (setC (.slice A1 n1 c1) (.slice A2 n2 c2) (.slice A3 n3 c3) p1 p2 p3 p4 p5 p6) ∧ Below w.heap.size w wr ∧ Kd.R Kd.string 9 wr w.heap.size (fun _ => True) v ((l.take k).map (·.1))) (fun _ i _ => n1 - (intOf i).toNat)
  case atStart => exact ⟨0, Nat.zero_le _, rfl, hb, hb0, Kd.R_nil _ _ _ _ _⟩
  case round =>
    clear hb hb0
    obtain ⟨k, hk, rfl, hO, hB, hR⟩ := hrel
    have y0 : wr.cell? ⟨w.heap.size, 0, none⟩ = some (.slice A1 n1 c1) := hO.cell 0
    by_cases hlt : k < n1
    · obtain ⟨ad, rfl, hcell⟩ := at_A (Kd.C_below HX.out hB) k hlt
      have hkl : k < l.length := by rw [hn]; exact hlt
      have e1 : l.getD k zA = l[k] := by simp [hkl]
      have hs1 : (l.take (k + 1)).map (·.1) = (l.take k).map (·.1) ++ [l[k].1] := by rw [List.take_succ_eq_append_getElem hkl, List.map_append]; rfl
      rw [e1] at hcell
      have q0 : wr.cell? (ad.add (k * 2)) = some (.string l[k].1) := hcell 0 _ rfl
      clear hcell e1
      generalize l[k].1 = s at *
      have hlb : w.heap.size ≤ wr.heap.size := hB.size
      have htk : ((l.take k).map (·.1)).length ≤ 1000 := by rw [List.length_map, List.length_take]; omega
      have HR := Lib.hid hR; have HO := Lib.hid hO; have HB := Lib.hid hB
      clear hR hO hB
      obtain ⟨Av, cv, rfl⟩ := Kd.R_slice HR.out
      go_wp2_with (at_builtin; (refine Kd.R_append Kd.string (w0 := w) w.heap.size rfl (.tmp 12) (.tmp 19) 66 9 (.string ⟨#[]⟩) 16 rfl Try.underlying66 INF.out rfl (by decide) (by omega) (.slice Av ((l.take k).map (·.1)).length cv) ((l.take k).map (·.1)) s [.string s] (fun _ => True) (fun _ => False) rfl rfl rfl (fun _ hk => hk.elim) (fun _ _ => trivial) HR.out HB.out hlb (by omega) ?_); intro v' w7 ho hb7 hg hat; have h7 := HO.out.same (hg.block _ HO.out.lt (R_ne HR.out HO.out (by decide))); obtain ⟨Aq, cq, rfl⟩ := Kd.R_slice ho)
      rw [← hs1, show ((l.take (k + 1)).map (·.1)).length = k + 1 by rw [List.length_map, List.length_take]; omega] at ho
      go_roundw
      case rel => exact ⟨k + 1, by omega, by go_num, h7, hb7, ho⟩
      case measure => simp only [intOf]; omega
    · obtain rfl : n1 = k := by omega
      rw [List.take_of_length_le (by omega)] at hR
      obtain ⟨B, d, rfl⟩ := Kd.R_slice hR
      have hC := (Kd.R_reads' hR).2.2
      rw [List.length_map, hn] at hC
      rw [List.length_map, hn]
      go_wp2_with fail
      go_ret
      exact ⟨B, d, rfl, hC, hB⟩
set_option maxHeartbeats 4000000 in
set_option maxRecDepth 100000 in
theorem namesS (A1 A2 A3 : Option Addr) (c1 c2 c3 n1 n2 n3 : Nat) (l : List Sym) (p1 p2 p3 p4 p5 p6 : Int) (w : World) (hn : l.length = n2) (hm : n2 ≤ 900) (hx : Kd.C kS w A2 n2 l) :
    Calls Try.prog 27 #[.agg (setC (.slice A1 n1 c1) (.slice A2 n2 c2) (.slice A3 n3 c3) p1 p2 p3 p4 p5 p6)] w fun e w' => ∃ B d, e = .returned (.slice B n2 d) ∧ Kd.C Kd.string w' B n2 (l.map (·.1)) ∧ Below w.heap.size w w' := by
  have HX := Lib.hid hx
  have hb := Blk.new w 50 (setC (.slice A1 n1 c1) (.slice A2 n2 c2) (.slice A3 n3 c3) p1 p2 p3 p4 p5 p6)
  have hb0 := (Below.refl w.heap.size w).alloc (Nat.le_refl _) (.cells (setC (.slice A1 n1 c1) (.slice A2 n2 c2) (.slice A3 n3 c3) p1 p2 p3 p4 p5 p6) 50)
  have inf : (Try.prog.info? 9).map (fun i => (i.zero, i.size, i.bytes)) = some (some (.string ⟨#[]⟩), 1, 16) := by kernel_rfl
  have INF := Lib.hid inf
  clear hx inf
  go_enter Try.func27, Try.ntmps27
  go_wp2_with fail
  generalize w.alloc (.cells (setC (.slice A1 n1 c1) (.slice A2 n2 c2) (.slice A3 n3 c3) p1 p2 p3 p4 p5 p6) 50) = w1 at *
  go_loopw [3, 4] (fun v i wr => ∃ k : Nat, k ≤ n2 ∧ i = .int .i64 k ∧ Blk wr w.heap.size 50 (setC (.slice A1 n1 c1) (.slice A2 n2 c2) (.slice A3 n3 c3) p1 p2 p3 p4 p5 p6) ∧ Below w.heap.size w wr ∧ Kd.R Kd.string 9 wr w.heap.size (fun _ => True) v ((l.take k).map (·.1))) (fun _ i _ => n2 - (intOf i).toNat)
  case atStart => exact ⟨0, Nat.zero_le _, rfl, hb, hb0, Kd.R_nil _ _ _ _ _⟩
  case round =>
    clear hb hb0
    obtain ⟨k, hk, rfl, hO, hB, hR⟩ := hrel
    have y0 : wr.cell? ⟨w.heap.size, 1, none⟩ = some (.slice A2 n2 c2) := hO.cell 1
    by_cases hlt : k < n2
    · obtain ⟨ad, rfl, hcell⟩ := at_S (Kd.C_below HX.out hB) k hlt
      have hkl : k < l.length := by rw [hn]; exact hlt
      have e1 : l.getD k zS = l[k] := by simp [hkl]
      have hs1 : (l.take (k + 1)).map (·.1) = (l.take k).map (·.1) ++ [l[k].1] := by rw [List.take_succ_eq_append_getElem hkl, List.map_append]; rfl
      rw [e1] at hcell
      have q0 : wr.cell? (ad.add (k * 7)) = some (.string l[k].1) := hcell 0 _ rfl
      clear hcell e1
      generalize l[k].1 = s at *
      have hlb : w.heap.size ≤ wr.heap.size := hB.size
      have htk : ((l.take k).map (·.1)).length ≤ 1000 := by rw [List.length_map, List.length_take]; omega
      have HR := Lib.hid hR; have HO := Lib.hid hO; have HB := Lib.hid hB
      clear hR hO hB
      obtain ⟨Av, cv, rfl⟩ := Kd.R_slice HR.out
      go_wp2_with (at_builtin; (refine Kd.R_append Kd.string (w0 := w) w.heap.size rfl (.tmp 12) (.tmp 19) 66 9 (.string ⟨#[]⟩) 16 rfl Try.underlying66 INF.out rfl (by decide) (by omega) (.slice Av ((l.take k).map (·.1)).length cv) ((l.take k).map (·.1)) s [.string s] (fun _ => True) (fun _ => False) rfl rfl rfl (fun _ hk => hk.elim) (fun _ _ => trivial) HR.out HB.out hlb (by omega) ?_); intro v' w7 ho hb7 hg hat; have h7 := HO.out.same (hg.block _ HO.out.lt (R_ne HR.out HO.out (by decide))); obtain ⟨Aq, cq, rfl⟩ := Kd.R_slice ho)
      rw [← hs1, show ((l.take (k + 1)).map (·.1)).length = k + 1 by rw [List.length_map, List.length_take]; omega] at ho
      go_roundw
      case rel => exact ⟨k + 1, by omega, by go_num, h7, hb7, ho⟩
      case measure => simp only [intOf]; omega
    · obtain rfl : n2 = k := by omega
      rw [List.take_of_length_le (by omega)] at hR
      obtain ⟨B, d, rfl⟩ := Kd.R_slice hR
      have hC := (Kd.R_reads' hR).2.2
      rw [List.length_map, hn] at hC
      rw [List.length_map, hn]
      go_wp2_with fail
      go_ret
      exact ⟨B, d, rfl, hC, hB⟩
set_option maxHeartbeats 4000000 in
set_option maxRecDepth 100000 in
theorem namesV (A1 A2 A3 : Option Addr) (c1 c2 c3 n1 n2 n3 : Nat) (l : List Ven) (p1 p2 p3 p4 p5 p6 : Int) (w : World) (hn : l.length = n3) (hm : n3 ≤ 900) (hx : Kd.C kV w A3 n3 l) :
    Calls Try.prog 28 #[.agg (setC (.slice A1 n1 c1) (.slice A2 n2 c2) (.slice A3 n3 c3) p1 p2 p3 p4 p5 p6)] w fun e w' => ∃ B d, e = .returned (.slice B n3 d) ∧ Kd.C Kd.string w' B n3 (l.map (·.1)) ∧ Below w.heap.size w w' := by
  have HX := Lib.hid hx
  have hb := Blk.new w 50 (setC (.slice A1 n1 c1) (.slice A2 n2 c2) (.slice A3 n3 c3) p1 p2 p3 p4 p5 p6)
  have hb0 := (Below.refl w.heap.size w).alloc (Nat.le_refl _) (.cells (setC (.slice A1 n1 c1) (.slice A2 n2 c2) (.slice A3 n3 c3) p1 p2 p3 p4 p5 p6) 50)
  have inf : (Try.prog.info? 9).map (fun i => (i.zero, i.size, i.bytes)) = some (some (.string ⟨#[]⟩), 1, 16) := by kernel_rfl
  have INF := Lib.hid inf
  clear hx inf
  go_enter Try.func28, Try.ntmps28
  go_wp2_with fail
  generalize w.alloc (.cells (setC (.slice A1 n1 c1) (.slice A2 n2 c2) (.slice A3 n3 c3) p1 p2 p3 p4 p5 p6) 50) = w1 at *
  go_loopw [3, 4] (fun v i wr => ∃ k : Nat, k ≤ n3 ∧ i = .int .i64 k ∧ Blk wr w.heap.size 50 (setC (.slice A1 n1 c1) (.slice A2 n2 c2) (.slice A3 n3 c3) p1 p2 p3 p4 p5 p6) ∧ Below w.heap.size w wr ∧ Kd.R Kd.string 9 wr w.heap.size (fun _ => True) v ((l.take k).map (·.1))) (fun _ i _ => n3 - (intOf i).toNat)
  case atStart => exact ⟨0, Nat.zero_le _, rfl, hb, hb0, Kd.R_nil _ _ _ _ _⟩
  case round =>
    clear hb hb0
    obtain ⟨k, hk, rfl, hO, hB, hR⟩ := hrel
    have y0 : wr.cell? ⟨w.heap.size, 2, none⟩ = some (.slice A3 n3 c3) := hO.cell 2
    by_cases hlt : k < n3
    · obtain ⟨ad, rfl, hcell⟩ := at_V (Kd.C_below HX.out hB) k hlt
      have hkl : k < l.length := by rw [hn]; exact hlt
      have e1 : l.getD k zV = l[k] := by simp [hkl]
      have hs1 : (l.take (k + 1)).map (·.1) = (l.take k).map (·.1) ++ [l[k].1] := by rw [List.take_succ_eq_append_getElem hkl, List.map_append]; rfl
      rw [e1] at hcell
      have q0 : wr.cell? (ad.add (k * 5)) = some (.string l[k].1) := hcell 0 _ rfl
      clear hcell e1
      generalize l[k].1 = s at *
      have hlb : w.heap.size ≤ wr.heap.size := hB.size
      have htk : ((l.take k).map (·.1)).length ≤ 1000 := by rw [List.length_map, List.length_take]; omega
      have HR := Lib.hid hR; have HO := Lib.hid hO; have HB := Lib.hid hB
      clear hR hO hB
      obtain ⟨Av, cv, rfl⟩ := Kd.R_slice HR.out
      go_wp2_with (at_builtin; (refine Kd.R_append Kd.string (w0 := w) w.heap.size rfl (.tmp 12) (.tmp 19) 66 9 (.string ⟨#[]⟩) 16 rfl Try.underlying66 INF.out rfl (by decide) (by omega) (.slice Av ((l.take k).map (·.1)).length cv) ((l.take k).map (·.1)) s [.string s] (fun _ => True) (fun _ => False) rfl rfl rfl (fun _ hk => hk.elim) (fun _ _ => trivial) HR.out HB.out hlb (by omega) ?_); intro v' w7 ho hb7 hg hat; have h7 := HO.out.same (hg.block _ HO.out.lt (R_ne HR.out HO.out (by decide))); obtain ⟨Aq, cq, rfl⟩ := Kd.R_slice ho)
      rw [← hs1, show ((l.take (k + 1)).map (·.1)).length = k + 1 by rw [List.length_map, List.length_take]; omega] at ho
      go_roundw
      case rel => exact ⟨k + 1, by omega, by go_num, h7, hb7, ho⟩
      case measure => simp only [intOf]; omega
    · obtain rfl : n3 = k := by omega
      rw [List.take_of_length_le (by omega)] at hR
      obtain ⟨B, d, rfl⟩ := Kd.R_slice hR
      have hC := (Kd.R_reads' hR).2.2
      rw [List.length_map, hn] at hC
      rw [List.length_map, hn]
      go_wp2_with fail
      go_ret
      exact ⟨B, d, rfl, hC, hB⟩
/-- May a symbol stand in a setup? -/
def symS (x : Sym) : Bool := decide (1 ≤ x.2.1 ∧ x.2.1 ≤ 1099511627776) && decide (1 ≤ x.2.2.2.2.2.1 ∧ x.2.2.2.2.2.1 ≤ 1099511627776) && decide (1 ≤ x.2.2.1 ∧ x.2.2.1 ≤ 1099511627776) && decide (1 ≤ x.2.2.2.1 ∧ x.2.2.2.1 ≤ 1099511627776) && decide (0 ≤ x.2.2.2.2.1 ∧ x.2.2.2.2.1 ≤ 10000) && decide (1 ≤ x.2.2.2.2.2.2 ∧ x.2.2.2.2.2.2 ≤ 4611686018427387904) && decide ((bandS x.2.2.2.1 x.2.2.2.2.1 x.2.2.1).2.2 = 0) && decide (1 ≤ (bandS x.2.2.2.1 x.2.2.2.2.1 x.2.2.1).1)
theorem in15_is (a b c : Int) : spigotref15_in.f a b c = some (decide (b ≤ a ∧ a ≤ c)) := by
  unfold spigotref15_in.f
  by_cases h : a ≥ b
  · rw [if_pos h]; congr 1; rw [decide_eq_decide]; omega
  · rw [if_neg h, decide_eq_false (by omega)]
theorem sym_is (x : Sym) : spigotref15_symbol.f 2 x.1 x.2.1 x.2.2.1 x.2.2.2.1 x.2.2.2.2.1 x.2.2.2.2.2.1 x.2.2.2.2.2.2 = some (symS x) := by
  obtain ⟨s, lot, tick, mid, wid, most, worth⟩ := x
  unfold spigotref15_symbol.f symS
  dsimp only
  simp only [in15_is, Option.bind_some]
  by_cases h1 : 1 ≤ lot ∧ lot ≤ 1099511627776
  · rw [decide_eq_true h1, if_pos rfl]
    by_cases h2 : 1 ≤ most ∧ most ≤ 1099511627776
    · rw [decide_eq_true h2, if_pos rfl]
      by_cases h3 : 1 ≤ tick ∧ tick ≤ 1099511627776
      · rw [decide_eq_true h3, if_pos rfl]
        by_cases h4 : 1 ≤ mid ∧ mid ≤ 1099511627776
        · rw [decide_eq_true h4, if_pos rfl]
          by_cases h5 : 0 ≤ wid ∧ wid ≤ 10000
          · rw [decide_eq_true h5, if_pos rfl]
            by_cases h6 : 1 ≤ worth ∧ worth ≤ 4611686018427387904
            · rw [decide_eq_true h6, if_pos rfl, rband_is mid wid tick (by unfold in64; omega) 2 (by omega), Option.bind_some]
              by_cases h7 : (bandS mid wid tick).2.2 = 0
              · rw [if_pos h7, decide_eq_true h7]; simp
              · rw [if_neg h7, decide_eq_false h7]; simp
            · rw [decide_eq_false h6]; simp
          · rw [decide_eq_false h5]; simp
        · rw [decide_eq_false h4]; simp
      · rw [decide_eq_false h3]; simp
    · rw [decide_eq_false h2]; simp
  · rw [decide_eq_false h1]; simp
theorem sym_calls (x : Sym) (w : World) : Calls Try.prog 30 #[.agg #[.string x.1, .int .i64 x.2.1, .int .i64 x.2.2.1, .int .i64 x.2.2.2.1, .int .i64 x.2.2.2.2.1, .int .i64 x.2.2.2.2.2.1, .int .i64 x.2.2.2.2.2.2]] w fun e w' => e = .returned (.bool (symS x)) ∧ Below w.heap.size w w' :=
  spigotref15_symbol.calls 2 _ _ _ _ _ _ _ _ w (sym_is x)
/-- A yes or no; yes: each symbol is right. -/
def RigB (w : World) (l : List Sym) (e : Ending) (w' : World) : Prop := ∃ b : Bool, e = .returned (.bool b) ∧ (b = true → ∀ x ∈ l, symS x = true) ∧ Below w.heap.size w w'
theorem RigB.no {w w' : World} {l : List Sym} (h : Below w.heap.size w w') : RigB w l (.returned (.bool false)) w' := ⟨false, rfl, fun q => absurd q (by decide), h⟩
theorem RigB.mk {w w' : World} {l : List Sym} (b : Bool) (hl : ∀ x ∈ l, symS x = true) (h : Below w.heap.size w w') : RigB w l (.returned (.bool b)) w' := ⟨b, rfl, fun _ => hl, h⟩
set_option maxHeartbeats 8000000 in
set_option maxRecDepth 100000 in
theorem right_walk (A1 A2 A3 : Option Addr) (c1 c2 c3 n1 n2 n3 : Nat) (l1 : List Acc) (l2 : List Sym) (l3 : List Ven) (p1 p2 p3 p4 p5 p6 : Int) (w : World) (hn1 : l1.length = n1) (hn2 : l2.length = n2) (hn3 : l3.length = n3) (hm1 : n1 ≤ 900) (hm2 : n2 ≤ 900) (hm3 : n3 ≤ 900)
    (h1 : Kd.C kA w A1 n1 l1) (h2 : Kd.C kS w A2 n2 l2) (h3 : Kd.C kV w A3 n3 l3) (s1 : ∀ x ∈ l1, x.1.size ≤ 1000) (s2 : ∀ x ∈ l2, x.1.size ≤ 1000) (s3 : ∀ x ∈ l3, x.1.size ≤ 1000) :
    Calls Try.prog 15 #[.agg (setC (.slice A1 n1 c1) (.slice A2 n2 c2) (.slice A3 n3 c3) p1 p2 p3 p4 p5 p6)] w (RigB w l2) := by
  have hO := Blk.new w 50 (setC (.slice A1 n1 c1) (.slice A2 n2 c2) (.slice A3 n3 c3) p1 p2 p3 p4 p5 p6)
  have hB := (Below.refl w.heap.size w).alloc (Nat.le_refl _) (.cells (setC (.slice A1 n1 c1) (.slice A2 n2 c2) (.slice A3 n3 c3) p1 p2 p3 p4 p5 p6) 50)
  have NA := fun w' (b : Below w.heap.size w w') => namesA A1 A2 A3 c1 c2 c3 n1 n2 n3 l1 p1 p2 p3 p4 p5 p6 w' hn1 hm1 (Kd.C_below h1 b)
  have NS := fun w' (b : Below w.heap.size w w') => namesS A1 A2 A3 c1 c2 c3 n1 n2 n3 l2 p1 p2 p3 p4 p5 p6 w' hn2 hm2 (Kd.C_below h2 b)
  have NV := fun w' (b : Below w.heap.size w w') => namesV A1 A2 A3 c1 c2 c3 n1 n2 n3 l3 p1 p2 p3 p4 p5 p6 w' hn3 hm3 (Kd.C_below h3 b)
  have HNA := Lib.hid NA; have HNS := Lib.hid NS; have HNV := Lib.hid NV
  have H1 := Lib.hid h1; have H2 := Lib.hid h2; have H3 := Lib.hid h3
  have S1 := Lib.hid s1; have S2 := Lib.hid s2; have S3 := Lib.hid s3
  clear NA NS NV h1 h2 h3 s1 s2 s3
  go_enter Try.func15, Try.ntmps15
  go_wp2_with fail
  generalize w.alloc (.cells (setC (.slice A1 n1 c1) (.slice A2 n2 c2) (.slice A3 n3 c3) p1 p2 p3 p4 p5 p6) 50) = w0 at *
  refine (HNA.out w0 hB).mono ?_
  rintro e wa1 ⟨B, d, rfl, hC, ba⟩
  have hO := hO.on ba
  have hB := bt hB ba
  go_wp2_with fail
  refine (names_walk B d n1 (l1.map (·.1)) 16 wa1 (by rw [List.length_map]; exact hn1) hm1 hC (fun s hs => by obtain ⟨x, hx, rfl⟩ := List.mem_map.1 hs; exact S1.out x hx)).mono ?_
  rintro e wb1 ⟨b, rfl, bb⟩
  have hO := hO.on bb
  have hB := bt hB bb
  clear hC ba bb
  cases b with
  | false =>
    go_wp2_with fail
    go_ret
    exact RigB.no hB
  | true =>
    have y0 : wb1.cell? ⟨w.heap.size, 0, none⟩ = some (.slice A1 n1 c1) := hO.cell 0; have y1 : wb1.cell? ⟨w.heap.size, 1, none⟩ = some (.slice A2 n2 c2) := hO.cell 1; have y2 : wb1.cell? ⟨w.heap.size, 2, none⟩ = some (.slice A3 n3 c3) := hO.cell 2; have y3 : wb1.cell? ⟨w.heap.size, 3, none⟩ = some (.int .i64 p1) := hO.cell 3; have y4 : wb1.cell? ⟨w.heap.size, 4, none⟩ = some (.int .i64 p2) := hO.cell 4; have y5 : wb1.cell? ⟨w.heap.size, 5, none⟩ = some (.int .i64 p3) := hO.cell 5; have y6 : wb1.cell? ⟨w.heap.size, 6, none⟩ = some (.int .i64 p4) := hO.cell 6; have y7 : wb1.cell? ⟨w.heap.size, 7, none⟩ = some (.int .i64 p5) := hO.cell 7; have y8 : wb1.cell? ⟨w.heap.size, 8, none⟩ = some (.int .i64 p6) := hO.cell 8
    go_wp2_with fail
    clear y0 y1 y2 y3 y4 y5 y6 y7 y8
    refine (HNS.out wb1 hB).mono ?_
    rintro e wa2 ⟨B, d, rfl, hC, ba⟩
    have hO := hO.on ba
    have hB := bt hB ba
    go_wp2_with fail
    refine (names_walk B d n2 (l2.map (·.1)) 16 wa2 (by rw [List.length_map]; exact hn2) hm2 hC (fun s hs => by obtain ⟨x, hx, rfl⟩ := List.mem_map.1 hs; exact S2.out x hx)).mono ?_
    rintro e wb2 ⟨b, rfl, bb⟩
    have hO := hO.on bb
    have hB := bt hB bb
    clear hC ba bb
    cases b with
    | false =>
      go_wp2_with fail
      go_ret
      exact RigB.no hB
    | true =>
      have y0 : wb2.cell? ⟨w.heap.size, 0, none⟩ = some (.slice A1 n1 c1) := hO.cell 0; have y1 : wb2.cell? ⟨w.heap.size, 1, none⟩ = some (.slice A2 n2 c2) := hO.cell 1; have y2 : wb2.cell? ⟨w.heap.size, 2, none⟩ = some (.slice A3 n3 c3) := hO.cell 2; have y3 : wb2.cell? ⟨w.heap.size, 3, none⟩ = some (.int .i64 p1) := hO.cell 3; have y4 : wb2.cell? ⟨w.heap.size, 4, none⟩ = some (.int .i64 p2) := hO.cell 4; have y5 : wb2.cell? ⟨w.heap.size, 5, none⟩ = some (.int .i64 p3) := hO.cell 5; have y6 : wb2.cell? ⟨w.heap.size, 6, none⟩ = some (.int .i64 p4) := hO.cell 6; have y7 : wb2.cell? ⟨w.heap.size, 7, none⟩ = some (.int .i64 p5) := hO.cell 7; have y8 : wb2.cell? ⟨w.heap.size, 8, none⟩ = some (.int .i64 p6) := hO.cell 8
      go_wp2_with fail
      clear y0 y1 y2 y3 y4 y5 y6 y7 y8
      refine (HNV.out wb2 hB).mono ?_
      rintro e wa3 ⟨B, d, rfl, hC, ba⟩
      have hO := hO.on ba
      have hB := bt hB ba
      go_wp2_with fail
      refine (names_walk B d n3 (l3.map (·.1)) 8 wa3 (by rw [List.length_map]; exact hn3) hm3 hC (fun s hs => by obtain ⟨x, hx, rfl⟩ := List.mem_map.1 hs; exact S3.out x hx)).mono ?_
      rintro e wb3 ⟨b, rfl, bb⟩
      have hO := hO.on bb
      have hB := bt hB bb
      clear hC ba bb
      cases b with
      | false =>
        go_wp2_with fail
        go_ret
        exact RigB.no hB
      | true =>
        have y0 : wb3.cell? ⟨w.heap.size, 0, none⟩ = some (.slice A1 n1 c1) := hO.cell 0; have y1 : wb3.cell? ⟨w.heap.size, 1, none⟩ = some (.slice A2 n2 c2) := hO.cell 1; have y2 : wb3.cell? ⟨w.heap.size, 2, none⟩ = some (.slice A3 n3 c3) := hO.cell 2; have y3 : wb3.cell? ⟨w.heap.size, 3, none⟩ = some (.int .i64 p1) := hO.cell 3; have y4 : wb3.cell? ⟨w.heap.size, 4, none⟩ = some (.int .i64 p2) := hO.cell 4; have y5 : wb3.cell? ⟨w.heap.size, 5, none⟩ = some (.int .i64 p3) := hO.cell 5; have y6 : wb3.cell? ⟨w.heap.size, 6, none⟩ = some (.int .i64 p4) := hO.cell 6; have y7 : wb3.cell? ⟨w.heap.size, 7, none⟩ = some (.int .i64 p5) := hO.cell 7; have y8 : wb3.cell? ⟨w.heap.size, 8, none⟩ = some (.int .i64 p6) := hO.cell 8
        go_wp2_with fail
        clear HNA HNS HNV y0 y1 y2 y3 y4 y5 y6 y7 y8
        go_loopw [3] (fun i wr => ∃ k : Nat, k ≤ n1 ∧ i = .int .i64 k ∧ Blk wr w.heap.size 50 (setC (.slice A1 n1 c1) (.slice A2 n2 c2) (.slice A3 n3 c3) p1 p2 p3 p4 p5 p6) ∧ Below w.heap.size w wr) (fun i _ => n1 - (intOf i).toNat)
        case atStart => exact ⟨0, Nat.zero_le _, rfl, hO, hB⟩
        case round =>
          clear hO hB
          obtain ⟨k, hk, rfl, hO, hB⟩ := hrel
          have y0 : wr.cell? ⟨w.heap.size, 0, none⟩ = some (.slice A1 n1 c1) := hO.cell 0
          by_cases hlt : k < n1
          · obtain ⟨ad, rfl, hcell⟩ := at_A (Kd.C_below H1.out hB) k hlt
            generalize l1.getD k zA = x at hcell
            have q1 : wr.cell? ⟨(ad.add (k * 2)).block, (ad.add (k * 2)).off + 1, none⟩ = some (.int .i64 x.2) := by rw [← add_field _ _ 1 (by omega)]; exact hcell 1 _ rfl
            clear hcell
            go_wp2_with fail
            refine (in15b _ _ _ wr).mono ?_
            rintro e wc ⟨b, rfl, bc⟩
            have hO := hO.on bc
            have hB := bt hB bc
            cases b with
            | false =>
              go_wp2_with fail
              go_ret
              exact RigB.no hB
            | true =>
              go_wp2_with fail
              go_roundw
              case rel => exact ⟨k + 1, by omega, by go_num, hO, hB⟩
              case measure => simp only [intOf]; omega
          · clear hk
            have y1 : wr.cell? ⟨w.heap.size, 1, none⟩ = some (.slice A2 n2 c2) := hO.cell 1
            go_wp2_with fail
            clear y0 y1 hlt
            go_loopw [4] (fun i wr => ∃ k : Nat, k ≤ n2 ∧ i = .int .i64 k ∧ Blk wr w.heap.size 50 (setC (.slice A1 n1 c1) (.slice A2 n2 c2) (.slice A3 n3 c3) p1 p2 p3 p4 p5 p6) ∧ Below w.heap.size w wr ∧ ∀ x ∈ l2.take k, symS x = true) (fun i _ => n2 - (intOf i).toNat)
            case atStart => exact ⟨0, Nat.zero_le _, rfl, hO, hB, fun x hx => by simp at hx⟩
            case round =>
              clear hO hB
              obtain ⟨k, hk, rfl, hO, hB, hs⟩ := hrel
              have y1 : wr.cell? ⟨w.heap.size, 1, none⟩ = some (.slice A2 n2 c2) := hO.cell 1
              by_cases hlt : k < n2
              · obtain ⟨ad, rfl, hcell⟩ := at_S (Kd.C_below H2.out hB) k hlt
                have hkl : k < l2.length := by rw [hn2]; exact hlt
                have e1 : l2.getD k zS = l2[k] := by simp [hkl]
                have hs1 : l2.take (k + 1) = l2.take k ++ [l2[k]] := List.take_succ_eq_append_getElem hkl
                rw [e1] at hcell
                generalize l2[k] = x at *
                have q0 : wr.cell? (ad.add (k * 7)) = some (.string x.1) := hcell 0 _ rfl
                have q1 : wr.cell? ⟨(ad.add (k * 7)).block, (ad.add (k * 7)).off + 1, none⟩ = some (.int .i64 x.2.1) := by rw [← add_field _ _ 1 (by omega)]; exact hcell 1 _ rfl
                have q2 : wr.cell? ⟨(ad.add (k * 7)).block, (ad.add (k * 7)).off + 2, none⟩ = some (.int .i64 x.2.2.1) := by rw [← add_field _ _ 2 (by omega)]; exact hcell 2 _ rfl
                have q3 : wr.cell? ⟨(ad.add (k * 7)).block, (ad.add (k * 7)).off + 3, none⟩ = some (.int .i64 x.2.2.2.1) := by rw [← add_field _ _ 3 (by omega)]; exact hcell 3 _ rfl
                have q4 : wr.cell? ⟨(ad.add (k * 7)).block, (ad.add (k * 7)).off + 4, none⟩ = some (.int .i64 x.2.2.2.2.1) := by rw [← add_field _ _ 4 (by omega)]; exact hcell 4 _ rfl
                have q5 : wr.cell? ⟨(ad.add (k * 7)).block, (ad.add (k * 7)).off + 5, none⟩ = some (.int .i64 x.2.2.2.2.2.1) := by rw [← add_field _ _ 5 (by omega)]; exact hcell 5 _ rfl
                have q6 : wr.cell? ⟨(ad.add (k * 7)).block, (ad.add (k * 7)).off + 6, none⟩ = some (.int .i64 x.2.2.2.2.2.2) := by rw [← add_field _ _ 6 (by omega)]; exact hcell 6 _ rfl
                have HS1 := Lib.hid hs1
                clear hcell e1 hs1
                have hc := sym_calls x wr
                obtain ⟨b, hbs⟩ : ∃ b, symS x = b := ⟨_, rfl⟩
                rw [hbs] at hc
                have HC := Lib.hid hc
                have HBS := Lib.hid hbs
                have HSS := Lib.hid hs
                clear hc hbs hs
                go_wp2_with fail
                with_reducible refine HC.out.mono ?_
                rintro e wc ⟨rfl, bc⟩
                have hO := hO.on bc
                have hB := bt hB bc
                cases b with
                | false =>
                  go_wp2_with fail
                  go_ret
                  exact RigB.no hB
                | true =>
                  have hs : ∀ x ∈ l2.take (k + 1), symS x = true := by rw [HS1.out]; intro y hy; rcases List.mem_append.1 hy with h | h; exact HSS.out y h; rw [List.mem_singleton.1 h]; exact HBS.out
                  go_wp2_with fail
                  go_roundw
                  case rel => exact ⟨k + 1, by omega, by go_num, hO, hB, hs⟩
                  case measure => simp only [intOf]; omega
              · rw [List.take_of_length_le (by omega)] at hs
                have HS := Lib.hid hs
                clear hs hk
                have y2 : wr.cell? ⟨w.heap.size, 2, none⟩ = some (.slice A3 n3 c3) := hO.cell 2
                go_wp2_with fail
                clear y1 y2 hlt
                go_loopw [5] (fun i wr => ∃ k : Nat, k ≤ n3 ∧ i = .int .i64 k ∧ Blk wr w.heap.size 50 (setC (.slice A1 n1 c1) (.slice A2 n2 c2) (.slice A3 n3 c3) p1 p2 p3 p4 p5 p6) ∧ Below w.heap.size w wr) (fun i _ => n3 - (intOf i).toNat)
                case atStart => exact ⟨0, Nat.zero_le _, rfl, hO, hB⟩
                case round =>
                  clear hO hB
                  obtain ⟨k, hk, rfl, hO, hB⟩ := hrel
                  have y2 : wr.cell? ⟨w.heap.size, 2, none⟩ = some (.slice A3 n3 c3) := hO.cell 2
                  by_cases hlt : k < n3
                  · obtain ⟨ad, rfl, hcell⟩ := at_V (Kd.C_below H3.out hB) k hlt
                    generalize l3.getD k zV = x at hcell
                    have q0 : wr.cell? (ad.add (k * 5)) = some (.string x.1) := hcell 0 _ rfl
                    have q1 : wr.cell? ⟨(ad.add (k * 5)).block, (ad.add (k * 5)).off + 1, none⟩ = some (.int .i64 x.2.1) := by rw [← add_field _ _ 1 (by omega)]; exact hcell 1 _ rfl
                    have q2 : wr.cell? ⟨(ad.add (k * 5)).block, (ad.add (k * 5)).off + 2, none⟩ = some (.int .i64 x.2.2.1) := by rw [← add_field _ _ 2 (by omega)]; exact hcell 2 _ rfl
                    have q3 : wr.cell? ⟨(ad.add (k * 5)).block, (ad.add (k * 5)).off + 3, none⟩ = some (.int .i64 x.2.2.2.1) := by rw [← add_field _ _ 3 (by omega)]; exact hcell 3 _ rfl
                    have q4 : wr.cell? ⟨(ad.add (k * 5)).block, (ad.add (k * 5)).off + 4, none⟩ = some (.bool x.2.2.2.2) := by rw [← add_field _ _ 4 (by omega)]; exact hcell 4 _ rfl
                    clear hcell
                    have hx := Blk.new wr 64 #[.string x.1, .int .i64 x.2.1, .int .i64 x.2.2.1, .int .i64 x.2.2.2.1, .bool x.2.2.2.2]
                    have b5 := (Below.refl wr.heap.size wr).alloc (Nat.le_refl _) (.cells #[.string x.1, .int .i64 x.2.1, .int .i64 x.2.2.1, .int .i64 x.2.2.2.1, .bool x.2.2.2.2] 64)
                    have hO5 := hO.on b5
                    have hB5 := bt hB b5
                    go_upto_region 17 with (fail)
                    generalize wr.alloc (.cells #[.string x.1, .int .i64 x.2.1, .int .i64 x.2.2.1, .int .i64 x.2.2.2.1, .bool x.2.2.2.2] 64) = W5 at *
                    generalize wr.heap.size = ob at *
                    clear q0 q1 q2 q3 q4 hO hB y2
                    have u1 : W5.cell? ⟨ob, 1, none⟩ = some (.int .i64 x.2.1) := hx.cell 1
                    go_wp2_with fail
                    refine (in15b _ _ _ W5).mono ?_
                    rintro e wd1 ⟨b, rfl, bc⟩
                    have hx := hx.on bc
                    have hO5 := hO5.on bc
                    have hB5 := bt hB5 bc
                    clear bc u1
                    cases b with
                    | false =>
                      go_wp2_with fail
                      go_ret
                      exact RigB.no hB5
                    | true =>
                      have u2 : wd1.cell? ⟨ob, 2, none⟩ = some (.int .i64 x.2.2.1) := hx.cell 2
                      go_wp2_with fail
                      refine (in15b _ _ _ wd1).mono ?_
                      rintro e wd2 ⟨b, rfl, bc⟩
                      have hx := hx.on bc
                      have hO5 := hO5.on bc
                      have hB5 := bt hB5 bc
                      clear bc u2
                      cases b with
                      | false =>
                        go_wp2_with fail
                        go_ret
                        exact RigB.no hB5
                      | true =>
                        have u3 : wd2.cell? ⟨ob, 3, none⟩ = some (.int .i64 x.2.2.2.1) := hx.cell 3
                        go_wp2_with fail
                        refine (in15b _ _ _ wd2).mono ?_
                        rintro e wd3 ⟨b, rfl, bc⟩
                        have hx := hx.on bc
                        have hO5 := hO5.on bc
                        have hB5 := bt hB5 bc
                        clear bc u3
                        cases b with
                        | false =>
                          go_wp2_with fail
                          go_ret
                          exact RigB.no hB5
                        | true =>
                          go_wp2_with fail
                          go_roundw
                          case rel => exact ⟨k + 1, by omega, by go_num, hO5, hB5⟩
                          case measure => simp only [intOf]; omega
                  · clear hk
                    have y3 : wr.cell? ⟨w.heap.size, 3, none⟩ = some (.int .i64 p1) := hO.cell 3
                    go_wp2_with fail
                    refine (in15b _ _ _ wr).mono ?_
                    rintro e wf1 ⟨b, rfl, bc⟩
                    have hO := hO.on bc
                    have hB := bt hB bc
                    clear bc y3
                    cases b with
                    | false =>
                      go_wp2_with fail
                      go_ret
                      exact RigB.no hB
                    | true =>
                      have y4 : wf1.cell? ⟨w.heap.size, 4, none⟩ = some (.int .i64 p2) := hO.cell 4
                      go_wp2_with fail
                      refine (in15b _ _ _ wf1).mono ?_
                      rintro e wf2 ⟨b, rfl, bc⟩
                      have hO := hO.on bc
                      have hB := bt hB bc
                      clear bc y4
                      cases b with
                      | false =>
                        go_wp2_with fail
                        go_ret
                        exact RigB.no hB
                      | true =>
                        have y5 : wf2.cell? ⟨w.heap.size, 5, none⟩ = some (.int .i64 p3) := hO.cell 5
                        go_wp2_with fail
                        refine (in15b _ _ _ wf2).mono ?_
                        rintro e wf3 ⟨b, rfl, bc⟩
                        have hO := hO.on bc
                        have hB := bt hB bc
                        clear bc y5
                        cases b with
                        | false =>
                          go_wp2_with fail
                          go_ret
                          exact RigB.no hB
                        | true =>
                          have y6 : wf3.cell? ⟨w.heap.size, 6, none⟩ = some (.int .i64 p4) := hO.cell 6
                          go_wp2_with fail
                          refine (in15b _ _ _ wf3).mono ?_
                          rintro e wf4 ⟨b, rfl, bc⟩
                          have hO := hO.on bc
                          have hB := bt hB bc
                          clear bc y6
                          cases b with
                          | false =>
                            go_wp2_with fail
                            go_ret
                            exact RigB.no hB
                          | true =>
                            have y7 : wf4.cell? ⟨w.heap.size, 7, none⟩ = some (.int .i64 p5) := hO.cell 7
                            go_wp2_with fail
                            refine (in15b _ _ _ wf4).mono ?_
                            rintro e wf5 ⟨b, rfl, bc⟩
                            have hO := hO.on bc
                            have hB := bt hB bc
                            clear bc y7
                            cases b with
                            | false =>
                              go_wp2_with fail
                              go_ret
                              exact RigB.no hB
                            | true =>
                              have y8 : wf5.cell? ⟨w.heap.size, 8, none⟩ = some (.int .i64 p6) := hO.cell 8
                              go_wp2_with fail
                              refine (in15b _ _ _ wf5).mono ?_
                              rintro e wf6 ⟨b, rfl, bc⟩
                              have hO := hO.on bc
                              have hB := bt hB bc
                              clear bc y8
                              go_wp2_with fail
                              go_ret
                              exact RigB.mk b HS.out hB
end Go.Proofs.Ytmeengcbfhhncaa.Hand
