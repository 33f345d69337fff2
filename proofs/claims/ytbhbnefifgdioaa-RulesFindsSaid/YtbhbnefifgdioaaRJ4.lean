/- Texts laid together by join.py: RulA RulB RulC. -/
import Derived.Test.YtbhbnefifgdioaaRJ2
import Derived.Test.YtbhbnefifgdioaaRJ3
/- The rules' law: Simple, awake, find, walked (gen_rulA.py). -/
set_option linter.unusedVariables false
set_option linter.unusedSimpArgs false
namespace Go.Proofs.Ytbhbnefifgdioaa.Hand
open Go Go.RowKit Go.Proofs.YtbhbnefifgdioaaW.PrintWords Go.Proofs.YtbhbnefifgdioaaW.PrintMore Go.Proofs.YtbhbnefifgdioaaW.PrintLast Go.Proofs.Ytbhbnefifgdioaa.RL Go.Proofs.Ytbhbnefifgdioaa.PL Go.Proofs.Ytbhbnefifgdioaa.K
def accA : Acc := (⟨#[65]⟩, 1000000)
def symX : Sym := (⟨#[88]⟩, 10, 5, 1000, 100, 1000, 1000000)
def venV : Ven := (⟨#[86]⟩, 10, 0, 100, true)
abbrev simC (g : Nat) : Array Value := setC (.slice (some ⟨g, 0, none⟩) 1 1) (.slice (some ⟨g + 1, 0, none⟩) 1 1) (.slice (some ⟨g + 1 + 1, 0, none⟩) 1 1) 2 8 50 5 4 4
theorem four_blk (w : World) (t0 t1 t2 t3 : TypeId) (C0 C1 C2 C3 : Array Value) :
    Blk ((((w.alloc (.cells C0 t0)).alloc (.cells C1 t1)).alloc (.cells C2 t2)).alloc (.cells C3 t3)) w.heap.size t0 C0 ∧ Blk ((((w.alloc (.cells C0 t0)).alloc (.cells C1 t1)).alloc (.cells C2 t2)).alloc (.cells C3 t3)) (w.heap.size + 1) t1 C1 ∧ Blk ((((w.alloc (.cells C0 t0)).alloc (.cells C1 t1)).alloc (.cells C2 t2)).alloc (.cells C3 t3)) (w.heap.size + 1 + 1) t2 C2 ∧ Blk ((((w.alloc (.cells C0 t0)).alloc (.cells C1 t1)).alloc (.cells C2 t2)).alloc (.cells C3 t3)) (w.heap.size + 1 + 1 + 1) t3 C3 ∧ Below w.heap.size w ((((w.alloc (.cells C0 t0)).alloc (.cells C1 t1)).alloc (.cells C2 t2)).alloc (.cells C3 t3)) := by
  have z0 := Blk.new w t0 C0
  have B := (Below.refl w.heap.size w).alloc (Nat.le_refl _) (.cells C0 t0)
  have e0 : (w.alloc (.cells C0 t0)).heap.size = w.heap.size + 1 := by simp
  generalize w.alloc (.cells C0 t0) = w1 at *
  have z1 := Blk.new w1 t1 C1
  have z0 := z0.alloc (.cells C1 t1)
  have B := B.alloc (by omega) (.cells C1 t1)
  have e1 : (w1.alloc (.cells C1 t1)).heap.size = w1.heap.size + 1 := by simp
  generalize w1.alloc (.cells C1 t1) = w2 at *
  have z2 := Blk.new w2 t2 C2
  have z0 := z0.alloc (.cells C2 t2)
  have z1 := z1.alloc (.cells C2 t2)
  have B := B.alloc (by omega) (.cells C2 t2)
  have e2 : (w2.alloc (.cells C2 t2)).heap.size = w2.heap.size + 1 := by simp
  generalize w2.alloc (.cells C2 t2) = w3 at *
  have z3 := Blk.new w3 t3 C3
  have z0 := z0.alloc (.cells C3 t3)
  have z1 := z1.alloc (.cells C3 t3)
  have z2 := z2.alloc (.cells C3 t3)
  have B := B.alloc (by omega) (.cells C3 t3)
  rw [e0] at z1; rw [e1, e0] at z2; rw [e2, e1, e0] at z3
  exact ⟨z0, z1, z2, z3, B⟩
set_option maxHeartbeats 2000000 in
set_option maxRecDepth 100000 in
theorem simple_walk (w : World) : Calls Try.prog 22 #[] w fun e w' => ∃ g, w.heap.size ≤ g ∧ e = .returned (.agg (simC g)) ∧ Blk w' g 60 (cA accA).toArray ∧ Blk w' (g + 1) 41 (cS symX).toArray ∧ Blk w' (g + 1 + 1) 62 (cV venV).toArray ∧ Below w.heap.size w w' := by
  go_enter Try.func22, Try.ntmps22
  go_wp2_with fail
  obtain ⟨z0, z1, z2, z3, B⟩ := four_blk w 26 60 41 62 (simC (w.heap.size + 1)) #[.string ⟨#[65]⟩, .int .i64 1000000] #[.string ⟨#[88]⟩, .int .i64 10, .int .i64 5, .int .i64 1000, .int .i64 100, .int .i64 1000, .int .i64 1000000] #[.string ⟨#[86]⟩, .int .i64 10, .int .i64 0, .int .i64 100, .bool true]
  generalize (((w.alloc (.cells (simC (w.heap.size + 1)) 26)).alloc (.cells #[.string ⟨#[65]⟩, .int .i64 1000000] 60)).alloc (.cells #[.string ⟨#[88]⟩, .int .i64 10, .int .i64 5, .int .i64 1000, .int .i64 100, .int .i64 1000, .int .i64 1000000] 41)).alloc (.cells #[.string ⟨#[86]⟩, .int .i64 10, .int .i64 0, .int .i64 100, .bool true] 62) = w4 at *
  have c0 := z0.cell 0; have c1 := z0.cell 1; have c2 := z0.cell 2; have c3 := z0.cell 3; have c4 := z0.cell 4; have c5 := z0.cell 5; have c6 := z0.cell 6; have c7 := z0.cell 7; have c8 := z0.cell 8
  simp at c0 c1 c2 c3 c4 c5 c6 c7 c8
  exact bodyPost_ret (v := .agg (simC (w.heap.size + 1))) (by simp [results, Try.results22, go_sem, c0, c1, c2, c3, c4, c5, c6, c7, c8]) rfl ⟨w.heap.size + 1, by omega, rfl, z1, z2, z3, B⟩
theorem one_C {α : Type} (d : Kd α) (c : List Value) (x : α) {w : World} {g : Nat} {t : TypeId} (hK : d.K w x c) (hb : Blk w g t c.toArray) : Kd.C d w (some ⟨g, 0, none⟩) 1 [x] := by
  refine ⟨rfl, by decide, fun _ => ⟨_, rfl, fun j p hj => ?_⟩⟩
  match j, hj with
  | 0, hj =>
    obtain rfl : x = p := by simpa using hj
    refine ⟨c, d.K_len hK, hK, fun i u hu => ?_⟩
    have h2 : w.cell? ⟨g, i, none⟩ = some u := by rw [hb.cell i]; simpa using hu
    rw [Nat.zero_mul, Nat.zero_add]
    unfold Addr.add
    split
    · rename_i h0; subst h0; exact h2
    · show w.cell? ⟨g, 0 + i, none⟩ = some u; rw [Nat.zero_add]; exact h2
theorem chk_simple : chkS [accA] [symX] [venV] 2 8 50 5 4 4 = true := by kernel_rfl
theorem chk_empty : chkS [] [] [] 0 0 0 0 0 0 = false := by kernel_rfl
theorem band_simple : bandS 1000 100 5 = (990, 1010, 0) := by kernel_rfl
set_option maxHeartbeats 4000000 in
set_option maxRecDepth 100000 in
theorem awake15 (w : World) : Calls Try.prog 6 #[] w fun e w' => e = .returned (.bool true) ∧ Below w.heap.size w w' := by
  have HN := Lib.hid (fun (g : Nat) (w1 : World) (z1 : Blk w1 g 60 (cA accA).toArray) (z2 : Blk w1 (g + 1) 41 (cS symX).toArray) (z3 : Blk w1 (g + 1 + 1) 62 (cV venV).toArray) => rnew_good (some ⟨g, 0, none⟩) (some ⟨g + 1, 0, none⟩) (some ⟨g + 1 + 1, 0, none⟩) 1 1 1 [accA] [symX] [venV] 2 8 50 5 4 4 w1 (by decide) (by decide) (by decide) (one_C kA _ accA (kA_mk w1 accA) z1) (one_C kS _ symX (kS_mk w1 symX) z2) (one_C kV _ venV (kV_mk w1 venV) z3) (fun x hx => by rw [List.mem_singleton.1 hx]; decide) (fun x hx => by rw [List.mem_singleton.1 hx]; decide) (fun x hx => by rw [List.mem_singleton.1 hx]; decide) chk_simple)
  have HC := Lib.hid (fun (w1 : World) => check_walk none none none 0 0 0 [] [] [] 0 0 0 0 0 0 w1 (by decide) (by decide) (by decide) (by first | exact ⟨rfl, by decide, fun h => absurd h (by decide)⟩ | exact ⟨rfl, by decide, fun h => absurd rfl h⟩) (by first | exact ⟨rfl, by decide, fun h => absurd h (by decide)⟩ | exact ⟨rfl, by decide, fun h => absurd rfl h⟩) (by first | exact ⟨rfl, by decide, fun h => absurd h (by decide)⟩ | exact ⟨rfl, by decide, fun h => absurd rfl h⟩) (fun x hx => by cases hx) (fun x hx => by cases hx) (fun x hx => by cases hx))
  simp only [chk_empty, Bool.false_eq_true, if_false] at HC
  go_enter Try.func6, Try.ntmps6
  go_wp2_with fail
  refine (simple_walk w).mono ?_
  rintro e w1 ⟨g, hg, rfl, z1, z2, z3, b1⟩
  go_wp2_with fail
  refine (HN.out g w1 z1 z2 z3).mono ?_
  rintro e w2 ⟨r, B1, B2, B3, d1, d2, d3, m1, m2, m3, rfl, hR, b2⟩
  have hB := bt b1 b2
  clear b2 z1 z2 z3 HN b1 hg
  have HB := Lib.hid (Band_good hR 0 (by decide) (by decide) (by show in64 5; unfold in64; omega))
  have eb : bandS [symX][0].2.2.2.1 [symX][0].2.2.2.2.1 [symX][0].2.2.1 = (990, 1010, 0) := band_simple
  rw [eb, show ((0 : Nat) : Int) = 0 from rfl] at HB
  clear hR eb
  go_wp2_with fail
  with_reducible refine HB.out.mono ?_
  rintro e w3 ⟨rfl, b3⟩
  have hB := bt hB b3
  clear b3
  go_wp2_with fail
  refine (HC.out w3).mono ?_
  rintro e w4 ⟨rfl, b4⟩
  have hB := bt hB b4
  go_wp2_with fail
  go_ret
  exact ⟨rfl, hB⟩
theorem find15_walk (A : Option Addr) (c n : Nat) (xs : List ByteArray) (s : ByteArray) (w : World) (hn : xs.length = n) (hm : n ≤ 900) (hx : Kd.C Kd.string w A n xs) :
    Calls Try.prog 18 #[.int .i64 (if plc xs s < 0 then 0 else plc xs s), .bool (decide (0 ≤ plc xs s)), .slice A n c, .string s] w fun e w' => e = .returned (.bool true) ∧ Below w.heap.size w w' := by
  have HF := Lib.hid (fun w' (b : Below w.heap.size w w') => Find_walk A c n xs s w' hn hm (Kd.C_below hx b))
  clear hx hn
  generalize plc xs s = p at *
  by_cases hp : p < 0
  · rw [if_pos hp, decide_eq_false (by omega)]
    have h1 : (0 : Int) ≠ p := by omega
    have h2 : ¬ (0 ≤ p) := by omega
    have h3 : decide (0 ≤ p) = false := decide_eq_false h2
    have h4 : ((0 : Int) == max p 0) = true := by rw [beq_iff_eq]; omega
    go_enter Try.func18, Try.ntmps18
    go_wp2_with fail
    refine (HF.out _ (by first | exact Below.refl _ _ | assumption)).mono ?_
    rintro e w1 ⟨rfl, b1⟩
    go_wp2_with fail
    go_ret
    exact ⟨rfl, b1⟩
  · rw [if_neg hp, decide_eq_true (by omega)]
    have h2 : (0 ≤ p) := by omega
    have h3 : decide (0 ≤ p) = true := decide_eq_true h2
    have h4 : (p == max p 0) = true := by rw [beq_iff_eq]; omega
    go_enter Try.func18, Try.ntmps18
    go_wp2_with fail
    refine (HF.out _ (by first | exact Below.refl _ _ | assumption)).mono ?_
    rintro e w1 ⟨rfl, b1⟩
    go_wp2_with fail
    go_ret
    exact ⟨rfl, b1⟩
end Go.Proofs.Ytbhbnefifgdioaa.Hand

/- The rules' law: few, walked (gen_rulB.py). -/
set_option linter.unusedVariables false
set_option linter.unusedSimpArgs false
namespace Go.Proofs.Ytbhbnefifgdioaa.Hand
open Go Go.RowKit Go.Proofs.YtbhbnefifgdioaaW.PrintWords Go.Proofs.YtbhbnefifgdioaaW.PrintMore Go.Proofs.YtbhbnefifgdioaaW.PrintLast Go.Proofs.Ytbhbnefifgdioaa.RL Go.Proofs.Ytbhbnefifgdioaa.PL Go.Proofs.Ytbhbnefifgdioaa.K
def ltl {T : Type} (x : ByteArray × T) : Bool := decide (x.1.size ≤ 200)
/-- Is a setup small? -/
def fewS (l1 : List Acc) (l2 : List Sym) (l3 : List Ven) : Bool := (decide (l1.length ≤ 40) && (decide (l2.length ≤ 40) && decide (l3.length ≤ 40))) && (l1.all ltl && (l2.all ltl && l3.all ltl))
theorem fewS_no (l1 : List Acc) (l2 : List Sym) (l3 : List Ven) (h : ¬ (l1.length ≤ 40 ∧ l2.length ≤ 40 ∧ l3.length ≤ 40)) : fewS l1 l2 l3 = false := by
  unfold fewS
  rw [show (decide (l1.length ≤ 40) && (decide (l2.length ≤ 40) && decide (l3.length ≤ 40))) = false by
    rw [Bool.eq_false_iff]; intro hq; simp only [Bool.and_eq_true, decide_eq_true_eq] at hq; exact h hq]
  rfl
theorem fewS_yes (l1 : List Acc) (l2 : List Sym) (l3 : List Ven) (h : l1.length ≤ 40 ∧ l2.length ≤ 40 ∧ l3.length ≤ 40) : fewS l1 l2 l3 = (l1.all ltl && (l2.all ltl && l3.all ltl)) := by
  unfold fewS
  rw [decide_eq_true h.1, decide_eq_true h.2.1, decide_eq_true h.2.2]; rfl
theorem fewS_of {l1 : List Acc} {l2 : List Sym} {l3 : List Ven} (h : fewS l1 l2 l3 = true) : l1.length ≤ 40 ∧ l2.length ≤ 40 ∧ l3.length ≤ 40 ∧ (∀ x ∈ l1, x.1.size ≤ 200) ∧ (∀ x ∈ l2, x.1.size ≤ 200) ∧ (∀ x ∈ l3, x.1.size ≤ 200) := by
  unfold fewS ltl at h
  simp only [Bool.and_eq_true, decide_eq_true_eq, List.all_eq_true] at h
  obtain ⟨⟨a, b, c⟩, d, e, f⟩ := h
  exact ⟨a, b, c, d, e, f⟩
theorem ltl_no {T : Type} {l : List (ByteArray × T)} {k : Nat} (h : k < l.length) (h2 : 200 < (l[k].1.size : Int)) : l.all ltl = false := all_noF h (by unfold ltl; rw [decide_eq_false_iff_not]; omega)
theorem ltl_go {T : Type} {l : List (ByteArray × T)} {k : Nat} (h : k < l.length) (h1 : (l.take k).all ltl = true) (h2 : ¬ 200 < (l[k].1.size : Int)) : (l.take (k + 1)).all ltl = true := all_take h h1 (by unfold ltl; rw [decide_eq_true_eq]; omega)
set_option maxHeartbeats 8000000 in
set_option maxRecDepth 100000 in
theorem few_walk (A1 A2 A3 : Option Addr) (c1 c2 c3 : Nat) (l1 : List Acc) (l2 : List Sym) (l3 : List Ven) (p1 p2 p3 p4 p5 p6 : Int) (w : World)
    (h1 : Kd.C kA w A1 l1.length l1) (h2 : Kd.C kS w A2 l2.length l2) (h3 : Kd.C kV w A3 l3.length l3) :
    Calls Try.prog 7 #[.agg (setC (.slice A1 l1.length c1) (.slice A2 l2.length c2) (.slice A3 l3.length c3) p1 p2 p3 p4 p5 p6)] w fun e w' => e = .returned (.bool (fewS l1 l2 l3)) ∧ Below w.heap.size w w' := by
  have hO := Blk.new w 26 (setC (.slice A1 l1.length c1) (.slice A2 l2.length c2) (.slice A3 l3.length c3) p1 p2 p3 p4 p5 p6)
  have hB := (Below.refl w.heap.size w).alloc (Nat.le_refl _) (.cells (setC (.slice A1 l1.length c1) (.slice A2 l2.length c2) (.slice A3 l3.length c3) p1 p2 p3 p4 p5 p6) 26)
  have H1 := Lib.hid h1; have H2 := Lib.hid h2; have H3 := Lib.hid h3
  obtain ⟨v, hv⟩ : ∃ v, v = fewS l1 l2 l3 := ⟨_, rfl⟩
  rw [← hv]
  clear h1 h2 h3
  by_cases hr : l1.length ≤ 40 ∧ l2.length ≤ 40 ∧ l3.length ≤ 40
  · obtain ⟨g1, g2, g3⟩ := hr
    have HV := Lib.hid (hv.trans (fewS_yes l1 l2 l3 ⟨g1, g2, g3⟩))
    have d1 : decide ((40 : Int) < (l1.length : Int)) = false := decide_eq_false (by omega)
    have d2 : decide ((40 : Int) < (l2.length : Int)) = false := decide_eq_false (by omega)
    have d3 : decide ((40 : Int) < (l3.length : Int)) = false := decide_eq_false (by omega)
    clear hv
    go_enter Try.func7, Try.ntmps7
    go_wp2_with fail
    generalize w.alloc (.cells (setC (.slice A1 l1.length c1) (.slice A2 l2.length c2) (.slice A3 l3.length c3) p1 p2 p3 p4 p5 p6) 26) = w0 at *
    go_loopw [28] (fun i wr => ∃ k : Nat, k ≤ l1.length ∧ i = .int .i64 k ∧ Blk wr w.heap.size 26 (setC (.slice A1 l1.length c1) (.slice A2 l2.length c2) (.slice A3 l3.length c3) p1 p2 p3 p4 p5 p6) ∧ Below w.heap.size w wr ∧ Hid ((l1.take k).all ltl = true)) (fun i _ => l1.length - (intOf i).toNat)
    case atStart => exact ⟨0, Nat.zero_le _, rfl, hO, hB, Lib.hid rfl⟩
    case round =>
      clear hO hB
      obtain ⟨k, hk, rfl, hO, hB, HJ⟩ := hrel
      by_cases hlt : k < l1.length
      · obtain ⟨ad, rfl, hcell⟩ := at_A (Kd.C_below H1.out hB) k hlt
        have e1 : l1.getD k zA = l1[k] := by simp [hlt]
        rw [e1] at hcell
        have hno : 200 < (l1[k].1.size : Int) → v = false := fun q => HV.out.trans (by simp [ltl_no hlt q])
        have hgo : ¬ 200 < (l1[k].1.size : Int) → (l1.take (k + 1)).all ltl = true := fun q => ltl_go hlt HJ.out q
        generalize l1[k] = x at *
        have q0 : wr.cell? (ad.add (k * 2)) = some (.string x.1) := hcell 0 _ rfl
        have q1 : wr.cell? ⟨(ad.add (k * 2)).block, (ad.add (k * 2)).off + 1, none⟩ = some (.int .i64 x.2) := by rw [← add_field _ _ 1 (by omega)]; exact hcell 1 _ rfl
        have HNo := Lib.hid hno; have HGo := Lib.hid hgo
        clear hcell e1 hno hgo
        have hx := Blk.new wr 60 #[.string x.1, .int .i64 x.2]
        have b5 := (Below.refl wr.heap.size wr).alloc (Nat.le_refl _) (.cells #[.string x.1, .int .i64 x.2] 60)
        have hO5 := hO.on b5
        have hB5 := bt hB b5
        go_upto_region 6 with (fail)
        generalize wr.alloc (.cells #[.string x.1, .int .i64 x.2] 60) = v0 at *
        generalize wr.heap.size = ob at *
        clear q0 q1 hO hB b5
        have u0 : v0.cell? ⟨ob, 0, none⟩ = some (.string x.1) := hx.cell 0
        by_cases hsz : 200 < (x.1.size : Int)
        · have hvf := HNo.out hsz
          go_wp2_with fail
          go_ret
          exact ⟨by subst hvf; rfl, hB5⟩
        · have HK := Lib.hid (HGo.out hsz)
          go_wp2_with fail
          go_roundw
          case rel => exact ⟨k + 1, by omega, by go_num, hO5, hB5, HK⟩
          case measure => simp only [intOf]; omega
      · obtain rfl : l1.length = k := by omega
        rw [List.take_length] at HJ
        replace HV := Lib.hid (HV.out.trans (by rw [HJ.out, Bool.true_and]))
        clear HJ hk
        have y1 : wr.cell? ⟨w.heap.size, 1, none⟩ = some (.slice A2 l2.length c2) := hO.cell 1
        go_wp2_with fail
        clear y1 hlt
        go_loopw [40] (fun i wr => ∃ k : Nat, k ≤ l2.length ∧ i = .int .i64 k ∧ Blk wr w.heap.size 26 (setC (.slice A1 l1.length c1) (.slice A2 l2.length c2) (.slice A3 l3.length c3) p1 p2 p3 p4 p5 p6) ∧ Below w.heap.size w wr ∧ Hid ((l2.take k).all ltl = true)) (fun i _ => l2.length - (intOf i).toNat)
        case atStart => exact ⟨0, Nat.zero_le _, rfl, hO, hB, Lib.hid rfl⟩
        case round =>
          clear hO hB
          obtain ⟨k, hk, rfl, hO, hB, HJ⟩ := hrel
          by_cases hlt : k < l2.length
          · obtain ⟨ad, rfl, hcell⟩ := at_S (Kd.C_below H2.out hB) k hlt
            have e1 : l2.getD k zS = l2[k] := by simp [hlt]
            rw [e1] at hcell
            have hno : 200 < (l2[k].1.size : Int) → v = false := fun q => HV.out.trans (by simp [ltl_no hlt q])
            have hgo : ¬ 200 < (l2[k].1.size : Int) → (l2.take (k + 1)).all ltl = true := fun q => ltl_go hlt HJ.out q
            generalize l2[k] = x at *
            have q0 : wr.cell? (ad.add (k * 7)) = some (.string x.1) := hcell 0 _ rfl
            have q1 : wr.cell? ⟨(ad.add (k * 7)).block, (ad.add (k * 7)).off + 1, none⟩ = some (.int .i64 x.2.1) := by rw [← add_field _ _ 1 (by omega)]; exact hcell 1 _ rfl
            have q2 : wr.cell? ⟨(ad.add (k * 7)).block, (ad.add (k * 7)).off + 2, none⟩ = some (.int .i64 x.2.2.1) := by rw [← add_field _ _ 2 (by omega)]; exact hcell 2 _ rfl
            have q3 : wr.cell? ⟨(ad.add (k * 7)).block, (ad.add (k * 7)).off + 3, none⟩ = some (.int .i64 x.2.2.2.1) := by rw [← add_field _ _ 3 (by omega)]; exact hcell 3 _ rfl
            have q4 : wr.cell? ⟨(ad.add (k * 7)).block, (ad.add (k * 7)).off + 4, none⟩ = some (.int .i64 x.2.2.2.2.1) := by rw [← add_field _ _ 4 (by omega)]; exact hcell 4 _ rfl
            have q5 : wr.cell? ⟨(ad.add (k * 7)).block, (ad.add (k * 7)).off + 5, none⟩ = some (.int .i64 x.2.2.2.2.2.1) := by rw [← add_field _ _ 5 (by omega)]; exact hcell 5 _ rfl
            have q6 : wr.cell? ⟨(ad.add (k * 7)).block, (ad.add (k * 7)).off + 6, none⟩ = some (.int .i64 x.2.2.2.2.2.2) := by rw [← add_field _ _ 6 (by omega)]; exact hcell 6 _ rfl
            have HNo := Lib.hid hno; have HGo := Lib.hid hgo
            clear hcell e1 hno hgo
            have hx := Blk.new wr 41 #[.string x.1, .int .i64 x.2.1, .int .i64 x.2.2.1, .int .i64 x.2.2.2.1, .int .i64 x.2.2.2.2.1, .int .i64 x.2.2.2.2.2.1, .int .i64 x.2.2.2.2.2.2]
            have b5 := (Below.refl wr.heap.size wr).alloc (Nat.le_refl _) (.cells #[.string x.1, .int .i64 x.2.1, .int .i64 x.2.2.1, .int .i64 x.2.2.2.1, .int .i64 x.2.2.2.2.1, .int .i64 x.2.2.2.2.2.1, .int .i64 x.2.2.2.2.2.2] 41)
            have hO5 := hO.on b5
            have hB5 := bt hB b5
            go_upto_region 12 with (fail)
            generalize wr.alloc (.cells #[.string x.1, .int .i64 x.2.1, .int .i64 x.2.2.1, .int .i64 x.2.2.2.1, .int .i64 x.2.2.2.2.1, .int .i64 x.2.2.2.2.2.1, .int .i64 x.2.2.2.2.2.2] 41) = v0 at *
            generalize wr.heap.size = ob at *
            clear q0 q1 q2 q3 q4 q5 q6 hO hB b5
            have u0 : v0.cell? ⟨ob, 0, none⟩ = some (.string x.1) := hx.cell 0
            by_cases hsz : 200 < (x.1.size : Int)
            · have hvf := HNo.out hsz
              go_wp2_with fail
              go_ret
              exact ⟨by subst hvf; rfl, hB5⟩
            · have HK := Lib.hid (HGo.out hsz)
              go_wp2_with fail
              go_roundw
              case rel => exact ⟨k + 1, by omega, by go_num, hO5, hB5, HK⟩
              case measure => simp only [intOf]; omega
          · obtain rfl : l2.length = k := by omega
            rw [List.take_length] at HJ
            replace HV := Lib.hid (HV.out.trans (by rw [HJ.out, Bool.true_and]))
            clear HJ hk
            have y2 : wr.cell? ⟨w.heap.size, 2, none⟩ = some (.slice A3 l3.length c3) := hO.cell 2
            go_wp2_with fail
            clear y2 hlt
            go_loopw [52] (fun i wr => ∃ k : Nat, k ≤ l3.length ∧ i = .int .i64 k ∧ Blk wr w.heap.size 26 (setC (.slice A1 l1.length c1) (.slice A2 l2.length c2) (.slice A3 l3.length c3) p1 p2 p3 p4 p5 p6) ∧ Below w.heap.size w wr ∧ Hid ((l3.take k).all ltl = true)) (fun i _ => l3.length - (intOf i).toNat)
            case atStart => exact ⟨0, Nat.zero_le _, rfl, hO, hB, Lib.hid rfl⟩
            case round =>
              clear hO hB
              obtain ⟨k, hk, rfl, hO, hB, HJ⟩ := hrel
              by_cases hlt : k < l3.length
              · obtain ⟨ad, rfl, hcell⟩ := at_V (Kd.C_below H3.out hB) k hlt
                have e1 : l3.getD k zV = l3[k] := by simp [hlt]
                rw [e1] at hcell
                have hno : 200 < (l3[k].1.size : Int) → v = false := fun q => HV.out.trans (by simp [ltl_no hlt q])
                have hgo : ¬ 200 < (l3[k].1.size : Int) → (l3.take (k + 1)).all ltl = true := fun q => ltl_go hlt HJ.out q
                generalize l3[k] = x at *
                have q0 : wr.cell? (ad.add (k * 5)) = some (.string x.1) := hcell 0 _ rfl
                have q1 : wr.cell? ⟨(ad.add (k * 5)).block, (ad.add (k * 5)).off + 1, none⟩ = some (.int .i64 x.2.1) := by rw [← add_field _ _ 1 (by omega)]; exact hcell 1 _ rfl
                have q2 : wr.cell? ⟨(ad.add (k * 5)).block, (ad.add (k * 5)).off + 2, none⟩ = some (.int .i64 x.2.2.1) := by rw [← add_field _ _ 2 (by omega)]; exact hcell 2 _ rfl
                have q3 : wr.cell? ⟨(ad.add (k * 5)).block, (ad.add (k * 5)).off + 3, none⟩ = some (.int .i64 x.2.2.2.1) := by rw [← add_field _ _ 3 (by omega)]; exact hcell 3 _ rfl
                have q4 : wr.cell? ⟨(ad.add (k * 5)).block, (ad.add (k * 5)).off + 4, none⟩ = some (.bool x.2.2.2.2) := by rw [← add_field _ _ 4 (by omega)]; exact hcell 4 _ rfl
                have HNo := Lib.hid hno; have HGo := Lib.hid hgo
                clear hcell e1 hno hgo
                have hx := Blk.new wr 62 #[.string x.1, .int .i64 x.2.1, .int .i64 x.2.2.1, .int .i64 x.2.2.2.1, .bool x.2.2.2.2]
                have b5 := (Below.refl wr.heap.size wr).alloc (Nat.le_refl _) (.cells #[.string x.1, .int .i64 x.2.1, .int .i64 x.2.2.1, .int .i64 x.2.2.2.1, .bool x.2.2.2.2] 62)
                have hO5 := hO.on b5
                have hB5 := bt hB b5
                go_upto_region 18 with (fail)
                generalize wr.alloc (.cells #[.string x.1, .int .i64 x.2.1, .int .i64 x.2.2.1, .int .i64 x.2.2.2.1, .bool x.2.2.2.2] 62) = v0 at *
                generalize wr.heap.size = ob at *
                clear q0 q1 q2 q3 q4 hO hB b5
                have u0 : v0.cell? ⟨ob, 0, none⟩ = some (.string x.1) := hx.cell 0
                by_cases hsz : 200 < (x.1.size : Int)
                · have hvf := HNo.out hsz
                  go_wp2_with fail
                  go_ret
                  exact ⟨by subst hvf; rfl, hB5⟩
                · have HK := Lib.hid (HGo.out hsz)
                  go_wp2_with fail
                  go_roundw
                  case rel => exact ⟨k + 1, by omega, by go_num, hO5, hB5, HK⟩
                  case measure => simp only [intOf]; omega
              · obtain rfl : l3.length = k := by omega
                rw [List.take_length] at HJ
                replace HV := Lib.hid (HV.out.trans (by rw [HJ.out]))
                clear HJ hk
                have hvt := HV.out
                go_wp2_with fail
                go_ret
                exact ⟨by subst hvt; rfl, hB⟩
  · have hvf := hv.trans (fewS_no l1 l2 l3 hr)
    clear hv H1 H2 H3
    by_cases g1 : l1.length ≤ 40
    · by_cases g2 : l2.length ≤ 40
      · have g3 : ¬ l3.length ≤ 40 := fun h => hr ⟨g1, g2, h⟩
        clear hr
        have d1 : decide ((40 : Int) < (l1.length : Int)) = false := decide_eq_false (by omega)
        have d2 : decide ((40 : Int) < (l2.length : Int)) = false := decide_eq_false (by omega)
        have d3 : decide ((40 : Int) < (l3.length : Int)) = true := decide_eq_true (by omega)
        go_enter Try.func7, Try.ntmps7
        go_wp2_with fail
        go_ret
        exact ⟨by subst hvf; rfl, hB⟩
      · clear hr
        have d1 : decide ((40 : Int) < (l1.length : Int)) = false := decide_eq_false (by omega)
        have d2 : decide ((40 : Int) < (l2.length : Int)) = true := decide_eq_true (by omega)
        go_enter Try.func7, Try.ntmps7
        go_wp2_with fail
        go_ret
        exact ⟨by subst hvf; rfl, hB⟩
    · clear hr
      have d1 : decide ((40 : Int) < (l1.length : Int)) = true := decide_eq_true (by omega)
      go_enter Try.func7, Try.ntmps7
      go_wp2_with fail
      go_ret
      exact ⟨by subst hvf; rfl, hB⟩
end Go.Proofs.Ytbhbnefifgdioaa.Hand

/- The rules' law: what comes in as lists of a setup. -/
set_option linter.unusedVariables false
set_option linter.unusedSimpArgs false
namespace Go.Proofs.Ytbhbnefifgdioaa.Hand
open Go Go.RowKit Go.Proofs.YtbhbnefifgdioaaW.PrintWords Go.Proofs.YtbhbnefifgdioaaW.PrintMore Go.Proofs.YtbhbnefifgdioaaW.PrintLast Go.Proofs.Ytbhbnefifgdioaa.RL Go.Proofs.Ytbhbnefifgdioaa.PL Go.Proofs.Ytbhbnefifgdioaa.K
/-- Out of a row's facts: what a list reads as. -/
theorem C_rows {T : Type} (d : Kd T) (cl : T → List Value) (n : Nat) (hcl : ∀ x, (cl x).length = n) (hK : ∀ w x, d.K w x (cl x)) (hsz : d.sz = n) {w : World} {A : Option Addr} {l : List T} (hlen : l.length ≤ 9223372036854775807)
    (h : l = [] ∨ ∃ x, A = some x ∧ ∀ i (h : i < l.length), ∀ j u, (cl l[i])[j]? = some u → w.cell? (x.add (i * n + j)) = some u) : Kd.C d w A l.length l := by
  refine ⟨rfl, hlen, fun hn => ?_⟩
  rcases h with rfl | ⟨x, rfl, hc⟩
  · exact absurd hn (by simp)
  · refine ⟨x, rfl, fun j p hj => ?_⟩
    obtain ⟨hjl, rfl⟩ := List.getElem?_eq_some_iff.1 hj
    refine ⟨cl l[j], (hcl _).trans hsz.symm, hK w _, fun i u hu => ?_⟩
    rw [hsz]
    exact hc j hjl i u hu
theorem len_row {T : Type} {A : Option Addr} {k : Nat} {l : List T} {P : Addr → Prop} (h : (A = none ∧ k = 0 ∧ l = []) ∨ ∃ x, A = some x ∧ l.length ≤ k ∧ k ≤ maxLen ∧ P x) : l.length ≤ k ∧ l.length ≤ 9223372036854775807 := by
  have hmx : maxLen ≤ 9223372036854775807 := by decide
  rcases h with ⟨_, rfl, rfl⟩ | ⟨x, _, h1, h2, _⟩
  · simp
  · exact ⟨h1, by omega⟩
theorem rowA {A : Option Addr} {k : Nat} {l : List Acc} {W : World} (h : (A = none ∧ k = 0 ∧ l = []) ∨ ∃ x, A = some x ∧ l.length ≤ k ∧ k ≤ maxLen ∧ ∀ i (h : i < l.length), W.cell? (x.add (i * 2 + 0)) = some (.string l[i].1) ∧ W.cell? (x.add (i * 2 + 1)) = some (.int .i64 l[i].2) ∧ (Lit.int .i64 l[i].2).wf = true ∧ l[i].1.size ≤ maxLen) : Kd.C kA W A l.length l := by
  refine C_rows kA cA 2 (fun _ => rfl) (fun w x => kA_mk w x) rfl (len_row h).2 ?_
  rcases h with ⟨_, _, rfl⟩ | ⟨x, rfl, _, _, hc⟩
  · exact .inl rfl
  · refine .inr ⟨x, rfl, fun i hi j u hu => ?_⟩
    obtain ⟨c0, c1, _⟩ := hc i hi
    match j, hu with
    | 0, hu => obtain rfl : _ = u := (by simpa [cA] using hu); exact c0
    | 1, hu => obtain rfl : _ = u := (by simpa [cA] using hu); exact c1
    | j + 2, hu => simp [cA] at hu
theorem rowS {A : Option Addr} {k : Nat} {l : List Sym} {W : World} (h : (A = none ∧ k = 0 ∧ l = []) ∨ ∃ x, A = some x ∧ l.length ≤ k ∧ k ≤ maxLen ∧ ∀ i (h : i < l.length), W.cell? (x.add (i * 7 + 0)) = some (.string l[i].1) ∧ W.cell? (x.add (i * 7 + 1)) = some (.int .i64 l[i].2.1) ∧ W.cell? (x.add (i * 7 + 2)) = some (.int .i64 l[i].2.2.1) ∧ W.cell? (x.add (i * 7 + 3)) = some (.int .i64 l[i].2.2.2.1) ∧ W.cell? (x.add (i * 7 + 4)) = some (.int .i64 l[i].2.2.2.2.1) ∧ W.cell? (x.add (i * 7 + 5)) = some (.int .i64 l[i].2.2.2.2.2.1) ∧ W.cell? (x.add (i * 7 + 6)) = some (.int .i64 l[i].2.2.2.2.2.2) ∧ (Lit.int .i64 l[i].2.1).wf = true ∧ (Lit.int .i64 l[i].2.2.1).wf = true ∧ (Lit.int .i64 l[i].2.2.2.1).wf = true ∧ (Lit.int .i64 l[i].2.2.2.2.1).wf = true ∧ (Lit.int .i64 l[i].2.2.2.2.2.1).wf = true ∧ (Lit.int .i64 l[i].2.2.2.2.2.2).wf = true ∧ l[i].1.size ≤ maxLen) : Kd.C kS W A l.length l := by
  refine C_rows kS cS 7 (fun _ => rfl) (fun w x => kS_mk w x) rfl (len_row h).2 ?_
  rcases h with ⟨_, _, rfl⟩ | ⟨x, rfl, _, _, hc⟩
  · exact .inl rfl
  · refine .inr ⟨x, rfl, fun i hi j u hu => ?_⟩
    obtain ⟨c0, c1, c2, c3, c4, c5, c6, _⟩ := hc i hi
    match j, hu with
    | 0, hu => obtain rfl : _ = u := (by simpa [cS] using hu); exact c0
    | 1, hu => obtain rfl : _ = u := (by simpa [cS] using hu); exact c1
    | 2, hu => obtain rfl : _ = u := (by simpa [cS] using hu); exact c2
    | 3, hu => obtain rfl : _ = u := (by simpa [cS] using hu); exact c3
    | 4, hu => obtain rfl : _ = u := (by simpa [cS] using hu); exact c4
    | 5, hu => obtain rfl : _ = u := (by simpa [cS] using hu); exact c5
    | 6, hu => obtain rfl : _ = u := (by simpa [cS] using hu); exact c6
    | j + 7, hu => simp [cS] at hu
theorem rowV {A : Option Addr} {k : Nat} {l : List Ven} {W : World} (h : (A = none ∧ k = 0 ∧ l = []) ∨ ∃ x, A = some x ∧ l.length ≤ k ∧ k ≤ maxLen ∧ ∀ i (h : i < l.length), W.cell? (x.add (i * 5 + 0)) = some (.string l[i].1) ∧ W.cell? (x.add (i * 5 + 1)) = some (.int .i64 l[i].2.1) ∧ W.cell? (x.add (i * 5 + 2)) = some (.int .i64 l[i].2.2.1) ∧ W.cell? (x.add (i * 5 + 3)) = some (.int .i64 l[i].2.2.2.1) ∧ W.cell? (x.add (i * 5 + 4)) = some (.bool l[i].2.2.2.2) ∧ (Lit.int .i64 l[i].2.1).wf = true ∧ (Lit.int .i64 l[i].2.2.1).wf = true ∧ (Lit.int .i64 l[i].2.2.2.1).wf = true ∧ l[i].1.size ≤ maxLen) : Kd.C kV W A l.length l := by
  refine C_rows kV cV 5 (fun _ => rfl) (fun w x => kV_mk w x) rfl (len_row h).2 ?_
  rcases h with ⟨_, _, rfl⟩ | ⟨x, rfl, _, _, hc⟩
  · exact .inl rfl
  · refine .inr ⟨x, rfl, fun i hi j u hu => ?_⟩
    obtain ⟨c0, c1, c2, c3, c4, _⟩ := hc i hi
    match j, hu with
    | 0, hu => obtain rfl : _ = u := (by simpa [cV] using hu); exact c0
    | 1, hu => obtain rfl : _ = u := (by simpa [cV] using hu); exact c1
    | 2, hu => obtain rfl : _ = u := (by simpa [cV] using hu); exact c2
    | 3, hu => obtain rfl : _ = u := (by simpa [cV] using hu); exact c3
    | 4, hu => obtain rfl : _ = u := (by simpa [cV] using hu); exact c4
    | j + 5, hu => simp [cV] at hu
end Go.Proofs.Ytbhbnefifgdioaa.Hand

