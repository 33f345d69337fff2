/- Texts laid together by join.py: WalkRulesFinds FindsEnd. -/
import Derived.Test.YtbhbnefifgdioaaRJ4
/- RulesFinds: accounts, symbols and venues are found by their names, and each symbol has its band; any setup, any text, any number; no condition (gen_rulF.py). -/
set_option linter.unusedVariables false
set_option linter.unusedSimpArgs false
namespace Go.Proofs.Ytbhbnefifgdioaa.Hand
open Go Go.RowKit Go.Proofs.YtbhbnefifgdioaaW.PrintWords Go.Proofs.YtbhbnefifgdioaaW.PrintMore Go.Proofs.YtbhbnefifgdioaaW.PrintLast Go.Proofs.Ytbhbnefifgdioaa.RL Go.Proofs.Ytbhbnefifgdioaa.PL Go.Proofs.Ytbhbnefifgdioaa.K
theorem eqSym (d : Nat) (w : World) (s s' : ByteArray) (x1 x2 x3 x4 x5 x6 y1 y2 y3 y4 y5 y6 : Int) :
    (Op.equalIn (d + 2) 52 (.agg #[.string s, .int .i64 x1, .int .i64 x2, .int .i64 x3, .int .i64 x4, .int .i64 x5, .int .i64 x6]) (.agg #[.string s', .int .i64 y1, .int .i64 y2, .int .i64 y3, .int .i64 y4, .int .i64 y5, .int .i64 y6])).run Try.prog w = .ok (s.toList == s'.toList && (x1 == y1 && (x2 == y2 && (x3 == y3 && (x4 == y4 && (x5 == y5 && (x6 == y6))))))) w := by
  refine eqA_of Try.underlying52 (by kernel_rfl) ?_
  refine eqf_cons (by rfl) (by go_simp; rfl) (by go_simp; rfl) (by go_simp) ?_
  refine eqf_cons (by rfl) (by go_simp; rfl) (by go_simp; rfl) (by go_simp) ?_
  refine eqf_cons (by rfl) (by go_simp; rfl) (by go_simp; rfl) (by go_simp) ?_
  refine eqf_cons (by rfl) (by go_simp; rfl) (by go_simp; rfl) (by go_simp) ?_
  refine eqf_cons (by rfl) (by go_simp; rfl) (by go_simp; rfl) (by go_simp) ?_
  refine eqf_cons (by rfl) (by go_simp; rfl) (by go_simp; rfl) (by go_simp) ?_
  exact eqf_last (by rfl) (by go_simp; rfl) (by go_simp; rfl) (by go_simp)
attribute [local go_sem high] eqSym
theorem diff_len {xs : List ByteArray} {m : Int} (h : diffS xs m = true) : 1 ≤ xs.length := by
  unfold diffS at h
  simp only [Bool.and_eq_true, decide_eq_true_eq] at h
  omega
theorem chk_len {l1 : List Acc} {l2 : List Sym} {l3 : List Ven} {p1 p2 p3 p4 p5 p6 : Int} (h : chkS l1 l2 l3 p1 p2 p3 p4 p5 p6 = true) : 1 ≤ l2.length := by
  unfold chkS at h
  simp only [Bool.and_eq_true] at h
  have := diff_len h.2.1.1
  rwa [List.length_map] at this
theorem chk_nodup {l1 : List Acc} {l2 : List Sym} {l3 : List Ven} {p1 p2 p3 p4 p5 p6 : Int} (h : chkS l1 l2 l3 p1 p2 p3 p4 p5 p6 = true) : (l1.map (·.1)).Nodup ∧ (l2.map (·.1)).Nodup ∧ (l3.map (·.1)).Nodup := by
  unfold chkS diffS at h
  simp only [Bool.and_eq_true, decide_eq_true_eq] at h
  exact ⟨h.1.1.2, h.2.1.1.2, h.2.2.1.1.2⟩
theorem chk_tick {l1 : List Acc} {l2 : List Sym} {l3 : List Ven} {p1 p2 p3 p4 p5 p6 : Int} (h : chkS l1 l2 l3 p1 p2 p3 p4 p5 p6 = true) {i : Nat} (hi : i < l2.length) : in64 (l2[i]).2.2.1 := by
  unfold chkS at h
  simp only [Bool.and_eq_true] at h
  have := List.all_eq_true.1 h.2.1.2 _ (List.getElem_mem hi)
  unfold symB btw at this
  simp only [Bool.and_eq_true, decide_eq_true_eq] at this
  unfold in64
  omega
theorem rband_calls (m w t : Int) (ht : in64 t) (W : World) : Calls Try.prog 16 #[.int .i64 m, .int .i64 w, .int .i64 t] W fun e W' => e = .returned (.tuple #[.int .i64 (bandS m w t).1, .int .i64 (bandS m w t).2.1, .int .i64 (bandS m w t).2.2]) ∧ Below W.heap.size W W' :=
  spigotref02_Band.calls 2 _ _ _ _ _ _ W (rband_is m w t ht 2 (Nat.le_refl _))
theorem at_below {w w' : World} {a : Addr} {n : Nat} {cs : List Value} (h : ∀ j u, cs[j]? = some u → w.cell? (a.add (n + j)) = some u) (b : Below w.heap.size w w') (j : Nat) (u : Value) (hu : cs[j]? = some u) : w'.cell? (a.add (n + j)) = some u := by
  have h1 := h j u hu
  exact (b.cell (World.block_lt_of_cell? w _ h1)).trans h1
theorem at0 {w w' : World} {a : Addr} {cs : List Value} (h : ∀ j u, cs[j]? = some u → w.cell? (a.add (0 + j)) = some u) (b : Below w.heap.size w w') (j : Nat) (u : Value) (hu : cs[j]? = some u) : w'.cell? (if j = 0 then a else ⟨a.block, a.off + j, none⟩) = some u := by
  have := at_below h b j u hu
  rw [Nat.zero_add] at this
  exact this
theorem own_blk {u : World} {base n e2 sz : Nat} {t : TypeId} {G : Option Addr} {inner : List Value} (h : u.ownsRow base t sz (.slice G n e2) n inner) (hn : 1 ≤ n) : ∃ gb cur, G = some ⟨gb, 0, none⟩ ∧ base ≤ gb ∧ gb < u.heap.size ∧ Blk u gb t cur ∧ n * sz ≤ cur.size := by
  obtain ⟨_, ⟨_, h0⟩ | ⟨g, cap, cur, e, hb, hh, hc, _, hs, _⟩⟩ := h
  · omega
  · injection e with e1 e2 e3
    have hB : Blk u g t cur := hh
    exact ⟨g, cur, e1, hb, hB.lt, hB, by rw [hs]; exact Nat.mul_le_mul_right _ hc⟩
theorem add0 {ad : Addr} {gb : Nat} (h : ad = ⟨gb, 0, none⟩) (n : Nat) : ad.add n = ⟨gb, n, none⟩ := by
  subst h
  unfold Addr.add
  split
  · rename_i h0; subst h0; rfl
  · simp
theorem sym_cells {w : World} {gb k : Nat} {t : TypeId} {cur : Array Value} {ad : Addr} (h : Blk w gb t cur) (had : ad = ⟨gb, 0, none⟩) (hs : (k + 1) * 7 ≤ cur.size) : ∃ x0 x1 x2 x3 x4 x5 x6, w.cell? (ad.add (k * 7)) = some x0 ∧ (w.setCell (ad.add (k * 7)) (.string ⟨#[]⟩)).cell? ⟨(ad.add (k * 7)).block, (ad.add (k * 7)).off + 1, none⟩ = some x1 ∧ ((w.setCell (ad.add (k * 7)) (.string ⟨#[]⟩)).setCell ⟨(ad.add (k * 7)).block, (ad.add (k * 7)).off + 1, none⟩ (.int .i64 0)).cell? ⟨(ad.add (k * 7)).block, (ad.add (k * 7)).off + 2, none⟩ = some x2 ∧ (((w.setCell (ad.add (k * 7)) (.string ⟨#[]⟩)).setCell ⟨(ad.add (k * 7)).block, (ad.add (k * 7)).off + 1, none⟩ (.int .i64 0)).setCell ⟨(ad.add (k * 7)).block, (ad.add (k * 7)).off + 2, none⟩ (.int .i64 0)).cell? ⟨(ad.add (k * 7)).block, (ad.add (k * 7)).off + 3, none⟩ = some x3 ∧ ((((w.setCell (ad.add (k * 7)) (.string ⟨#[]⟩)).setCell ⟨(ad.add (k * 7)).block, (ad.add (k * 7)).off + 1, none⟩ (.int .i64 0)).setCell ⟨(ad.add (k * 7)).block, (ad.add (k * 7)).off + 2, none⟩ (.int .i64 0)).setCell ⟨(ad.add (k * 7)).block, (ad.add (k * 7)).off + 3, none⟩ (.int .i64 0)).cell? ⟨(ad.add (k * 7)).block, (ad.add (k * 7)).off + 4, none⟩ = some x4 ∧ (((((w.setCell (ad.add (k * 7)) (.string ⟨#[]⟩)).setCell ⟨(ad.add (k * 7)).block, (ad.add (k * 7)).off + 1, none⟩ (.int .i64 0)).setCell ⟨(ad.add (k * 7)).block, (ad.add (k * 7)).off + 2, none⟩ (.int .i64 0)).setCell ⟨(ad.add (k * 7)).block, (ad.add (k * 7)).off + 3, none⟩ (.int .i64 0)).setCell ⟨(ad.add (k * 7)).block, (ad.add (k * 7)).off + 4, none⟩ (.int .i64 0)).cell? ⟨(ad.add (k * 7)).block, (ad.add (k * 7)).off + 5, none⟩ = some x5 ∧ ((((((w.setCell (ad.add (k * 7)) (.string ⟨#[]⟩)).setCell ⟨(ad.add (k * 7)).block, (ad.add (k * 7)).off + 1, none⟩ (.int .i64 0)).setCell ⟨(ad.add (k * 7)).block, (ad.add (k * 7)).off + 2, none⟩ (.int .i64 0)).setCell ⟨(ad.add (k * 7)).block, (ad.add (k * 7)).off + 3, none⟩ (.int .i64 0)).setCell ⟨(ad.add (k * 7)).block, (ad.add (k * 7)).off + 4, none⟩ (.int .i64 0)).setCell ⟨(ad.add (k * 7)).block, (ad.add (k * 7)).off + 5, none⟩ (.int .i64 0)).cell? ⟨(ad.add (k * 7)).block, (ad.add (k * 7)).off + 6, none⟩ = some x6 ∧ w.frozen? (ad.add (k * 7)) = false ∧ (w.setCell (ad.add (k * 7)) (.string ⟨#[]⟩)).frozen? ⟨(ad.add (k * 7)).block, (ad.add (k * 7)).off + 1, none⟩ = false ∧ ((w.setCell (ad.add (k * 7)) (.string ⟨#[]⟩)).setCell ⟨(ad.add (k * 7)).block, (ad.add (k * 7)).off + 1, none⟩ (.int .i64 0)).frozen? ⟨(ad.add (k * 7)).block, (ad.add (k * 7)).off + 2, none⟩ = false ∧ (((w.setCell (ad.add (k * 7)) (.string ⟨#[]⟩)).setCell ⟨(ad.add (k * 7)).block, (ad.add (k * 7)).off + 1, none⟩ (.int .i64 0)).setCell ⟨(ad.add (k * 7)).block, (ad.add (k * 7)).off + 2, none⟩ (.int .i64 0)).frozen? ⟨(ad.add (k * 7)).block, (ad.add (k * 7)).off + 3, none⟩ = false ∧ ((((w.setCell (ad.add (k * 7)) (.string ⟨#[]⟩)).setCell ⟨(ad.add (k * 7)).block, (ad.add (k * 7)).off + 1, none⟩ (.int .i64 0)).setCell ⟨(ad.add (k * 7)).block, (ad.add (k * 7)).off + 2, none⟩ (.int .i64 0)).setCell ⟨(ad.add (k * 7)).block, (ad.add (k * 7)).off + 3, none⟩ (.int .i64 0)).frozen? ⟨(ad.add (k * 7)).block, (ad.add (k * 7)).off + 4, none⟩ = false ∧ (((((w.setCell (ad.add (k * 7)) (.string ⟨#[]⟩)).setCell ⟨(ad.add (k * 7)).block, (ad.add (k * 7)).off + 1, none⟩ (.int .i64 0)).setCell ⟨(ad.add (k * 7)).block, (ad.add (k * 7)).off + 2, none⟩ (.int .i64 0)).setCell ⟨(ad.add (k * 7)).block, (ad.add (k * 7)).off + 3, none⟩ (.int .i64 0)).setCell ⟨(ad.add (k * 7)).block, (ad.add (k * 7)).off + 4, none⟩ (.int .i64 0)).frozen? ⟨(ad.add (k * 7)).block, (ad.add (k * 7)).off + 5, none⟩ = false ∧ ((((((w.setCell (ad.add (k * 7)) (.string ⟨#[]⟩)).setCell ⟨(ad.add (k * 7)).block, (ad.add (k * 7)).off + 1, none⟩ (.int .i64 0)).setCell ⟨(ad.add (k * 7)).block, (ad.add (k * 7)).off + 2, none⟩ (.int .i64 0)).setCell ⟨(ad.add (k * 7)).block, (ad.add (k * 7)).off + 3, none⟩ (.int .i64 0)).setCell ⟨(ad.add (k * 7)).block, (ad.add (k * 7)).off + 4, none⟩ (.int .i64 0)).setCell ⟨(ad.add (k * 7)).block, (ad.add (k * 7)).off + 5, none⟩ (.int .i64 0)).frozen? ⟨(ad.add (k * 7)).block, (ad.add (k * 7)).off + 6, none⟩ = false := by
  rw [add0 had]
  have h1 := h.put (k * 7) (.string ⟨#[]⟩)
  have h2 := h1.put (k * 7 + 1) (.int .i64 0)
  have h3 := h2.put (k * 7 + 2) (.int .i64 0)
  have h4 := h3.put (k * 7 + 3) (.int .i64 0)
  have h5 := h4.put (k * 7 + 4) (.int .i64 0)
  have h6 := h5.put (k * 7 + 5) (.int .i64 0)
  have q0 := (h.cell (k * 7)).trans (Array.getElem?_eq_getElem (by first | omega | (simp only [Array.size_setIfInBounds]; omega)))
  have q1 := (h1.cell (k * 7 + 1)).trans (Array.getElem?_eq_getElem (by first | omega | (simp only [Array.size_setIfInBounds]; omega)))
  have q2 := (h2.cell (k * 7 + 2)).trans (Array.getElem?_eq_getElem (by first | omega | (simp only [Array.size_setIfInBounds]; omega)))
  have q3 := (h3.cell (k * 7 + 3)).trans (Array.getElem?_eq_getElem (by first | omega | (simp only [Array.size_setIfInBounds]; omega)))
  have q4 := (h4.cell (k * 7 + 4)).trans (Array.getElem?_eq_getElem (by first | omega | (simp only [Array.size_setIfInBounds]; omega)))
  have q5 := (h5.cell (k * 7 + 5)).trans (Array.getElem?_eq_getElem (by first | omega | (simp only [Array.size_setIfInBounds]; omega)))
  have q6 := (h6.cell (k * 7 + 6)).trans (Array.getElem?_eq_getElem (by first | omega | (simp only [Array.size_setIfInBounds]; omega)))
  exact ⟨_, _, _, _, _, _, _, q0, q1, q2, q3, q4, q5, q6, h.frozen _, h1.frozen _, h2.frozen _, h3.frozen _, h4.frozen _, h5.frozen _, h6.frozen _⟩
/-- A symbol that nothing is written into. -/
abbrev symZ (w : World) (ad : Addr) (k : Nat) : World := (((((((w.setCell (ad.add (k * 7)) (.string ⟨#[]⟩)).setCell ⟨(ad.add (k * 7)).block, (ad.add (k * 7)).off + 1, none⟩ (.int .i64 0)).setCell ⟨(ad.add (k * 7)).block, (ad.add (k * 7)).off + 2, none⟩ (.int .i64 0)).setCell ⟨(ad.add (k * 7)).block, (ad.add (k * 7)).off + 3, none⟩ (.int .i64 0)).setCell ⟨(ad.add (k * 7)).block, (ad.add (k * 7)).off + 4, none⟩ (.int .i64 0)).setCell ⟨(ad.add (k * 7)).block, (ad.add (k * 7)).off + 5, none⟩ (.int .i64 0)).setCell ⟨(ad.add (k * 7)).block, (ad.add (k * 7)).off + 6, none⟩ (.int .i64 0))
theorem put_sym {w : World} {gb k n : Nat} {t : TypeId} {cur : Array Value} {ad : Addr} (h : Blk w gb t cur) (had : ad = ⟨gb, 0, none⟩) (hs : n * 7 ≤ cur.size) (hk : k < n) : ∃ cur : Array Value, Blk (symZ w ad k) gb t cur ∧ n * 7 ≤ cur.size := by
  unfold symZ
  rw [add0 had]
  exact ⟨_, (((((((h.put _ _).put _ _).put _ _).put _ _).put _ _).put _ _).put _ _), by simp only [Array.size_setIfInBounds]; exact hs⟩
theorem far_sym {w : World} {gb g k : Nat} {t : TypeId} {C : Array Value} {ad : Addr} (h : Blk w g t C) (had : ad = ⟨gb, 0, none⟩) (hne : g ≠ gb) : Blk (symZ w ad k) g t C := by
  unfold symZ
  rw [add0 had]
  exact ((((((h.far (show g ≠ _ from hne) _).far (show g ≠ _ from hne) _).far (show g ≠ _ from hne) _).far (show g ≠ _ from hne) _).far (show g ≠ _ from hne) _).far (show g ≠ _ from hne) _).far (show g ≠ _ from hne) _
theorem bel_sym {w0 w : World} {b gb k : Nat} {ad : Addr} (h : Below b w0 w) (had : ad = ⟨gb, 0, none⟩) (hb : b ≤ gb) : Below b w0 (symZ w ad k) := by
  unfold symZ
  rw [add0 had]
  exact ((((((h.setCell (show b ≤ _ from hb) _).setCell (show b ≤ _ from hb) _).setCell (show b ≤ _ from hb) _).setCell (show b ≤ _ from hb) _).setCell (show b ≤ _ from hb) _).setCell (show b ≤ _ from hb) _).setCell (show b ≤ _ from hb) _
theorem rul_sym {base : Nat} {u : World} {g gb k : Nat} {B1 B2 B3 : Option Addr} {d1 d2 d3 m1 m2 m3 : Nat} {l1 : List Acc} {l2 : List Sym} {l3 : List Ven} {p1 p2 p3 p4 p5 p6 : Int} {ad : Addr} (h : RulW base u g B1 B2 B3 d1 d2 d3 m1 m2 m3 l1 l2 l3 p1 p2 p3 p4 p5 p6) (had : ad = ⟨gb, 0, none⟩) (hb : gb < base) : RulW base (symZ u ad k) g B1 B2 B3 d1 d2 d3 m1 m2 m3 l1 l2 l3 p1 p2 p3 p4 p5 p6 := by
  unfold symZ
  rw [add0 had]
  exact ((((((h.past _ (show gb < base from hb) _).past _ (show gb < base from hb) _).past _ (show gb < base from hb) _).past _ (show gb < base from hb) _).past _ (show gb < base from hb) _).past _ (show gb < base from hb) _).past _ (show gb < base from hb) _
set_option maxHeartbeats 16000000 in
set_option maxRecDepth 100000 in
theorem finds_walk (A1 A2 A3 : Option Addr) (c1 c2 c3 : Nat) (l1 : List Acc) (l2 : List Sym) (l3 : List Ven) (p1 p2 p3 p4 p5 p6 : Int) (nm : ByteArray) (sy : Int) (w : World)
    (h1 : Kd.C kA w A1 l1.length l1) (h2 : Kd.C kS w A2 l2.length l2) (h3 : Kd.C kV w A3 l3.length l3) (hc1 : l1.length ≤ c1) (hc2 : l2.length ≤ c2) (hc3 : l3.length ≤ c3) :
    Calls Try.prog 4 #[.agg (setC (.slice A1 l1.length c1) (.slice A2 l2.length c2) (.slice A3 l3.length c3) p1 p2 p3 p4 p5 p6), .string nm, .int .i64 sy] w fun e w' => e = .returned (.bool true) ∧ Below w.heap.size w w' := by
  have hO := Blk.new w 26 (setC (.slice A1 l1.length c1) (.slice A2 l2.length c2) (.slice A3 l3.length c3) p1 p2 p3 p4 p5 p6)
  have hB := (Below.refl w.heap.size w).alloc (Nat.le_refl _) (.cells (setC (.slice A1 l1.length c1) (.slice A2 l2.length c2) (.slice A3 l3.length c3) p1 p2 p3 p4 p5 p6) 26)
  have HF := Lib.hid (fun w' (b : Below w.heap.size w w') => few_walk A1 A2 A3 c1 c2 c3 l1 l2 l3 p1 p2 p3 p4 p5 p6 w' (Kd.C_below h1 b) (Kd.C_below h2 b) (Kd.C_below h3 b))
  go_enter Try.func4, Try.ntmps4
  go_wp2_with fail
  generalize w.alloc (.cells (setC (.slice A1 l1.length c1) (.slice A2 l2.length c2) (.slice A3 l3.length c3) p1 p2 p3 p4 p5 p6) 26) = w0 at *
  refine (awake15 w0).mono ?_
  rintro e wa ⟨rfl, b1⟩
  replace hO := hO.on b1
  replace hB := bt hB b1
  clear b1
  have y0 : wa.cell? ⟨w.heap.size, 0, none⟩ = some (.slice A1 l1.length c1) := hO.cell 0
  have y1 : wa.cell? ⟨w.heap.size, 1, none⟩ = some (.slice A2 l2.length c2) := hO.cell 1
  have y2 : wa.cell? ⟨w.heap.size, 2, none⟩ = some (.slice A3 l3.length c3) := hO.cell 2
  have y3 : wa.cell? ⟨w.heap.size, 3, none⟩ = some (.int .i64 p1) := hO.cell 3
  have y4 : wa.cell? ⟨w.heap.size, 4, none⟩ = some (.int .i64 p2) := hO.cell 4
  have y5 : wa.cell? ⟨w.heap.size, 5, none⟩ = some (.int .i64 p3) := hO.cell 5
  have y6 : wa.cell? ⟨w.heap.size, 6, none⟩ = some (.int .i64 p4) := hO.cell 6
  have y7 : wa.cell? ⟨w.heap.size, 7, none⟩ = some (.int .i64 p5) := hO.cell 7
  have y8 : wa.cell? ⟨w.heap.size, 8, none⟩ = some (.int .i64 p6) := hO.cell 8
  go_wp2_with fail
  clear y0 y1 y2 y3 y4 y5 y6 y7 y8
  refine (HF.out wa hB).mono ?_
  rintro e wb ⟨rfl, b1⟩
  replace hO := hO.on b1
  replace hB := bt hB b1
  clear b1
  cases hf : fewS l1 l2 l3 with
  | false =>
    go_wp2_with fail
    go_ret
    exact ⟨rfl, hB⟩
  | true =>
    by_cases hnm : 200 < (nm.size : Int)
    · go_wp2_with fail
      go_ret
      exact ⟨rfl, hB⟩
    · obtain ⟨g1, g2, g3, s1, s2, s3⟩ := fewS_of hf
      have m1 : l1.length ≤ 900 := by omega
      have m2 : l2.length ≤ 900 := by omega
      have m3 : l3.length ≤ 900 := by omega
      have s1 : ∀ x ∈ l1, x.1.size ≤ 1000 := fun x hx => Nat.le_trans (s1 x hx) (by decide)
      have s2 : ∀ x ∈ l2, x.1.size ≤ 1000 := fun x hx => Nat.le_trans (s2 x hx) (by decide)
      have s3 : ∀ x ∈ l3, x.1.size ≤ 1000 := fun x hx => Nat.le_trans (s3 x hx) (by decide)
      have HP := Lib.hid (fun w' (b : Below w.heap.size w w') => plain_walk A1 A2 A3 c1 c2 c3 l1.length l2.length l3.length l1 l2 l3 p1 p2 p3 p4 p5 p6 w' rfl rfl rfl m1 m2 m3 (Kd.C_below h1 b) (Kd.C_below h2 b) (Kd.C_below h3 b) hc1 hc2 hc3)
      have HR := Lib.hid (fun w' B1 B2 B3 d1 d2 d3 (q1 : Kd.C kA w' B1 l1.length l1) (q2 : Kd.C kS w' B2 l2.length l2) (q3 : Kd.C kV w' B3 l3.length l3) => right15_walk B1 B2 B3 d1 d2 d3 l1 l2 l3 p1 p2 p3 p4 p5 p6 w' m1 m2 m3 q1 q2 q3 s1 s2 s3)
      rw [rig_chk] at HR
      have M1 := Lib.hid m1; have M2 := Lib.hid m2; have M3 := Lib.hid m3
      have S1 := Lib.hid s1; have S2 := Lib.hid s2; have S3 := Lib.hid s3
      have H1 := Lib.hid h1; have H2 := Lib.hid h2; have H3 := Lib.hid h3
      clear hf g1 g2 g3 HF s1 s2 s3 h1 h2 h3
      have y0 : wb.cell? ⟨w.heap.size, 0, none⟩ = some (.slice A1 l1.length c1) := hO.cell 0
      have y1 : wb.cell? ⟨w.heap.size, 1, none⟩ = some (.slice A2 l2.length c2) := hO.cell 1
      have y2 : wb.cell? ⟨w.heap.size, 2, none⟩ = some (.slice A3 l3.length c3) := hO.cell 2
      have y3 : wb.cell? ⟨w.heap.size, 3, none⟩ = some (.int .i64 p1) := hO.cell 3
      have y4 : wb.cell? ⟨w.heap.size, 4, none⟩ = some (.int .i64 p2) := hO.cell 4
      have y5 : wb.cell? ⟨w.heap.size, 5, none⟩ = some (.int .i64 p3) := hO.cell 5
      have y6 : wb.cell? ⟨w.heap.size, 6, none⟩ = some (.int .i64 p4) := hO.cell 6
      have y7 : wb.cell? ⟨w.heap.size, 7, none⟩ = some (.int .i64 p5) := hO.cell 7
      have y8 : wb.cell? ⟨w.heap.size, 8, none⟩ = some (.int .i64 p6) := hO.cell 8
      go_wp2_with fail
      clear y0 y1 y2 y3 y4 y5 y6 y7 y8
      refine (HP.out wb hB).mono ?_
      rintro e wc ⟨B1, B2, B3, d1, d2, d3, rfl, q1, q2, q3, _, _, _, b1⟩
      replace hO := hO.on b1
      replace hB := bt hB b1
      clear b1
      go_wp2_with fail
      refine (HR.out wc B1 B2 B3 d1 d2 d3 q1 q2 q3).mono ?_
      rintro e wd ⟨rfl, b1⟩
      replace hO := hO.on b1
      replace hB := bt hB b1
      clear b1 q1 q2 q3
      cases hk : chkS l1 l2 l3 p1 p2 p3 p4 p5 p6 with
      | false =>
        go_wp2_with fail
        go_ret
        exact ⟨rfl, hB⟩
      | true =>
        have y0 : wd.cell? ⟨w.heap.size, 0, none⟩ = some (.slice A1 l1.length c1) := hO.cell 0
        have y1 : wd.cell? ⟨w.heap.size, 1, none⟩ = some (.slice A2 l2.length c2) := hO.cell 1
        have y2 : wd.cell? ⟨w.heap.size, 2, none⟩ = some (.slice A3 l3.length c3) := hO.cell 2
        have y3 : wd.cell? ⟨w.heap.size, 3, none⟩ = some (.int .i64 p1) := hO.cell 3
        have y4 : wd.cell? ⟨w.heap.size, 4, none⟩ = some (.int .i64 p2) := hO.cell 4
        have y5 : wd.cell? ⟨w.heap.size, 5, none⟩ = some (.int .i64 p3) := hO.cell 5
        have y6 : wd.cell? ⟨w.heap.size, 6, none⟩ = some (.int .i64 p4) := hO.cell 6
        have y7 : wd.cell? ⟨w.heap.size, 7, none⟩ = some (.int .i64 p5) := hO.cell 7
        have y8 : wd.cell? ⟨w.heap.size, 8, none⟩ = some (.int .i64 p6) := hO.cell 8
        go_wp2_with fail
        clear y0 y1 y2 y3 y4 y5 y6 y7 y8
        refine (HP.out wd hB).mono ?_
        rintro e we ⟨B1, B2, B3, d1, d2, d3, rfl, q1, q2, q3, _, _, _, b1⟩
        replace hO := hO.on b1
        replace hB := bt hB b1
        clear b1
        have hW := Blk.new we 34 (setC (.slice B1 l1.length d1) (.slice B2 l2.length d2) (.slice B3 l3.length d3) p1 p2 p3 p4 p5 p6)
        have b2 := (Below.refl we.heap.size we).alloc (Nat.le_refl _) (.cells (setC (.slice B1 l1.length d1) (.slice B2 l2.length d2) (.slice B3 l3.length d3) p1 p2 p3 p4 p5 p6) 34)
        replace hO := hO.on b2
        replace hB := bt hB b2
        replace q1 := Kd.C_below q1 b2
        replace q2 := Kd.C_below q2 b2
        replace q3 := Kd.C_below q3 b2
        have hs7 : (we.alloc (.cells (setC (.slice B1 l1.length d1) (.slice B2 l2.length d2) (.slice B3 l3.length d3) p1 p2 p3 p4 p5 p6) 34)).heap.size = we.heap.size + 1 := by simp
        have hlt7 : w.heap.size < we.heap.size + 1 := by have := hO.lt; omega
        clear b2
        go_upto_region 6 with (fail)
        generalize we.alloc (.cells (setC (.slice B1 l1.length d1) (.slice B2 l2.length d2) (.slice B3 l3.length d3) p1 p2 p3 p4 p5 p6) 34) = u5 at *
        generalize we.heap.size = b7 at *
        have hG := Blk.new u5 26 (setC (.slice A1 l1.length c1) (.slice A2 l2.length c2) (.slice A3 l3.length c3) p1 p2 p3 p4 p5 p6)
        have b3 := (Below.refl u5.heap.size u5).alloc (Nat.le_refl _) (.cells (setC (.slice A1 l1.length c1) (.slice A2 l2.length c2) (.slice A3 l3.length c3) p1 p2 p3 p4 p5 p6) 26)
        rw [hs7] at hG
        have HQ := Lib.hid (And.intro q1 (And.intro q2 q3))
        have HO := Lib.hid hO; have HW := Lib.hid hW; have HB5 := Lib.hid hB
        clear q1 q2 q3 hB hW
        have y0 : u5.cell? ⟨w.heap.size, 0, none⟩ = some (.slice A1 l1.length c1) := hO.cell 0
        have y1 : u5.cell? ⟨w.heap.size, 1, none⟩ = some (.slice A2 l2.length c2) := hO.cell 1
        have y2 : u5.cell? ⟨w.heap.size, 2, none⟩ = some (.slice A3 l3.length c3) := hO.cell 2
        have y3 : u5.cell? ⟨w.heap.size, 3, none⟩ = some (.int .i64 p1) := hO.cell 3
        have y4 : u5.cell? ⟨w.heap.size, 4, none⟩ = some (.int .i64 p2) := hO.cell 4
        have y5 : u5.cell? ⟨w.heap.size, 5, none⟩ = some (.int .i64 p3) := hO.cell 5
        have y6 : u5.cell? ⟨w.heap.size, 6, none⟩ = some (.int .i64 p4) := hO.cell 6
        have y7 : u5.cell? ⟨w.heap.size, 7, none⟩ = some (.int .i64 p5) := hO.cell 7
        have y8 : u5.cell? ⟨w.heap.size, 8, none⟩ = some (.int .i64 p6) := hO.cell 8
        go_upto_region 7 with (fail)
        clear y0 y1 y2 y3 y4 y5 y6 y7 y8
        generalize u5.alloc (.cells (setC (.slice A1 l1.length c1) (.slice A2 l2.length c2) (.slice A3 l3.length c3) p1 p2 p3 p4 p5 p6) 26) = u6 at *
        have hO6 := hO.on b3
        have HGL := Lib.hid hG.lt
        have hO4A : Kd.R kA 60 (u6.alloc (.cells #[] 60)) u6.heap.size (fun _ => True) (.slice (some ⟨u6.heap.size, 0, none⟩) 0 0) [] := ⟨fun _ _ => trivial, [], ⟨rfl, .inr ⟨u6.heap.size, 0, #[], rfl, Nat.le_refl _, Blk.new u6 60 #[], Nat.le_refl _, by decide, rfl, rfl⟩⟩, Reps.none _ _⟩
        have hb4A := (Below.refl u6.heap.size u6).alloc (Nat.le_refl _) (.cells #[] 60)
        have hle4A : u6.heap.size ≤ (u6.alloc (.cells #[] 60)).heap.size := by simp
        have hlenA : (([] : List Acc).length + l1.length) * 24 ≤ 140737488355328 := by have := M1.out; simp; omega
        have hC4A := Kd.C_below H1.out (bt HB5.out (bt b3 hb4A))
        have hKMA : ∀ (W : World) (x : Acc) cs, kA.K W x cs → kA.M W u6.heap.size (fun _ => False) x cs := fun W x cs h => by rw [kA_open h]; exact kA_mkM _ _ _ x
        have infA : (Try.prog.info? 60).map (fun i => (i.zero, i.size, i.bytes)) = some (some (.agg #[.string ⟨#[]⟩, .int .i64 0]), 2, 24) := by kernel_rfl
        have HO4A := Lib.hid hO4A; have HB4A := Lib.hid hb4A; have HC4A := Lib.hid hC4A; have HKMA := Lib.hid hKMA; have INFA := Lib.hid infA
        clear hO4A hb4A hC4A hKMA infA
        have ysl : (u6.alloc (.cells #[] 60)).cell? ⟨w.heap.size, 0, none⟩ = some (.slice A1 l1.length c1) := (hO6.on HB4A.out).cell 0
        go_upto_region 8 with (at_builtin; (refine Kd.R_append_rows kA (w0 := u6) u6.heap.size rfl (.tmp 42) (.tmp 44) 22 60 (.agg #[.string ⟨#[]⟩, .int .i64 0]) 24 rfl Try.underlying22 INFA.out rfl (by decide) (by decide) (.slice (some ⟨u6.heap.size, 0, none⟩) 0 0) [] l1 A1 l1.length c1 (fun _ => True) (fun _ => False) rfl rfl HO4A.out HC4A.out (HKMA.out _) (fun _ hk => hk.elim) (fun _ _ => trivial) HB4A.out hle4A hlenA ?_); intro vx v0 hoA hbA hg hat; obtain ⟨G1, e1, rfl⟩ := Kd.R_slice hoA; have hG9 := hG.on hbA; have hgl := hG9.lt; have zc := hG9.cell 0; have zf := hG9.frozen 0)
        rw [List.nil_append] at hoA
        have hGn : Blk (v0.setCell ⟨b7 + 1, 0, none⟩ (.slice G1 l1.length e1)) (b7 + 1) 26 (setC (.slice G1 l1.length e1) (.slice A2 l2.length c2) (.slice A3 l3.length c3) p1 p2 p3 p4 p5 p6) := hG9.put 0 _
        replace hG := hGn
        have hbaseA : b7 + 1 < u6.heap.size := HGL.out
        replace hoA := R_past hoA ⟨b7 + 1, 0, none⟩ hbaseA (.slice G1 l1.length e1)
        replace b3 := (bt b3 hbA).setCell (p := ⟨b7 + 1, 0, none⟩) (by rw [hs7]; exact Nat.le_refl _) (.slice G1 l1.length e1)
        replace hO6 := (hO6.on hbA).far (p := ⟨b7 + 1, 0, none⟩) (by show w.heap.size ≠ b7 + 1; omega) (.slice G1 l1.length e1)
        clear hbA hg hat hG9 hgl zc zf hGn HO4A HB4A HC4A HKMA INFA ysl hle4A hlenA
        generalize v0.setCell ⟨b7 + 1, 0, none⟩ (.slice G1 l1.length e1) = g0 at *
        have HGL := Lib.hid hG.lt
        have hO4S : Kd.R kS 41 (g0.alloc (.cells #[] 41)) g0.heap.size (fun _ => True) (.slice (some ⟨g0.heap.size, 0, none⟩) 0 0) [] := ⟨fun _ _ => trivial, [], ⟨rfl, .inr ⟨g0.heap.size, 0, #[], rfl, Nat.le_refl _, Blk.new g0 41 #[], Nat.le_refl _, by decide, rfl, rfl⟩⟩, Reps.none _ _⟩
        have hb4S := (Below.refl g0.heap.size g0).alloc (Nat.le_refl _) (.cells #[] 41)
        have hle4S : g0.heap.size ≤ (g0.alloc (.cells #[] 41)).heap.size := by simp
        have hlenS : (([] : List Sym).length + l2.length) * 64 ≤ 140737488355328 := by have := M2.out; simp; omega
        have hC4S := Kd.C_below H2.out (bt HB5.out (bt b3 hb4S))
        have hKMS : ∀ (W : World) (x : Sym) cs, kS.K W x cs → kS.M W g0.heap.size (fun _ => False) x cs := fun W x cs h => by rw [kS_open h]; exact kS_mkM _ _ _ x
        have infS : (Try.prog.info? 41).map (fun i => (i.zero, i.size, i.bytes)) = some (some (.agg #[.string ⟨#[]⟩, .int .i64 0, .int .i64 0, .int .i64 0, .int .i64 0, .int .i64 0, .int .i64 0]), 7, 64) := by kernel_rfl
        have HO4S := Lib.hid hO4S; have HB4S := Lib.hid hb4S; have HC4S := Lib.hid hC4S; have HKMS := Lib.hid hKMS; have INFS := Lib.hid infS
        clear hO4S hb4S hC4S hKMS infS
        have ysl : (g0.alloc (.cells #[] 41)).cell? ⟨w.heap.size, 1, none⟩ = some (.slice A2 l2.length c2) := (hO6.on HB4S.out).cell 1
        go_upto_region 9 with (at_builtin; (refine Kd.R_append_rows kS (w0 := g0) g0.heap.size rfl (.tmp 47) (.tmp 49) 23 41 (.agg #[.string ⟨#[]⟩, .int .i64 0, .int .i64 0, .int .i64 0, .int .i64 0, .int .i64 0, .int .i64 0]) 64 rfl Try.underlying23 INFS.out rfl (by decide) (by decide) (.slice (some ⟨g0.heap.size, 0, none⟩) 0 0) [] l2 A2 l2.length c2 (fun _ => True) (fun _ => False) rfl rfl HO4S.out HC4S.out (HKMS.out _) (fun _ hk => hk.elim) (fun _ _ => trivial) HB4S.out hle4S hlenS ?_); intro vx v1 hoS hbS hg hat; obtain ⟨G2, e2, rfl⟩ := Kd.R_slice hoS; have hG9 := hG.on hbS; have hgl := hG9.lt; have zc := hG9.cell 1; have zf := hG9.frozen 1)
        rw [List.nil_append] at hoS
        have hGn : Blk (v1.setCell ⟨b7 + 1, 1, none⟩ (.slice G2 l2.length e2)) (b7 + 1) 26 (setC (.slice G1 l1.length e1) (.slice G2 l2.length e2) (.slice A3 l3.length c3) p1 p2 p3 p4 p5 p6) := hG9.put 1 _
        replace hG := hGn
        have hbaseS : b7 + 1 < g0.heap.size := HGL.out
        replace hoS := R_past hoS ⟨b7 + 1, 1, none⟩ hbaseS (.slice G2 l2.length e2)
        replace hoA := R_past (Kd.R_below hoA hbS) ⟨b7 + 1, 1, none⟩ hbaseA (.slice G2 l2.length e2)
        replace b3 := (bt b3 hbS).setCell (p := ⟨b7 + 1, 1, none⟩) (by rw [hs7]; exact Nat.le_refl _) (.slice G2 l2.length e2)
        replace hO6 := (hO6.on hbS).far (p := ⟨b7 + 1, 1, none⟩) (by show w.heap.size ≠ b7 + 1; omega) (.slice G2 l2.length e2)
        clear hbS hg hat hG9 hgl zc zf hGn HO4S HB4S HC4S HKMS INFS ysl hle4S hlenS
        generalize v1.setCell ⟨b7 + 1, 1, none⟩ (.slice G2 l2.length e2) = g1 at *
        have HGL := Lib.hid hG.lt
        have hO4V : Kd.R kV 62 (g1.alloc (.cells #[] 62)) g1.heap.size (fun _ => True) (.slice (some ⟨g1.heap.size, 0, none⟩) 0 0) [] := ⟨fun _ _ => trivial, [], ⟨rfl, .inr ⟨g1.heap.size, 0, #[], rfl, Nat.le_refl _, Blk.new g1 62 #[], Nat.le_refl _, by decide, rfl, rfl⟩⟩, Reps.none _ _⟩
        have hb4V := (Below.refl g1.heap.size g1).alloc (Nat.le_refl _) (.cells #[] 62)
        have hle4V : g1.heap.size ≤ (g1.alloc (.cells #[] 62)).heap.size := by simp
        have hlenV : (([] : List Ven).length + l3.length) * 48 ≤ 140737488355328 := by have := M3.out; simp; omega
        have hC4V := Kd.C_below H3.out (bt HB5.out (bt b3 hb4V))
        have hKMV : ∀ (W : World) (x : Ven) cs, kV.K W x cs → kV.M W g1.heap.size (fun _ => False) x cs := fun W x cs h => by rw [kV_open h]; exact kV_mkM _ _ _ x
        have infV : (Try.prog.info? 62).map (fun i => (i.zero, i.size, i.bytes)) = some (some (.agg #[.string ⟨#[]⟩, .int .i64 0, .int .i64 0, .int .i64 0, .bool false]), 5, 48) := by kernel_rfl
        have HO4V := Lib.hid hO4V; have HB4V := Lib.hid hb4V; have HC4V := Lib.hid hC4V; have HKMV := Lib.hid hKMV; have INFV := Lib.hid infV
        clear hO4V hb4V hC4V hKMV infV
        have ysl : (g1.alloc (.cells #[] 62)).cell? ⟨w.heap.size, 2, none⟩ = some (.slice A3 l3.length c3) := (hO6.on HB4V.out).cell 2
        go_upto_region 10 with (at_builtin; (refine Kd.R_append_rows kV (w0 := g1) g1.heap.size rfl (.tmp 52) (.tmp 54) 24 62 (.agg #[.string ⟨#[]⟩, .int .i64 0, .int .i64 0, .int .i64 0, .bool false]) 48 rfl Try.underlying24 INFV.out rfl (by decide) (by decide) (.slice (some ⟨g1.heap.size, 0, none⟩) 0 0) [] l3 A3 l3.length c3 (fun _ => True) (fun _ => False) rfl rfl HO4V.out HC4V.out (HKMV.out _) (fun _ hk => hk.elim) (fun _ _ => trivial) HB4V.out hle4V hlenV ?_); intro vx v2 hoV hbV hg hat; obtain ⟨G3, e3, rfl⟩ := Kd.R_slice hoV; have hG9 := hG.on hbV; have hgl := hG9.lt; have zc := hG9.cell 2; have zf := hG9.frozen 2)
        rw [List.nil_append] at hoV
        have hGn : Blk (v2.setCell ⟨b7 + 1, 2, none⟩ (.slice G3 l3.length e3)) (b7 + 1) 26 (setC (.slice G1 l1.length e1) (.slice G2 l2.length e2) (.slice G3 l3.length e3) p1 p2 p3 p4 p5 p6) := hG9.put 2 _
        replace hG := hGn
        have hbaseV : b7 + 1 < g1.heap.size := HGL.out
        replace hoV := R_past hoV ⟨b7 + 1, 2, none⟩ hbaseV (.slice G3 l3.length e3)
        replace hoA := R_past (Kd.R_below hoA hbV) ⟨b7 + 1, 2, none⟩ hbaseA (.slice G3 l3.length e3)
        replace hoS := R_past (Kd.R_below hoS hbV) ⟨b7 + 1, 2, none⟩ hbaseS (.slice G3 l3.length e3)
        replace b3 := (bt b3 hbV).setCell (p := ⟨b7 + 1, 2, none⟩) (by rw [hs7]; exact Nat.le_refl _) (.slice G3 l3.length e3)
        replace hO6 := (hO6.on hbV).far (p := ⟨b7 + 1, 2, none⟩) (by show w.heap.size ≠ b7 + 1; omega) (.slice G3 l3.length e3)
        clear hbV hg hat hG9 hgl zc zf hGn HO4V HB4V HC4V HKMV INFV ysl hle4V hlenV
        generalize v2.setCell ⟨b7 + 1, 2, none⟩ (.slice G3 l3.length e3) = g2 at *
        have HGL := Lib.hid hG.lt
        have hl2 : 1 ≤ l2.length := chk_len hk
        obtain ⟨inner, hown⟩ := Kd.R_own hoS
        have hGd : ∃ gb cur, G2 = some ⟨gb, 0, none⟩ ∧ g0.heap.size ≤ gb ∧ gb < g2.heap.size ∧ Blk g2 gb 41 cur ∧ l2.length * 7 ≤ cur.size := own_blk hown hl2
        obtain ⟨gb, cur, rfl, hgb1, hgb2, hcur, hcsz⟩ := hGd
        have hgb3 : b7 + 1 < gb := by have := hbaseS; omega
        have HN := Lib.hid (rnew_good G1 (some ⟨gb, 0, none⟩) G3 e1 e2 e3 l1 l2 l3 p1 p2 p3 p4 p5 p6 g2 M1.out M2.out M3.out (Kd.R_reads' hoA).2.2 (Kd.R_reads' hoS).2.2 (Kd.R_reads' hoV).2.2 S1.out S2.out S3.out hk)
        obtain ⟨ad, had⟩ : ∃ ad : Addr, ad = ⟨gb, 0, none⟩ := ⟨_, rfl⟩
        rw [← had] at hG HN
        have HCK := Lib.hid hk
        have HAD := Lib.hid had
        clear had
        clear hoA hoS hoV hown hbaseA hbaseS hbaseV hk
        have y0 : g2.cell? ⟨b7 + 1, 0, none⟩ = some (.slice G1 l1.length e1) := hG.cell 0
        have y1 : g2.cell? ⟨b7 + 1, 1, none⟩ = some (.slice (some ad) l2.length e2) := hG.cell 1
        have y2 : g2.cell? ⟨b7 + 1, 2, none⟩ = some (.slice G3 l3.length e3) := hG.cell 2
        have y3 : g2.cell? ⟨b7 + 1, 3, none⟩ = some (.int .i64 p1) := hG.cell 3
        have y4 : g2.cell? ⟨b7 + 1, 4, none⟩ = some (.int .i64 p2) := hG.cell 4
        have y5 : g2.cell? ⟨b7 + 1, 5, none⟩ = some (.int .i64 p3) := hG.cell 5
        have y6 : g2.cell? ⟨b7 + 1, 6, none⟩ = some (.int .i64 p4) := hG.cell 6
        have y7 : g2.cell? ⟨b7 + 1, 7, none⟩ = some (.int .i64 p5) := hG.cell 7
        have y8 : g2.cell? ⟨b7 + 1, 8, none⟩ = some (.int .i64 p6) := hG.cell 8
        go_wp2_with fail
        clear y0 y1 y2 y3 y4 y5 y6 y7 y8
        refine HN.out.mono ?_
        rintro e n0 ⟨r, E1, E2, E3, k1, k2, k3, n1, n2, n3, rfl, hR, b4⟩
        replace hG := hG.on b4
        replace b3 := bt b3 b4
        replace hcur := hcur.on b4
        clear hO6 HN b4
        have y1 : n0.cell? ⟨b7 + 1, 1, none⟩ = some (.slice (some ad) l2.length e2) := hG.cell 1
        go_wp2_with fail
        clear y1
        have hX : ∃ cur : Array Value, Blk n0 gb 41 cur ∧ l2.length * 7 ≤ cur.size := ⟨cur, hcur, hcsz⟩
        clear hcur hcsz
        go_loopw [67] (fun i wr => ∃ k : Nat, k ≤ l2.length ∧ i = .int .i64 k ∧ Below u5.heap.size u5 wr ∧ Blk wr (b7 + 1) 26 (setC (.slice G1 l1.length e1) (.slice (some ad) l2.length e2) (.slice G3 l3.length e3) p1 p2 p3 p4 p5 p6) ∧ Hid (∃ cur : Array Value, Blk wr gb 41 cur ∧ l2.length * 7 ≤ cur.size) ∧ RulW g2.heap.size wr r E1 E2 E3 k1 k2 k3 n1 n2 n3 l1 l2 l3 p1 p2 p3 p4 p5 p6) (fun i _ => l2.length - (intOf i).toNat)
        case atStart => exact ⟨0, Nat.zero_le _, rfl, b3, hG, Lib.hid hX, hR⟩
        case round =>
          clear b3 hG hX hR
          obtain ⟨k, hkl, rfl, b3, hG, HX, hR⟩ := hrel
          have y1 : wr.cell? ⟨b7 + 1, 1, none⟩ = some (.slice (some ad) l2.length e2) := hG.cell 1
          by_cases hlt : k < l2.length
          · obtain ⟨cur, hcur, hcsz⟩ := HX.out
            obtain ⟨x0, x1, x2, x3, x4, x5, x6, c0, c1, c2, c3, c4, c5, c6, f0, f1, f2, f3, f4, f5, f6⟩ := sym_cells (k := k) hcur HAD.out (by omega)
            have hpt := put_sym (k := k) hcur HAD.out hcsz hlt
            have hGf := far_sym (k := k) hG HAD.out (by omega)
            have hbf := bel_sym (k := k) b3 HAD.out (by rw [hs7]; omega)
            have hRf := rul_sym (k := k) hR HAD.out hgb2
            have HP1 := Lib.hid hpt; have HP2 := Lib.hid hGf; have HP3 := Lib.hid hbf; have HP4 := Lib.hid hRf
            have hlb : ad.block < wr.heap.size := by rw [HAD.out]; exact hcur.lt
            have hlg := hG.lt
            clear hpt hGf hbf hRf hcur hG b3 hR HX
            go_wp2_with fail
            go_roundw
            case rel => exact ⟨k + 1, by omega, by go_num, HP3.out, HP2.out, HP1, HP4.out⟩
            case measure => simp only [intOf]; omega
          · clear y1 hkl HX
            have HND := Lib.hid (chk_nodup HCK.out)
            have hsn : nm.size ≤ 1000 := by omega
            have HA1 := Lib.hid (fun w' (h : RulW g2.heap.size w' r E1 E2 E3 k1 k2 k3 n1 n2 n3 l1 l2 l3 p1 p2 p3 p4 p5 p6) => Account_good h nm hsn HND.out.1)
            have HF1 := Lib.hid (fun w' A c (hx : Kd.C Kd.string w' A l1.length (l1.map (·.1))) => find15_walk A c l1.length (l1.map (·.1)) nm w' (by rw [List.length_map]) M1.out hx)
            generalize (if plc (l1.map (·.1)) nm < 0 then 0 else plc (l1.map (·.1)) nm) = va1 at HA1 HF1
            generalize decide (0 ≤ plc (l1.map (·.1)) nm) = da1 at HA1 HF1
            have HA2 := Lib.hid (fun w' (h : RulW g2.heap.size w' r E1 E2 E3 k1 k2 k3 n1 n2 n3 l1 l2 l3 p1 p2 p3 p4 p5 p6) => Symbol_good h nm hsn HND.out.2.1)
            have HF2 := Lib.hid (fun w' A c (hx : Kd.C Kd.string w' A l2.length (l2.map (·.1))) => find15_walk A c l2.length (l2.map (·.1)) nm w' (by rw [List.length_map]) M2.out hx)
            generalize (if plc (l2.map (·.1)) nm < 0 then 0 else plc (l2.map (·.1)) nm) = va2 at HA2 HF2
            generalize decide (0 ≤ plc (l2.map (·.1)) nm) = da2 at HA2 HF2
            have HA3 := Lib.hid (fun w' (h : RulW g2.heap.size w' r E1 E2 E3 k1 k2 k3 n1 n2 n3 l1 l2 l3 p1 p2 p3 p4 p5 p6) => Venue_good h nm hsn HND.out.2.2)
            have HF3 := Lib.hid (fun w' A c (hx : Kd.C Kd.string w' A l3.length (l3.map (·.1))) => find15_walk A c l3.length (l3.map (·.1)) nm w' (by rw [List.length_map]) M3.out hx)
            generalize (if plc (l3.map (·.1)) nm < 0 then 0 else plc (l3.map (·.1)) nm) = va3 at HA3 HF3
            generalize decide (0 ≤ plc (l3.map (·.1)) nm) = da3 at HA3 HF3
            have HSet := Lib.hid (fun w' (h : RulW g2.heap.size w' r E1 E2 E3 k1 k2 k3 n1 n2 n3 l1 l2 l3 p1 p2 p3 p4 p5 p6) => Setup_of E1 E2 E3 k1 k2 k3 l1 l2 l3 p1 p2 p3 p4 p5 p6 (.map (some n1)) (.map (some n2)) (.map (some n3)) r w' M1.out M2.out M3.out (Kd.R_reads' h.r1).2.2 (Kd.R_reads' h.r2).2.2 (Kd.R_reads' h.r3).2.2 h.bR)
            clear hsn HND
            go_wp2_with fail
            refine (HA1.out wr hR).mono ?_
            rintro e ma ⟨rfl, bb⟩
            replace hR := hR.on bb
            replace b3 := bt b3 bb
            replace hG := hG.on bb
            clear bb HA1
            go_wp2_with fail
            refine (HA2.out ma hR).mono ?_
            rintro e mb ⟨rfl, bb⟩
            replace hR := hR.on bb
            replace b3 := bt b3 bb
            replace hG := hG.on bb
            clear bb HA2
            go_wp2_with fail
            refine (HA3.out mb hR).mono ?_
            rintro e mc ⟨rfl, bb⟩
            replace hR := hR.on bb
            replace b3 := bt b3 bb
            replace hG := hG.on bb
            clear bb HA3
            go_wp2_with fail
            by_cases hsy : 0 ≤ sy ∧ sy < (l2.length : Int)
            · obtain ⟨i, rfl⟩ : ∃ i : Nat, sy = (i : Int) := ⟨sy.toNat, by omega⟩
              have hil : i < l2.length := by omega
              have hti : in64 (l2[i]).2.2.1 := chk_tick HCK.out hil
              have HBd := Lib.hid (Band_good hR i hil M2.out hti)
              have HBr := Lib.hid (fun w => rband_calls (l2[i]).2.2.2.1 (l2[i]).2.2.2.2.1 (l2[i]).2.2.1 hti w)
              obtain ⟨adA, rfl, hcA⟩ := at_S (Kd.C_below H2.out (bt HB5.out b3)) i hil
              have e1 : l2.getD i zS = l2[i] := by simp [hil]
              rw [e1] at hcA
              generalize bandS (l2[i]).2.2.2.1 (l2[i]).2.2.2.2.1 (l2[i]).2.2.1 = bd at *
              obtain ⟨blo, bhi, ber⟩ := bd
              generalize l2[i] = xi at *
              dsimp only at HBd HBr
              with_reducible refine HBd.out.mono ?_
              rintro e mg ⟨rfl, bb⟩
              replace hR := hR.on bb
              have hO9 := HO.out.on (bt b3 bb)
              have q1 : mg.cell? ⟨(adA.add (i * 7)).block, (adA.add (i * 7)).off + 1, none⟩ = some (.int .i64 xi.2.1) := by rw [← add_field _ _ 1 (by omega)]; exact at_below hcA bb 1 _ rfl
              have q2 : mg.cell? ⟨(adA.add (i * 7)).block, (adA.add (i * 7)).off + 2, none⟩ = some (.int .i64 xi.2.2.1) := by rw [← add_field _ _ 2 (by omega)]; exact at_below hcA bb 2 _ rfl
              have q3 : mg.cell? ⟨(adA.add (i * 7)).block, (adA.add (i * 7)).off + 3, none⟩ = some (.int .i64 xi.2.2.2.1) := by rw [← add_field _ _ 3 (by omega)]; exact at_below hcA bb 3 _ rfl
              have q4 : mg.cell? ⟨(adA.add (i * 7)).block, (adA.add (i * 7)).off + 4, none⟩ = some (.int .i64 xi.2.2.2.2.1) := by rw [← add_field _ _ 4 (by omega)]; exact at_below hcA bb 4 _ rfl
              have q5 : mg.cell? ⟨(adA.add (i * 7)).block, (adA.add (i * 7)).off + 5, none⟩ = some (.int .i64 xi.2.2.2.2.2.1) := by rw [← add_field _ _ 5 (by omega)]; exact at_below hcA bb 5 _ rfl
              have q6 : mg.cell? ⟨(adA.add (i * 7)).block, (adA.add (i * 7)).off + 6, none⟩ = some (.int .i64 xi.2.2.2.2.2.2) := by rw [← add_field _ _ 6 (by omega)]; exact at_below hcA bb 6 _ rfl
              replace b3 := bt b3 bb
              replace hG := hG.on bb
              clear hcA e1 HBd bb
              have y1 : mg.cell? ⟨w.heap.size, 1, none⟩ = some (.slice (some adA) l2.length c2) := hO9.cell 1
              have hk0 : (0 : Int) ≤ (i : Int) := by omega
              have hk1 : (i : Int) < (l2.length : Int) := by omega
              go_upto_region 24 with (fail)
              have KS4 : Hid (∀ w', Below mg.heap.size mg w' → w'.cell? ⟨w.heap.size, 1, none⟩ = some (.slice (some adA) l2.length c2) ∧ w'.cell? ⟨(adA.add (i * 7)).block, (adA.add (i * 7)).off + 2, none⟩ = some (.int .i64 xi.2.2.1) ∧ w'.cell? ⟨(adA.add (i * 7)).block, (adA.add (i * 7)).off + 3, none⟩ = some (.int .i64 xi.2.2.2.1) ∧ w'.cell? ⟨(adA.add (i * 7)).block, (adA.add (i * 7)).off + 4, none⟩ = some (.int .i64 xi.2.2.2.2.1) ∧ Below mg.heap.size mg w') := Lib.hid (fun w' b => ⟨(b.cell (World.block_lt_of_cell? mg _ y1)).trans y1, (b.cell (World.block_lt_of_cell? mg _ q2)).trans q2, (b.cell (World.block_lt_of_cell? mg _ q3)).trans q3, (b.cell (World.block_lt_of_cell? mg _ q4)).trans q4, b⟩)
              clear y1 q1 q2 q3 q4 q5 q6 hO9
              go_region_held3 (fun w' => w'.cell? ⟨w.heap.size, 1, none⟩ = some (.slice (some adA) l2.length c2) ∧ w'.cell? ⟨(adA.add (i * 7)).block, (adA.add (i * 7)).off + 2, none⟩ = some (.int .i64 xi.2.2.1) ∧ w'.cell? ⟨(adA.add (i * 7)).block, (adA.add (i * 7)).off + 3, none⟩ = some (.int .i64 xi.2.2.2.1) ∧ w'.cell? ⟨(adA.add (i * 7)).block, (adA.add (i * 7)).off + 4, none⟩ = some (.int .i64 xi.2.2.2.2.1) ∧ Below mg.heap.size mg w') (first | exact KS4.out _ (by repeat (first | exact Below.refl _ _ | assumption | apply below_drew1 | apply pw_below_drewN | refine bt ?_ hb1))) (first | (go_at_call 16; (with_reducible refine (HBr.out _).mono ?_); rintro e mh ⟨rfl, hb1⟩))
              have hbm : Below mg.heap.size mg mh := (by repeat (first | exact Below.refl _ _ | assumption | apply below_drew1 | apply pw_below_drewN | refine bt ?_ hb1))
              replace hR := hR.on hbm
              replace hG := hG.on hbm
              replace b3 := bt b3 hbm
              clear hbm
              clear hb1 HBr KS4
              go_wp2_with fail
              with_reducible refine (HSet.out mh hR).mono ?_
              rintro e md ⟨F1, F2, F3, f1, f2, f3, rfl, ra1, ra2, ra3, bb⟩
              replace b3 := bt b3 bb
              clear bb hR hG HSet
              go_wp2_with fail
              with_reducible refine (plain_walk F1 F2 F3 f1 f2 f3 l1.length l2.length l3.length l1 l2 l3 p1 p2 p3 p4 p5 p6 md rfl rfl rfl M1.out M2.out M3.out (Kd.R_reads' ra1).2.2 (Kd.R_reads' ra2).2.2 (Kd.R_reads' ra3).2.2 (Kd.R_reads' ra1).2.1 (Kd.R_reads' ra2).2.1 (Kd.R_reads' ra3).2.1).mono ?_
              rintro e me ⟨T1, T2, T3, t1, t2, t3, rfl, q1, q2, q3, _, _, _, bb⟩
              replace b3 := bt b3 bb
              clear bb ra1 ra2 ra3
              have hT := Blk.new me 34 (setC (.slice T1 l1.length t1) (.slice T2 l2.length t2) (.slice T3 l3.length t3) p1 p2 p3 p4 p5 p6)
              have bb := (Below.refl me.heap.size me).alloc (Nat.le_refl _) (.cells (setC (.slice T1 l1.length t1) (.slice T2 l2.length t2) (.slice T3 l3.length t3) p1 p2 p3 p4 p5 p6) 34)
              replace q1 := Kd.C_below q1 bb
              replace q2 := Kd.C_below q2 bb
              replace q3 := Kd.C_below q3 bb
              have hlb : b7 < me.heap.size := by have := b3.size; omega
              replace b3 := bt b3 bb
              go_upto_region 26 with (fail)
              generalize me.alloc (.cells (setC (.slice T1 l1.length t1) (.slice T2 l2.length t2) (.slice T3 l3.length t3) p1 p2 p3 p4 p5 p6) 34) = mf at *
              generalize me.heap.size = bt_ at *
              have hWm := HW.out.on b3
              obtain ⟨z1, z2, z3⟩ := HQ.out
              replace z1 := Kd.C_below z1 b3
              replace z2 := Kd.C_below z2 b3
              replace z3 := Kd.C_below z3 b3
              obtain ⟨adB, rfl, hcB⟩ := at_S z2 0 (by omega)
              obtain ⟨adT, rfl, hcT⟩ := at_S q2 0 (by omega)
              generalize l2.getD 0 zS = x at hcB hcT
              rw [Nat.zero_mul] at hcB hcT
              have KS : Hid (∀ w', Below mf.heap.size mf w' → (w'.cell? adB = some (.string x.1) ∧ w'.cell? ⟨adB.block, adB.off + 1, none⟩ = some (.int .i64 x.2.1) ∧ w'.cell? ⟨adB.block, adB.off + 2, none⟩ = some (.int .i64 x.2.2.1) ∧ w'.cell? ⟨adB.block, adB.off + 3, none⟩ = some (.int .i64 x.2.2.2.1) ∧ w'.cell? ⟨adB.block, adB.off + 4, none⟩ = some (.int .i64 x.2.2.2.2.1) ∧ w'.cell? ⟨adB.block, adB.off + 5, none⟩ = some (.int .i64 x.2.2.2.2.2.1) ∧ w'.cell? ⟨adB.block, adB.off + 6, none⟩ = some (.int .i64 x.2.2.2.2.2.2)) ∧ (w'.cell? adT = some (.string x.1) ∧ w'.cell? ⟨adT.block, adT.off + 1, none⟩ = some (.int .i64 x.2.1) ∧ w'.cell? ⟨adT.block, adT.off + 2, none⟩ = some (.int .i64 x.2.2.1) ∧ w'.cell? ⟨adT.block, adT.off + 3, none⟩ = some (.int .i64 x.2.2.2.1) ∧ w'.cell? ⟨adT.block, adT.off + 4, none⟩ = some (.int .i64 x.2.2.2.2.1) ∧ w'.cell? ⟨adT.block, adT.off + 5, none⟩ = some (.int .i64 x.2.2.2.2.2.1) ∧ w'.cell? ⟨adT.block, adT.off + 6, none⟩ = some (.int .i64 x.2.2.2.2.2.2)) ∧ (w'.cell? ⟨b7, 0, none⟩ = some (.slice B1 l1.length d1) ∧ w'.cell? ⟨b7, 1, none⟩ = some (.slice (some adB) l2.length d2) ∧ w'.cell? ⟨b7, 2, none⟩ = some (.slice B3 l3.length d3) ∧ w'.cell? ⟨b7, 3, none⟩ = some (.int .i64 p1) ∧ w'.cell? ⟨b7, 4, none⟩ = some (.int .i64 p2) ∧ w'.cell? ⟨b7, 5, none⟩ = some (.int .i64 p3) ∧ w'.cell? ⟨b7, 6, none⟩ = some (.int .i64 p4) ∧ w'.cell? ⟨b7, 7, none⟩ = some (.int .i64 p5) ∧ w'.cell? ⟨b7, 8, none⟩ = some (.int .i64 p6)) ∧ (w'.cell? ⟨bt_, 0, none⟩ = some (.slice T1 l1.length t1) ∧ w'.cell? ⟨bt_, 1, none⟩ = some (.slice (some adT) l2.length t2) ∧ w'.cell? ⟨bt_, 2, none⟩ = some (.slice T3 l3.length t3) ∧ w'.cell? ⟨bt_, 3, none⟩ = some (.int .i64 p1) ∧ w'.cell? ⟨bt_, 4, none⟩ = some (.int .i64 p2) ∧ w'.cell? ⟨bt_, 5, none⟩ = some (.int .i64 p3) ∧ w'.cell? ⟨bt_, 6, none⟩ = some (.int .i64 p4) ∧ w'.cell? ⟨bt_, 7, none⟩ = some (.int .i64 p5) ∧ w'.cell? ⟨bt_, 8, none⟩ = some (.int .i64 p6)) ∧ b7 < w'.heap.size ∧ bt_ < w'.heap.size ∧ Below mf.heap.size mf w') := Lib.hid (by
                intro w' b
                have s0 := b.size
                have s1 := hT.lt
                have s2 := hWm.lt
                refine ⟨⟨at0 hcB b 0 _ rfl, at0 hcB b 1 _ rfl, at0 hcB b 2 _ rfl, at0 hcB b 3 _ rfl, at0 hcB b 4 _ rfl, at0 hcB b 5 _ rfl, at0 hcB b 6 _ rfl⟩, ⟨at0 hcT b 0 _ rfl, at0 hcT b 1 _ rfl, at0 hcT b 2 _ rfl, at0 hcT b 3 _ rfl, at0 hcT b 4 _ rfl, at0 hcT b 5 _ rfl, at0 hcT b 6 _ rfl⟩, ⟨(hWm.on b).cell 0, (hWm.on b).cell 1, (hWm.on b).cell 2, (hWm.on b).cell 3, (hWm.on b).cell 4, (hWm.on b).cell 5, (hWm.on b).cell 6, (hWm.on b).cell 7, (hWm.on b).cell 8⟩, ⟨(hT.on b).cell 0, (hT.on b).cell 1, (hT.on b).cell 2, (hT.on b).cell 3, (hT.on b).cell 4, (hT.on b).cell 5, (hT.on b).cell 6, (hT.on b).cell 7, (hT.on b).cell 8⟩, by omega, by omega, b⟩)
              have HNA := Lib.hid (fun w' (b : Below mf.heap.size mf w') => namesA B1 (some adB) B3 d1 d2 d3 l1.length l2.length l3.length l1 p1 p2 p3 p4 p5 p6 w' rfl M1.out (Kd.C_below z1 b))
              have HNS := Lib.hid (fun w' (b : Below mf.heap.size mf w') => namesS B1 (some adB) B3 d1 d2 d3 l1.length l2.length l3.length l2 p1 p2 p3 p4 p5 p6 w' rfl M2.out (Kd.C_below z2 b))
              have HNV := Lib.hid (fun w' (b : Below mf.heap.size mf w') => namesV B1 (some adB) B3 d1 d2 d3 l1.length l2.length l3.length l3 p1 p2 p3 p4 p5 p6 w' rfl M3.out (Kd.C_below z3 b))
              have HRT := Lib.hid (fun w' (b : Below mf.heap.size mf w') => HR.out w' T1 (some adT) T3 t1 t2 t3 (Kd.C_below q1 b) (Kd.C_below q2 b) (Kd.C_below q3 b))
              rw [HCK.out] at HRT
              have hBm := bt HB5.out b3
              have HBM := Lib.hid hBm
              clear hBm hcB hcT hT hWm z1 z2 z3 q1 q2 q3 b3 HW HQ HR H1 H2 H3 HB5 HO HP S1 S2 S3 M1 M2 M3 HCK hlb
              have hk0 : (0 : Int) < (l2.length : Int) := by omega
              generalize l2.length = N2 at *
              have hk2 : 0 < N2 := by omega
              go_region_held3 (fun w' => (w'.cell? adB = some (.string x.1) ∧ w'.cell? ⟨adB.block, adB.off + 1, none⟩ = some (.int .i64 x.2.1) ∧ w'.cell? ⟨adB.block, adB.off + 2, none⟩ = some (.int .i64 x.2.2.1) ∧ w'.cell? ⟨adB.block, adB.off + 3, none⟩ = some (.int .i64 x.2.2.2.1) ∧ w'.cell? ⟨adB.block, adB.off + 4, none⟩ = some (.int .i64 x.2.2.2.2.1) ∧ w'.cell? ⟨adB.block, adB.off + 5, none⟩ = some (.int .i64 x.2.2.2.2.2.1) ∧ w'.cell? ⟨adB.block, adB.off + 6, none⟩ = some (.int .i64 x.2.2.2.2.2.2)) ∧ (w'.cell? adT = some (.string x.1) ∧ w'.cell? ⟨adT.block, adT.off + 1, none⟩ = some (.int .i64 x.2.1) ∧ w'.cell? ⟨adT.block, adT.off + 2, none⟩ = some (.int .i64 x.2.2.1) ∧ w'.cell? ⟨adT.block, adT.off + 3, none⟩ = some (.int .i64 x.2.2.2.1) ∧ w'.cell? ⟨adT.block, adT.off + 4, none⟩ = some (.int .i64 x.2.2.2.2.1) ∧ w'.cell? ⟨adT.block, adT.off + 5, none⟩ = some (.int .i64 x.2.2.2.2.2.1) ∧ w'.cell? ⟨adT.block, adT.off + 6, none⟩ = some (.int .i64 x.2.2.2.2.2.2)) ∧ (w'.cell? ⟨b7, 0, none⟩ = some (.slice B1 l1.length d1) ∧ w'.cell? ⟨b7, 1, none⟩ = some (.slice (some adB) N2 d2) ∧ w'.cell? ⟨b7, 2, none⟩ = some (.slice B3 l3.length d3) ∧ w'.cell? ⟨b7, 3, none⟩ = some (.int .i64 p1) ∧ w'.cell? ⟨b7, 4, none⟩ = some (.int .i64 p2) ∧ w'.cell? ⟨b7, 5, none⟩ = some (.int .i64 p3) ∧ w'.cell? ⟨b7, 6, none⟩ = some (.int .i64 p4) ∧ w'.cell? ⟨b7, 7, none⟩ = some (.int .i64 p5) ∧ w'.cell? ⟨b7, 8, none⟩ = some (.int .i64 p6)) ∧ (w'.cell? ⟨bt_, 0, none⟩ = some (.slice T1 l1.length t1) ∧ w'.cell? ⟨bt_, 1, none⟩ = some (.slice (some adT) N2 t2) ∧ w'.cell? ⟨bt_, 2, none⟩ = some (.slice T3 l3.length t3) ∧ w'.cell? ⟨bt_, 3, none⟩ = some (.int .i64 p1) ∧ w'.cell? ⟨bt_, 4, none⟩ = some (.int .i64 p2) ∧ w'.cell? ⟨bt_, 5, none⟩ = some (.int .i64 p3) ∧ w'.cell? ⟨bt_, 6, none⟩ = some (.int .i64 p4) ∧ w'.cell? ⟨bt_, 7, none⟩ = some (.int .i64 p5) ∧ w'.cell? ⟨bt_, 8, none⟩ = some (.int .i64 p6)) ∧ b7 < w'.heap.size ∧ bt_ < w'.heap.size ∧ Below mf.heap.size mf w') (first | exact KS.out _ (by repeat (first | exact Below.refl _ _ | assumption | apply below_drew1 | apply pw_below_drewN | refine bt ?_ hb1 | refine bt ?_ hb2 | refine bt ?_ hb3 | refine bt ?_ hb4 | refine bt ?_ hb5 | refine bt ?_ hb6 | refine bt ?_ hb7))) (first | (go_at_call 19; (with_reducible refine (HNA.out _ (by repeat (first | exact Below.refl _ _ | assumption | apply below_drew1 | apply pw_below_drewN | refine bt ?_ hb1 | refine bt ?_ hb2 | refine bt ?_ hb3 | refine bt ?_ hb4 | refine bt ?_ hb5 | refine bt ?_ hb6 | refine bt ?_ hb7))).mono ?_); rintro e wv1 ⟨L1, h1, rfl, hC1, hb1⟩) | (go_at_call 20; (with_reducible refine (HNS.out _ (by repeat (first | exact Below.refl _ _ | assumption | apply below_drew1 | apply pw_below_drewN | refine bt ?_ hb1 | refine bt ?_ hb2 | refine bt ?_ hb3 | refine bt ?_ hb4 | refine bt ?_ hb5 | refine bt ?_ hb6 | refine bt ?_ hb7))).mono ?_); rintro e wv2 ⟨L2, h2, rfl, hC2, hb2⟩) | (go_at_call 21; (with_reducible refine (HNV.out _ (by repeat (first | exact Below.refl _ _ | assumption | apply below_drew1 | apply pw_below_drewN | refine bt ?_ hb1 | refine bt ?_ hb2 | refine bt ?_ hb3 | refine bt ?_ hb4 | refine bt ?_ hb5 | refine bt ?_ hb6 | refine bt ?_ hb7))).mono ?_); rintro e wv3 ⟨L3, h3, rfl, hC3, hb3⟩) | (go_at_call 18; (with_reducible refine (HF1.out _ _ _ (Kd.C_below hC1 (by repeat (first | exact Below.refl _ _ | assumption | apply below_drew1 | apply pw_below_drewN | refine bt ?_ hb1 | refine bt ?_ hb2 | refine bt ?_ hb3 | refine bt ?_ hb4 | refine bt ?_ hb5 | refine bt ?_ hb6 | refine bt ?_ hb7)))).mono ?_); rintro e wf1 ⟨rfl, hb4⟩) | (go_at_call 18; (with_reducible refine (HF2.out _ _ _ (Kd.C_below hC2 (by repeat (first | exact Below.refl _ _ | assumption | apply below_drew1 | apply pw_below_drewN | refine bt ?_ hb1 | refine bt ?_ hb2 | refine bt ?_ hb3 | refine bt ?_ hb4 | refine bt ?_ hb5 | refine bt ?_ hb6 | refine bt ?_ hb7)))).mono ?_); rintro e wf2 ⟨rfl, hb5⟩) | (go_at_call 18; (with_reducible refine (HF3.out _ _ _ (Kd.C_below hC3 (by repeat (first | exact Below.refl _ _ | assumption | apply below_drew1 | apply pw_below_drewN | refine bt ?_ hb1 | refine bt ?_ hb2 | refine bt ?_ hb3 | refine bt ?_ hb4 | refine bt ?_ hb5 | refine bt ?_ hb6 | refine bt ?_ hb7)))).mono ?_); rintro e wf3 ⟨rfl, hb6⟩) | (go_at_call 9; (with_reducible refine (HRT.out _ (by repeat (first | exact Below.refl _ _ | assumption | apply below_drew1 | apply pw_below_drewN | refine bt ?_ hb1 | refine bt ?_ hb2 | refine bt ?_ hb3 | refine bt ?_ hb4 | refine bt ?_ hb5 | refine bt ?_ hb6 | refine bt ?_ hb7))).mono ?_); rintro e wg ⟨rfl, hb7⟩))
              go_wp2_with fail
              go_ret
              exact ⟨rfl, bt HBM.out (by repeat (first | exact Below.refl _ _ | assumption | apply below_drew1 | apply pw_below_drewN | refine bt ?_ hb1 | refine bt ?_ hb2 | refine bt ?_ hb3 | refine bt ?_ hb4 | refine bt ?_ hb5 | refine bt ?_ hb6 | refine bt ?_ hb7))⟩
            · have HBd := Lib.hid (Band_out sy r mc E2 l2.length k2 (hR.bR.cell 1) (by omega))
              with_reducible refine HBd.out.mono ?_
              rintro e mg ⟨rfl, bb⟩
              replace hR := hR.on bb
              replace b3 := bt b3 bb
              replace hG := hG.on bb
              have hO9 := HO.out.on b3
              have y1 : mg.cell? ⟨w.heap.size, 1, none⟩ = some (.slice A2 l2.length c2) := hO9.cell 1
              clear HBd bb
              by_cases hs0 : 0 ≤ sy
              · have hs1 : ¬ sy < (l2.length : Int) := fun h => hsy ⟨hs0, h⟩
                clear hsy
                go_wp2_with fail
                clear y1 hO9
                with_reducible refine (HSet.out mg hR).mono ?_
                rintro e md ⟨F1, F2, F3, f1, f2, f3, rfl, ra1, ra2, ra3, bb⟩
                replace b3 := bt b3 bb
                clear bb hR hG HSet
                go_wp2_with fail
                with_reducible refine (plain_walk F1 F2 F3 f1 f2 f3 l1.length l2.length l3.length l1 l2 l3 p1 p2 p3 p4 p5 p6 md rfl rfl rfl M1.out M2.out M3.out (Kd.R_reads' ra1).2.2 (Kd.R_reads' ra2).2.2 (Kd.R_reads' ra3).2.2 (Kd.R_reads' ra1).2.1 (Kd.R_reads' ra2).2.1 (Kd.R_reads' ra3).2.1).mono ?_
                rintro e me ⟨T1, T2, T3, t1, t2, t3, rfl, q1, q2, q3, _, _, _, bb⟩
                replace b3 := bt b3 bb
                clear bb ra1 ra2 ra3
                have hT := Blk.new me 34 (setC (.slice T1 l1.length t1) (.slice T2 l2.length t2) (.slice T3 l3.length t3) p1 p2 p3 p4 p5 p6)
                have bb := (Below.refl me.heap.size me).alloc (Nat.le_refl _) (.cells (setC (.slice T1 l1.length t1) (.slice T2 l2.length t2) (.slice T3 l3.length t3) p1 p2 p3 p4 p5 p6) 34)
                replace q1 := Kd.C_below q1 bb
                replace q2 := Kd.C_below q2 bb
                replace q3 := Kd.C_below q3 bb
                have hlb : b7 < me.heap.size := by have := b3.size; omega
                replace b3 := bt b3 bb
                go_upto_region 26 with (fail)
                generalize me.alloc (.cells (setC (.slice T1 l1.length t1) (.slice T2 l2.length t2) (.slice T3 l3.length t3) p1 p2 p3 p4 p5 p6) 34) = mf at *
                generalize me.heap.size = bt_ at *
                have hWm := HW.out.on b3
                obtain ⟨z1, z2, z3⟩ := HQ.out
                replace z1 := Kd.C_below z1 b3
                replace z2 := Kd.C_below z2 b3
                replace z3 := Kd.C_below z3 b3
                obtain ⟨adB, rfl, hcB⟩ := at_S z2 0 (by omega)
                obtain ⟨adT, rfl, hcT⟩ := at_S q2 0 (by omega)
                generalize l2.getD 0 zS = x at hcB hcT
                rw [Nat.zero_mul] at hcB hcT
                have KS : Hid (∀ w', Below mf.heap.size mf w' → (w'.cell? adB = some (.string x.1) ∧ w'.cell? ⟨adB.block, adB.off + 1, none⟩ = some (.int .i64 x.2.1) ∧ w'.cell? ⟨adB.block, adB.off + 2, none⟩ = some (.int .i64 x.2.2.1) ∧ w'.cell? ⟨adB.block, adB.off + 3, none⟩ = some (.int .i64 x.2.2.2.1) ∧ w'.cell? ⟨adB.block, adB.off + 4, none⟩ = some (.int .i64 x.2.2.2.2.1) ∧ w'.cell? ⟨adB.block, adB.off + 5, none⟩ = some (.int .i64 x.2.2.2.2.2.1) ∧ w'.cell? ⟨adB.block, adB.off + 6, none⟩ = some (.int .i64 x.2.2.2.2.2.2)) ∧ (w'.cell? adT = some (.string x.1) ∧ w'.cell? ⟨adT.block, adT.off + 1, none⟩ = some (.int .i64 x.2.1) ∧ w'.cell? ⟨adT.block, adT.off + 2, none⟩ = some (.int .i64 x.2.2.1) ∧ w'.cell? ⟨adT.block, adT.off + 3, none⟩ = some (.int .i64 x.2.2.2.1) ∧ w'.cell? ⟨adT.block, adT.off + 4, none⟩ = some (.int .i64 x.2.2.2.2.1) ∧ w'.cell? ⟨adT.block, adT.off + 5, none⟩ = some (.int .i64 x.2.2.2.2.2.1) ∧ w'.cell? ⟨adT.block, adT.off + 6, none⟩ = some (.int .i64 x.2.2.2.2.2.2)) ∧ (w'.cell? ⟨b7, 0, none⟩ = some (.slice B1 l1.length d1) ∧ w'.cell? ⟨b7, 1, none⟩ = some (.slice (some adB) l2.length d2) ∧ w'.cell? ⟨b7, 2, none⟩ = some (.slice B3 l3.length d3) ∧ w'.cell? ⟨b7, 3, none⟩ = some (.int .i64 p1) ∧ w'.cell? ⟨b7, 4, none⟩ = some (.int .i64 p2) ∧ w'.cell? ⟨b7, 5, none⟩ = some (.int .i64 p3) ∧ w'.cell? ⟨b7, 6, none⟩ = some (.int .i64 p4) ∧ w'.cell? ⟨b7, 7, none⟩ = some (.int .i64 p5) ∧ w'.cell? ⟨b7, 8, none⟩ = some (.int .i64 p6)) ∧ (w'.cell? ⟨bt_, 0, none⟩ = some (.slice T1 l1.length t1) ∧ w'.cell? ⟨bt_, 1, none⟩ = some (.slice (some adT) l2.length t2) ∧ w'.cell? ⟨bt_, 2, none⟩ = some (.slice T3 l3.length t3) ∧ w'.cell? ⟨bt_, 3, none⟩ = some (.int .i64 p1) ∧ w'.cell? ⟨bt_, 4, none⟩ = some (.int .i64 p2) ∧ w'.cell? ⟨bt_, 5, none⟩ = some (.int .i64 p3) ∧ w'.cell? ⟨bt_, 6, none⟩ = some (.int .i64 p4) ∧ w'.cell? ⟨bt_, 7, none⟩ = some (.int .i64 p5) ∧ w'.cell? ⟨bt_, 8, none⟩ = some (.int .i64 p6)) ∧ b7 < w'.heap.size ∧ bt_ < w'.heap.size ∧ Below mf.heap.size mf w') := Lib.hid (by
                  intro w' b
                  have s0 := b.size
                  have s1 := hT.lt
                  have s2 := hWm.lt
                  refine ⟨⟨at0 hcB b 0 _ rfl, at0 hcB b 1 _ rfl, at0 hcB b 2 _ rfl, at0 hcB b 3 _ rfl, at0 hcB b 4 _ rfl, at0 hcB b 5 _ rfl, at0 hcB b 6 _ rfl⟩, ⟨at0 hcT b 0 _ rfl, at0 hcT b 1 _ rfl, at0 hcT b 2 _ rfl, at0 hcT b 3 _ rfl, at0 hcT b 4 _ rfl, at0 hcT b 5 _ rfl, at0 hcT b 6 _ rfl⟩, ⟨(hWm.on b).cell 0, (hWm.on b).cell 1, (hWm.on b).cell 2, (hWm.on b).cell 3, (hWm.on b).cell 4, (hWm.on b).cell 5, (hWm.on b).cell 6, (hWm.on b).cell 7, (hWm.on b).cell 8⟩, ⟨(hT.on b).cell 0, (hT.on b).cell 1, (hT.on b).cell 2, (hT.on b).cell 3, (hT.on b).cell 4, (hT.on b).cell 5, (hT.on b).cell 6, (hT.on b).cell 7, (hT.on b).cell 8⟩, by omega, by omega, b⟩)
                have HNA := Lib.hid (fun w' (b : Below mf.heap.size mf w') => namesA B1 (some adB) B3 d1 d2 d3 l1.length l2.length l3.length l1 p1 p2 p3 p4 p5 p6 w' rfl M1.out (Kd.C_below z1 b))
                have HNS := Lib.hid (fun w' (b : Below mf.heap.size mf w') => namesS B1 (some adB) B3 d1 d2 d3 l1.length l2.length l3.length l2 p1 p2 p3 p4 p5 p6 w' rfl M2.out (Kd.C_below z2 b))
                have HNV := Lib.hid (fun w' (b : Below mf.heap.size mf w') => namesV B1 (some adB) B3 d1 d2 d3 l1.length l2.length l3.length l3 p1 p2 p3 p4 p5 p6 w' rfl M3.out (Kd.C_below z3 b))
                have HRT := Lib.hid (fun w' (b : Below mf.heap.size mf w') => HR.out w' T1 (some adT) T3 t1 t2 t3 (Kd.C_below q1 b) (Kd.C_below q2 b) (Kd.C_below q3 b))
                rw [HCK.out] at HRT
                have hBm := bt HB5.out b3
                have HBM := Lib.hid hBm
                clear hBm hcB hcT hT hWm z1 z2 z3 q1 q2 q3 b3 HW HQ HR H1 H2 H3 HB5 HO HP S1 S2 S3 M1 M2 M3 HCK hlb
                have hk0 : (0 : Int) < (l2.length : Int) := by omega
                generalize l2.length = N2 at *
                have hk2 : 0 < N2 := by omega
                go_region_held3 (fun w' => (w'.cell? adB = some (.string x.1) ∧ w'.cell? ⟨adB.block, adB.off + 1, none⟩ = some (.int .i64 x.2.1) ∧ w'.cell? ⟨adB.block, adB.off + 2, none⟩ = some (.int .i64 x.2.2.1) ∧ w'.cell? ⟨adB.block, adB.off + 3, none⟩ = some (.int .i64 x.2.2.2.1) ∧ w'.cell? ⟨adB.block, adB.off + 4, none⟩ = some (.int .i64 x.2.2.2.2.1) ∧ w'.cell? ⟨adB.block, adB.off + 5, none⟩ = some (.int .i64 x.2.2.2.2.2.1) ∧ w'.cell? ⟨adB.block, adB.off + 6, none⟩ = some (.int .i64 x.2.2.2.2.2.2)) ∧ (w'.cell? adT = some (.string x.1) ∧ w'.cell? ⟨adT.block, adT.off + 1, none⟩ = some (.int .i64 x.2.1) ∧ w'.cell? ⟨adT.block, adT.off + 2, none⟩ = some (.int .i64 x.2.2.1) ∧ w'.cell? ⟨adT.block, adT.off + 3, none⟩ = some (.int .i64 x.2.2.2.1) ∧ w'.cell? ⟨adT.block, adT.off + 4, none⟩ = some (.int .i64 x.2.2.2.2.1) ∧ w'.cell? ⟨adT.block, adT.off + 5, none⟩ = some (.int .i64 x.2.2.2.2.2.1) ∧ w'.cell? ⟨adT.block, adT.off + 6, none⟩ = some (.int .i64 x.2.2.2.2.2.2)) ∧ (w'.cell? ⟨b7, 0, none⟩ = some (.slice B1 l1.length d1) ∧ w'.cell? ⟨b7, 1, none⟩ = some (.slice (some adB) N2 d2) ∧ w'.cell? ⟨b7, 2, none⟩ = some (.slice B3 l3.length d3) ∧ w'.cell? ⟨b7, 3, none⟩ = some (.int .i64 p1) ∧ w'.cell? ⟨b7, 4, none⟩ = some (.int .i64 p2) ∧ w'.cell? ⟨b7, 5, none⟩ = some (.int .i64 p3) ∧ w'.cell? ⟨b7, 6, none⟩ = some (.int .i64 p4) ∧ w'.cell? ⟨b7, 7, none⟩ = some (.int .i64 p5) ∧ w'.cell? ⟨b7, 8, none⟩ = some (.int .i64 p6)) ∧ (w'.cell? ⟨bt_, 0, none⟩ = some (.slice T1 l1.length t1) ∧ w'.cell? ⟨bt_, 1, none⟩ = some (.slice (some adT) N2 t2) ∧ w'.cell? ⟨bt_, 2, none⟩ = some (.slice T3 l3.length t3) ∧ w'.cell? ⟨bt_, 3, none⟩ = some (.int .i64 p1) ∧ w'.cell? ⟨bt_, 4, none⟩ = some (.int .i64 p2) ∧ w'.cell? ⟨bt_, 5, none⟩ = some (.int .i64 p3) ∧ w'.cell? ⟨bt_, 6, none⟩ = some (.int .i64 p4) ∧ w'.cell? ⟨bt_, 7, none⟩ = some (.int .i64 p5) ∧ w'.cell? ⟨bt_, 8, none⟩ = some (.int .i64 p6)) ∧ b7 < w'.heap.size ∧ bt_ < w'.heap.size ∧ Below mf.heap.size mf w') (first | exact KS.out _ (by repeat (first | exact Below.refl _ _ | assumption | apply below_drew1 | apply pw_below_drewN | refine bt ?_ hb1 | refine bt ?_ hb2 | refine bt ?_ hb3 | refine bt ?_ hb4 | refine bt ?_ hb5 | refine bt ?_ hb6 | refine bt ?_ hb7))) (first | (go_at_call 19; (with_reducible refine (HNA.out _ (by repeat (first | exact Below.refl _ _ | assumption | apply below_drew1 | apply pw_below_drewN | refine bt ?_ hb1 | refine bt ?_ hb2 | refine bt ?_ hb3 | refine bt ?_ hb4 | refine bt ?_ hb5 | refine bt ?_ hb6 | refine bt ?_ hb7))).mono ?_); rintro e wv1 ⟨L1, h1, rfl, hC1, hb1⟩) | (go_at_call 20; (with_reducible refine (HNS.out _ (by repeat (first | exact Below.refl _ _ | assumption | apply below_drew1 | apply pw_below_drewN | refine bt ?_ hb1 | refine bt ?_ hb2 | refine bt ?_ hb3 | refine bt ?_ hb4 | refine bt ?_ hb5 | refine bt ?_ hb6 | refine bt ?_ hb7))).mono ?_); rintro e wv2 ⟨L2, h2, rfl, hC2, hb2⟩) | (go_at_call 21; (with_reducible refine (HNV.out _ (by repeat (first | exact Below.refl _ _ | assumption | apply below_drew1 | apply pw_below_drewN | refine bt ?_ hb1 | refine bt ?_ hb2 | refine bt ?_ hb3 | refine bt ?_ hb4 | refine bt ?_ hb5 | refine bt ?_ hb6 | refine bt ?_ hb7))).mono ?_); rintro e wv3 ⟨L3, h3, rfl, hC3, hb3⟩) | (go_at_call 18; (with_reducible refine (HF1.out _ _ _ (Kd.C_below hC1 (by repeat (first | exact Below.refl _ _ | assumption | apply below_drew1 | apply pw_below_drewN | refine bt ?_ hb1 | refine bt ?_ hb2 | refine bt ?_ hb3 | refine bt ?_ hb4 | refine bt ?_ hb5 | refine bt ?_ hb6 | refine bt ?_ hb7)))).mono ?_); rintro e wf1 ⟨rfl, hb4⟩) | (go_at_call 18; (with_reducible refine (HF2.out _ _ _ (Kd.C_below hC2 (by repeat (first | exact Below.refl _ _ | assumption | apply below_drew1 | apply pw_below_drewN | refine bt ?_ hb1 | refine bt ?_ hb2 | refine bt ?_ hb3 | refine bt ?_ hb4 | refine bt ?_ hb5 | refine bt ?_ hb6 | refine bt ?_ hb7)))).mono ?_); rintro e wf2 ⟨rfl, hb5⟩) | (go_at_call 18; (with_reducible refine (HF3.out _ _ _ (Kd.C_below hC3 (by repeat (first | exact Below.refl _ _ | assumption | apply below_drew1 | apply pw_below_drewN | refine bt ?_ hb1 | refine bt ?_ hb2 | refine bt ?_ hb3 | refine bt ?_ hb4 | refine bt ?_ hb5 | refine bt ?_ hb6 | refine bt ?_ hb7)))).mono ?_); rintro e wf3 ⟨rfl, hb6⟩) | (go_at_call 9; (with_reducible refine (HRT.out _ (by repeat (first | exact Below.refl _ _ | assumption | apply below_drew1 | apply pw_below_drewN | refine bt ?_ hb1 | refine bt ?_ hb2 | refine bt ?_ hb3 | refine bt ?_ hb4 | refine bt ?_ hb5 | refine bt ?_ hb6 | refine bt ?_ hb7))).mono ?_); rintro e wg ⟨rfl, hb7⟩))
                go_wp2_with fail
                go_ret
                exact ⟨rfl, bt HBM.out (by repeat (first | exact Below.refl _ _ | assumption | apply below_drew1 | apply pw_below_drewN | refine bt ?_ hb1 | refine bt ?_ hb2 | refine bt ?_ hb3 | refine bt ?_ hb4 | refine bt ?_ hb5 | refine bt ?_ hb6 | refine bt ?_ hb7))⟩
              · clear hsy
                go_wp2_with fail
                clear y1 hO9
                with_reducible refine (HSet.out mg hR).mono ?_
                rintro e md ⟨F1, F2, F3, f1, f2, f3, rfl, ra1, ra2, ra3, bb⟩
                replace b3 := bt b3 bb
                clear bb hR hG HSet
                go_wp2_with fail
                with_reducible refine (plain_walk F1 F2 F3 f1 f2 f3 l1.length l2.length l3.length l1 l2 l3 p1 p2 p3 p4 p5 p6 md rfl rfl rfl M1.out M2.out M3.out (Kd.R_reads' ra1).2.2 (Kd.R_reads' ra2).2.2 (Kd.R_reads' ra3).2.2 (Kd.R_reads' ra1).2.1 (Kd.R_reads' ra2).2.1 (Kd.R_reads' ra3).2.1).mono ?_
                rintro e me ⟨T1, T2, T3, t1, t2, t3, rfl, q1, q2, q3, _, _, _, bb⟩
                replace b3 := bt b3 bb
                clear bb ra1 ra2 ra3
                have hT := Blk.new me 34 (setC (.slice T1 l1.length t1) (.slice T2 l2.length t2) (.slice T3 l3.length t3) p1 p2 p3 p4 p5 p6)
                have bb := (Below.refl me.heap.size me).alloc (Nat.le_refl _) (.cells (setC (.slice T1 l1.length t1) (.slice T2 l2.length t2) (.slice T3 l3.length t3) p1 p2 p3 p4 p5 p6) 34)
                replace q1 := Kd.C_below q1 bb
                replace q2 := Kd.C_below q2 bb
                replace q3 := Kd.C_below q3 bb
                have hlb : b7 < me.heap.size := by have := b3.size; omega
                replace b3 := bt b3 bb
                go_upto_region 26 with (fail)
                generalize me.alloc (.cells (setC (.slice T1 l1.length t1) (.slice T2 l2.length t2) (.slice T3 l3.length t3) p1 p2 p3 p4 p5 p6) 34) = mf at *
                generalize me.heap.size = bt_ at *
                have hWm := HW.out.on b3
                obtain ⟨z1, z2, z3⟩ := HQ.out
                replace z1 := Kd.C_below z1 b3
                replace z2 := Kd.C_below z2 b3
                replace z3 := Kd.C_below z3 b3
                obtain ⟨adB, rfl, hcB⟩ := at_S z2 0 (by omega)
                obtain ⟨adT, rfl, hcT⟩ := at_S q2 0 (by omega)
                generalize l2.getD 0 zS = x at hcB hcT
                rw [Nat.zero_mul] at hcB hcT
                have KS : Hid (∀ w', Below mf.heap.size mf w' → (w'.cell? adB = some (.string x.1) ∧ w'.cell? ⟨adB.block, adB.off + 1, none⟩ = some (.int .i64 x.2.1) ∧ w'.cell? ⟨adB.block, adB.off + 2, none⟩ = some (.int .i64 x.2.2.1) ∧ w'.cell? ⟨adB.block, adB.off + 3, none⟩ = some (.int .i64 x.2.2.2.1) ∧ w'.cell? ⟨adB.block, adB.off + 4, none⟩ = some (.int .i64 x.2.2.2.2.1) ∧ w'.cell? ⟨adB.block, adB.off + 5, none⟩ = some (.int .i64 x.2.2.2.2.2.1) ∧ w'.cell? ⟨adB.block, adB.off + 6, none⟩ = some (.int .i64 x.2.2.2.2.2.2)) ∧ (w'.cell? adT = some (.string x.1) ∧ w'.cell? ⟨adT.block, adT.off + 1, none⟩ = some (.int .i64 x.2.1) ∧ w'.cell? ⟨adT.block, adT.off + 2, none⟩ = some (.int .i64 x.2.2.1) ∧ w'.cell? ⟨adT.block, adT.off + 3, none⟩ = some (.int .i64 x.2.2.2.1) ∧ w'.cell? ⟨adT.block, adT.off + 4, none⟩ = some (.int .i64 x.2.2.2.2.1) ∧ w'.cell? ⟨adT.block, adT.off + 5, none⟩ = some (.int .i64 x.2.2.2.2.2.1) ∧ w'.cell? ⟨adT.block, adT.off + 6, none⟩ = some (.int .i64 x.2.2.2.2.2.2)) ∧ (w'.cell? ⟨b7, 0, none⟩ = some (.slice B1 l1.length d1) ∧ w'.cell? ⟨b7, 1, none⟩ = some (.slice (some adB) l2.length d2) ∧ w'.cell? ⟨b7, 2, none⟩ = some (.slice B3 l3.length d3) ∧ w'.cell? ⟨b7, 3, none⟩ = some (.int .i64 p1) ∧ w'.cell? ⟨b7, 4, none⟩ = some (.int .i64 p2) ∧ w'.cell? ⟨b7, 5, none⟩ = some (.int .i64 p3) ∧ w'.cell? ⟨b7, 6, none⟩ = some (.int .i64 p4) ∧ w'.cell? ⟨b7, 7, none⟩ = some (.int .i64 p5) ∧ w'.cell? ⟨b7, 8, none⟩ = some (.int .i64 p6)) ∧ (w'.cell? ⟨bt_, 0, none⟩ = some (.slice T1 l1.length t1) ∧ w'.cell? ⟨bt_, 1, none⟩ = some (.slice (some adT) l2.length t2) ∧ w'.cell? ⟨bt_, 2, none⟩ = some (.slice T3 l3.length t3) ∧ w'.cell? ⟨bt_, 3, none⟩ = some (.int .i64 p1) ∧ w'.cell? ⟨bt_, 4, none⟩ = some (.int .i64 p2) ∧ w'.cell? ⟨bt_, 5, none⟩ = some (.int .i64 p3) ∧ w'.cell? ⟨bt_, 6, none⟩ = some (.int .i64 p4) ∧ w'.cell? ⟨bt_, 7, none⟩ = some (.int .i64 p5) ∧ w'.cell? ⟨bt_, 8, none⟩ = some (.int .i64 p6)) ∧ b7 < w'.heap.size ∧ bt_ < w'.heap.size ∧ Below mf.heap.size mf w') := Lib.hid (by
                  intro w' b
                  have s0 := b.size
                  have s1 := hT.lt
                  have s2 := hWm.lt
                  refine ⟨⟨at0 hcB b 0 _ rfl, at0 hcB b 1 _ rfl, at0 hcB b 2 _ rfl, at0 hcB b 3 _ rfl, at0 hcB b 4 _ rfl, at0 hcB b 5 _ rfl, at0 hcB b 6 _ rfl⟩, ⟨at0 hcT b 0 _ rfl, at0 hcT b 1 _ rfl, at0 hcT b 2 _ rfl, at0 hcT b 3 _ rfl, at0 hcT b 4 _ rfl, at0 hcT b 5 _ rfl, at0 hcT b 6 _ rfl⟩, ⟨(hWm.on b).cell 0, (hWm.on b).cell 1, (hWm.on b).cell 2, (hWm.on b).cell 3, (hWm.on b).cell 4, (hWm.on b).cell 5, (hWm.on b).cell 6, (hWm.on b).cell 7, (hWm.on b).cell 8⟩, ⟨(hT.on b).cell 0, (hT.on b).cell 1, (hT.on b).cell 2, (hT.on b).cell 3, (hT.on b).cell 4, (hT.on b).cell 5, (hT.on b).cell 6, (hT.on b).cell 7, (hT.on b).cell 8⟩, by omega, by omega, b⟩)
                have HNA := Lib.hid (fun w' (b : Below mf.heap.size mf w') => namesA B1 (some adB) B3 d1 d2 d3 l1.length l2.length l3.length l1 p1 p2 p3 p4 p5 p6 w' rfl M1.out (Kd.C_below z1 b))
                have HNS := Lib.hid (fun w' (b : Below mf.heap.size mf w') => namesS B1 (some adB) B3 d1 d2 d3 l1.length l2.length l3.length l2 p1 p2 p3 p4 p5 p6 w' rfl M2.out (Kd.C_below z2 b))
                have HNV := Lib.hid (fun w' (b : Below mf.heap.size mf w') => namesV B1 (some adB) B3 d1 d2 d3 l1.length l2.length l3.length l3 p1 p2 p3 p4 p5 p6 w' rfl M3.out (Kd.C_below z3 b))
                have HRT := Lib.hid (fun w' (b : Below mf.heap.size mf w') => HR.out w' T1 (some adT) T3 t1 t2 t3 (Kd.C_below q1 b) (Kd.C_below q2 b) (Kd.C_below q3 b))
                rw [HCK.out] at HRT
                have hBm := bt HB5.out b3
                have HBM := Lib.hid hBm
                clear hBm hcB hcT hT hWm z1 z2 z3 q1 q2 q3 b3 HW HQ HR H1 H2 H3 HB5 HO HP S1 S2 S3 M1 M2 M3 HCK hlb
                have hk0 : (0 : Int) < (l2.length : Int) := by omega
                generalize l2.length = N2 at *
                have hk2 : 0 < N2 := by omega
                go_region_held3 (fun w' => (w'.cell? adB = some (.string x.1) ∧ w'.cell? ⟨adB.block, adB.off + 1, none⟩ = some (.int .i64 x.2.1) ∧ w'.cell? ⟨adB.block, adB.off + 2, none⟩ = some (.int .i64 x.2.2.1) ∧ w'.cell? ⟨adB.block, adB.off + 3, none⟩ = some (.int .i64 x.2.2.2.1) ∧ w'.cell? ⟨adB.block, adB.off + 4, none⟩ = some (.int .i64 x.2.2.2.2.1) ∧ w'.cell? ⟨adB.block, adB.off + 5, none⟩ = some (.int .i64 x.2.2.2.2.2.1) ∧ w'.cell? ⟨adB.block, adB.off + 6, none⟩ = some (.int .i64 x.2.2.2.2.2.2)) ∧ (w'.cell? adT = some (.string x.1) ∧ w'.cell? ⟨adT.block, adT.off + 1, none⟩ = some (.int .i64 x.2.1) ∧ w'.cell? ⟨adT.block, adT.off + 2, none⟩ = some (.int .i64 x.2.2.1) ∧ w'.cell? ⟨adT.block, adT.off + 3, none⟩ = some (.int .i64 x.2.2.2.1) ∧ w'.cell? ⟨adT.block, adT.off + 4, none⟩ = some (.int .i64 x.2.2.2.2.1) ∧ w'.cell? ⟨adT.block, adT.off + 5, none⟩ = some (.int .i64 x.2.2.2.2.2.1) ∧ w'.cell? ⟨adT.block, adT.off + 6, none⟩ = some (.int .i64 x.2.2.2.2.2.2)) ∧ (w'.cell? ⟨b7, 0, none⟩ = some (.slice B1 l1.length d1) ∧ w'.cell? ⟨b7, 1, none⟩ = some (.slice (some adB) N2 d2) ∧ w'.cell? ⟨b7, 2, none⟩ = some (.slice B3 l3.length d3) ∧ w'.cell? ⟨b7, 3, none⟩ = some (.int .i64 p1) ∧ w'.cell? ⟨b7, 4, none⟩ = some (.int .i64 p2) ∧ w'.cell? ⟨b7, 5, none⟩ = some (.int .i64 p3) ∧ w'.cell? ⟨b7, 6, none⟩ = some (.int .i64 p4) ∧ w'.cell? ⟨b7, 7, none⟩ = some (.int .i64 p5) ∧ w'.cell? ⟨b7, 8, none⟩ = some (.int .i64 p6)) ∧ (w'.cell? ⟨bt_, 0, none⟩ = some (.slice T1 l1.length t1) ∧ w'.cell? ⟨bt_, 1, none⟩ = some (.slice (some adT) N2 t2) ∧ w'.cell? ⟨bt_, 2, none⟩ = some (.slice T3 l3.length t3) ∧ w'.cell? ⟨bt_, 3, none⟩ = some (.int .i64 p1) ∧ w'.cell? ⟨bt_, 4, none⟩ = some (.int .i64 p2) ∧ w'.cell? ⟨bt_, 5, none⟩ = some (.int .i64 p3) ∧ w'.cell? ⟨bt_, 6, none⟩ = some (.int .i64 p4) ∧ w'.cell? ⟨bt_, 7, none⟩ = some (.int .i64 p5) ∧ w'.cell? ⟨bt_, 8, none⟩ = some (.int .i64 p6)) ∧ b7 < w'.heap.size ∧ bt_ < w'.heap.size ∧ Below mf.heap.size mf w') (first | exact KS.out _ (by repeat (first | exact Below.refl _ _ | assumption | apply below_drew1 | apply pw_below_drewN | refine bt ?_ hb1 | refine bt ?_ hb2 | refine bt ?_ hb3 | refine bt ?_ hb4 | refine bt ?_ hb5 | refine bt ?_ hb6 | refine bt ?_ hb7))) (first | (go_at_call 19; (with_reducible refine (HNA.out _ (by repeat (first | exact Below.refl _ _ | assumption | apply below_drew1 | apply pw_below_drewN | refine bt ?_ hb1 | refine bt ?_ hb2 | refine bt ?_ hb3 | refine bt ?_ hb4 | refine bt ?_ hb5 | refine bt ?_ hb6 | refine bt ?_ hb7))).mono ?_); rintro e wv1 ⟨L1, h1, rfl, hC1, hb1⟩) | (go_at_call 20; (with_reducible refine (HNS.out _ (by repeat (first | exact Below.refl _ _ | assumption | apply below_drew1 | apply pw_below_drewN | refine bt ?_ hb1 | refine bt ?_ hb2 | refine bt ?_ hb3 | refine bt ?_ hb4 | refine bt ?_ hb5 | refine bt ?_ hb6 | refine bt ?_ hb7))).mono ?_); rintro e wv2 ⟨L2, h2, rfl, hC2, hb2⟩) | (go_at_call 21; (with_reducible refine (HNV.out _ (by repeat (first | exact Below.refl _ _ | assumption | apply below_drew1 | apply pw_below_drewN | refine bt ?_ hb1 | refine bt ?_ hb2 | refine bt ?_ hb3 | refine bt ?_ hb4 | refine bt ?_ hb5 | refine bt ?_ hb6 | refine bt ?_ hb7))).mono ?_); rintro e wv3 ⟨L3, h3, rfl, hC3, hb3⟩) | (go_at_call 18; (with_reducible refine (HF1.out _ _ _ (Kd.C_below hC1 (by repeat (first | exact Below.refl _ _ | assumption | apply below_drew1 | apply pw_below_drewN | refine bt ?_ hb1 | refine bt ?_ hb2 | refine bt ?_ hb3 | refine bt ?_ hb4 | refine bt ?_ hb5 | refine bt ?_ hb6 | refine bt ?_ hb7)))).mono ?_); rintro e wf1 ⟨rfl, hb4⟩) | (go_at_call 18; (with_reducible refine (HF2.out _ _ _ (Kd.C_below hC2 (by repeat (first | exact Below.refl _ _ | assumption | apply below_drew1 | apply pw_below_drewN | refine bt ?_ hb1 | refine bt ?_ hb2 | refine bt ?_ hb3 | refine bt ?_ hb4 | refine bt ?_ hb5 | refine bt ?_ hb6 | refine bt ?_ hb7)))).mono ?_); rintro e wf2 ⟨rfl, hb5⟩) | (go_at_call 18; (with_reducible refine (HF3.out _ _ _ (Kd.C_below hC3 (by repeat (first | exact Below.refl _ _ | assumption | apply below_drew1 | apply pw_below_drewN | refine bt ?_ hb1 | refine bt ?_ hb2 | refine bt ?_ hb3 | refine bt ?_ hb4 | refine bt ?_ hb5 | refine bt ?_ hb6 | refine bt ?_ hb7)))).mono ?_); rintro e wf3 ⟨rfl, hb6⟩) | (go_at_call 9; (with_reducible refine (HRT.out _ (by repeat (first | exact Below.refl _ _ | assumption | apply below_drew1 | apply pw_below_drewN | refine bt ?_ hb1 | refine bt ?_ hb2 | refine bt ?_ hb3 | refine bt ?_ hb4 | refine bt ?_ hb5 | refine bt ?_ hb6 | refine bt ?_ hb7))).mono ?_); rintro e wg ⟨rfl, hb7⟩))
                go_wp2_with fail
                go_ret
                exact ⟨rfl, bt HBM.out (by repeat (first | exact Below.refl _ _ | assumption | apply below_drew1 | apply pw_below_drewN | refine bt ?_ hb1 | refine bt ?_ hb2 | refine bt ?_ hb3 | refine bt ?_ hb4 | refine bt ?_ hb5 | refine bt ?_ hb6 | refine bt ?_ hb7))⟩
end Go.Proofs.Ytbhbnefifgdioaa.Hand

/- RulesFinds: accounts, symbols and venues are found by their names, and each symbol has its band; any setup, any text, any number; no condition. -/
set_option linter.unusedVariables false
set_option linter.unusedSimpArgs false
namespace Go.Proofs.Ytbhbnefifgdioaa.Walk
open Go Go.RowKit Go.Proofs.Ytbhbnefifgdioaa.Hand Go.Proofs.YtbhbnefifgdioaaW.PrintWords Go.Proofs.YtbhbnefifgdioaaW.PrintMore Go.Proofs.YtbhbnefifgdioaaW.PrintLast Go.Proofs.Ytbhbnefifgdioaa.RL Go.Proofs.Ytbhbnefifgdioaa.PL Go.Proofs.Ytbhbnefifgdioaa.K
theorem RulesFinds (A0_0 : Option Addr) (k0_0 : Nat) (l0_0 : List (ByteArray × Int)) (A0_1 : Option Addr) (k0_1 : Nat) (l0_1 : List (ByteArray × Int × Int × Int × Int × Int × Int)) (A0_2 : Option Addr) (k0_2 : Nat) (l0_2 : List (ByteArray × Int × Int × Int × Bool)) (a0_3 : Int) (a0_4 : Int) (a0_5 : Int) (a0_6 : Int) (a0_7 : Int) (a0_8 : Int) (a1 : ByteArray) (a2 : Int) (W : World) (w0_0 : (A0_0 = none ∧ k0_0 = 0 ∧ l0_0 = []) ∨ ∃ x, A0_0 = some x ∧ l0_0.length ≤ k0_0 ∧ k0_0 ≤ maxLen ∧ ∀ i (h : i < l0_0.length), W.cell? (x.add (i * 2 + 0)) = some (.string l0_0[i].1) ∧ W.cell? (x.add (i * 2 + 1)) = some (.int .i64 l0_0[i].2) ∧ (Lit.int .i64 l0_0[i].2).wf = true ∧ l0_0[i].1.size ≤ maxLen) (w0_1 : (A0_1 = none ∧ k0_1 = 0 ∧ l0_1 = []) ∨ ∃ x, A0_1 = some x ∧ l0_1.length ≤ k0_1 ∧ k0_1 ≤ maxLen ∧ ∀ i (h : i < l0_1.length), W.cell? (x.add (i * 7 + 0)) = some (.string l0_1[i].1) ∧ W.cell? (x.add (i * 7 + 1)) = some (.int .i64 l0_1[i].2.1) ∧ W.cell? (x.add (i * 7 + 2)) = some (.int .i64 l0_1[i].2.2.1) ∧ W.cell? (x.add (i * 7 + 3)) = some (.int .i64 l0_1[i].2.2.2.1) ∧ W.cell? (x.add (i * 7 + 4)) = some (.int .i64 l0_1[i].2.2.2.2.1) ∧ W.cell? (x.add (i * 7 + 5)) = some (.int .i64 l0_1[i].2.2.2.2.2.1) ∧ W.cell? (x.add (i * 7 + 6)) = some (.int .i64 l0_1[i].2.2.2.2.2.2) ∧ (Lit.int .i64 l0_1[i].2.1).wf = true ∧ (Lit.int .i64 l0_1[i].2.2.1).wf = true ∧ (Lit.int .i64 l0_1[i].2.2.2.1).wf = true ∧ (Lit.int .i64 l0_1[i].2.2.2.2.1).wf = true ∧ (Lit.int .i64 l0_1[i].2.2.2.2.2.1).wf = true ∧ (Lit.int .i64 l0_1[i].2.2.2.2.2.2).wf = true ∧ l0_1[i].1.size ≤ maxLen) (w0_2 : (A0_2 = none ∧ k0_2 = 0 ∧ l0_2 = []) ∨ ∃ x, A0_2 = some x ∧ l0_2.length ≤ k0_2 ∧ k0_2 ≤ maxLen ∧ ∀ i (h : i < l0_2.length), W.cell? (x.add (i * 5 + 0)) = some (.string l0_2[i].1) ∧ W.cell? (x.add (i * 5 + 1)) = some (.int .i64 l0_2[i].2.1) ∧ W.cell? (x.add (i * 5 + 2)) = some (.int .i64 l0_2[i].2.2.1) ∧ W.cell? (x.add (i * 5 + 3)) = some (.int .i64 l0_2[i].2.2.2.1) ∧ W.cell? (x.add (i * 5 + 4)) = some (.bool l0_2[i].2.2.2.2) ∧ (Lit.int .i64 l0_2[i].2.1).wf = true ∧ (Lit.int .i64 l0_2[i].2.2.1).wf = true ∧ (Lit.int .i64 l0_2[i].2.2.2.1).wf = true ∧ l0_2[i].1.size ≤ maxLen) (w0_3 : (Lit.int .i64 a0_3).wf = true) (w0_4 : (Lit.int .i64 a0_4).wf = true) (w0_5 : (Lit.int .i64 a0_5).wf = true) (w0_6 : (Lit.int .i64 a0_6).wf = true) (w0_7 : (Lit.int .i64 a0_7).wf = true) (w0_8 : (Lit.int .i64 a0_8).wf = true) (w1 : a1.size ≤ 140737488351232) (w2 : (Lit.int .i64 a2).wf = true) :
    Calls Try.prog 4 #[.agg #[.slice A0_0 l0_0.length k0_0, .slice A0_1 l0_1.length k0_1, .slice A0_2 l0_2.length k0_2, .int .i64 a0_3, .int .i64 a0_4, .int .i64 a0_5, .int .i64 a0_6, .int .i64 a0_7, .int .i64 a0_8], .string a1, .int .i64 a2] W fun e W' => e = .returned (.bool true) ∧ Below W.heap.size W W' := by
  obtain ⟨n0, q0⟩ := len_row w0_0; obtain ⟨n1, q1⟩ := len_row w0_1; obtain ⟨n2, q2⟩ := len_row w0_2
  exact finds_walk A0_0 A0_1 A0_2 k0_0 k0_1 k0_2 l0_0 l0_1 l0_2 a0_3 a0_4 a0_5 a0_6 a0_7 a0_8 a1 a2 W (rowA w0_0) (rowS w0_1) (rowV w0_2) n0 n1 n2
end Go.Proofs.Ytbhbnefifgdioaa.Walk

