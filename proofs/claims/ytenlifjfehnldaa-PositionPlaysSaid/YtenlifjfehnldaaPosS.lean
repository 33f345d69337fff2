/- The document's list of executions: Sum walked. -/
import Derived.Test.YtenlifjfehnldaaPos8
import Derived.Test.YtenlifjfehnldaaNum
import Derived.Test.YtenlifjfehnldaaPl18
import Derived.Deep.QuietTactic
import Derived.BigQuiet
set_option linter.unusedVariables false
set_option linter.unusedSimpArgs false
namespace Go.Proofs.Ytenlifjfehnldaa.Hand
open Go Go.RowKit Go.Proofs.YtenlifjfehnldaaW.PrintWords Go.Proofs.YtenlifjfehnldaaW.PrintMore Go.Proofs.YtenlifjfehnldaaW.PrintLast Go.Proofs.Ytenlifjfehnldaa.RL Go.Proofs.Ytenlifjfehnldaa.PL
/-- An execution's cells. -/
def kE : Kd Ex := Kd.pair (Kd.int .i64) (Kd.pair (Kd.int .i64) (Kd.pair (Kd.int .i64) (Kd.pair (Kd.int .i64) (Kd.pair (Kd.int .i64) Kd.bool))))
def zE : Ex := (0, 0, 0, 0, 0, false)
def cE (x : Ex) : List Value := [.int .i64 x.1, .int .i64 x.2.1, .int .i64 x.2.2.1, .int .i64 x.2.2.2.1, .int .i64 x.2.2.2.2.1, .bool x.2.2.2.2.2]
theorem kE_open {w : World} {x : Ex} {cs : List Value} (h : kE.K w x cs) : cs = cE x := by
  obtain ⟨_, _, rfl, rfl, ⟨_, _, rfl, rfl, ⟨_, _, rfl, rfl, ⟨_, _, rfl, rfl, ⟨_, _, rfl, rfl, rfl⟩⟩⟩⟩⟩ := h
  exact rfl
theorem kE_mk (w : World) (x : Ex) : kE.K w x (cE x) := ⟨[.int .i64 x.1], [.int .i64 x.2.1, .int .i64 x.2.2.1, .int .i64 x.2.2.2.1, .int .i64 x.2.2.2.2.1, .bool x.2.2.2.2.2], rfl, rfl, ⟨[.int .i64 x.2.1], [.int .i64 x.2.2.1, .int .i64 x.2.2.2.1, .int .i64 x.2.2.2.2.1, .bool x.2.2.2.2.2], rfl, rfl, ⟨[.int .i64 x.2.2.1], [.int .i64 x.2.2.2.1, .int .i64 x.2.2.2.2.1, .bool x.2.2.2.2.2], rfl, rfl, ⟨[.int .i64 x.2.2.2.1], [.int .i64 x.2.2.2.2.1, .bool x.2.2.2.2.2], rfl, rfl, ⟨[.int .i64 x.2.2.2.2.1], [.bool x.2.2.2.2.2], rfl, rfl, rfl⟩⟩⟩⟩⟩
theorem kE_mkM (w : World) (base : Nat) (ok : Nat → Prop) (x : Ex) : kE.M w base ok x (cE x) := ⟨[.int .i64 x.1], [.int .i64 x.2.1, .int .i64 x.2.2.1, .int .i64 x.2.2.2.1, .int .i64 x.2.2.2.2.1, .bool x.2.2.2.2.2], rfl, rfl, ⟨[.int .i64 x.2.1], [.int .i64 x.2.2.1, .int .i64 x.2.2.2.1, .int .i64 x.2.2.2.2.1, .bool x.2.2.2.2.2], rfl, rfl, ⟨[.int .i64 x.2.2.1], [.int .i64 x.2.2.2.1, .int .i64 x.2.2.2.2.1, .bool x.2.2.2.2.2], rfl, rfl, ⟨[.int .i64 x.2.2.2.1], [.int .i64 x.2.2.2.2.1, .bool x.2.2.2.2.2], rfl, rfl, ⟨[.int .i64 x.2.2.2.2.1], [.bool x.2.2.2.2.2], rfl, rfl, rfl⟩⟩⟩⟩⟩
theorem at_E {w : World} {A : Option Addr} {n : Nat} {xs : List Ex} (h : Kd.C kE w A n xs) (i : Nat) (h1 : i < n) : ∃ ad, A = some ad ∧ ∀ j u, (cE (xs.getD i zE))[j]? = some u → w.cell? (ad.add (i * 6 + j)) = some u := by
  obtain ⟨ad, c, e, _, hK, hc0⟩ := Kd.C_get h zE (i : Int) (by omega) (by omega)
  obtain rfl := kE_open hK
  simp only [Int.toNat_natCast] at hc0
  exact ⟨ad, e, hc0⟩
/-- What one execution counts to a side of a line. -/
def qOf (i j sd : Int) (x : Ex) : Int := if x.1 = i ∧ x.2.1 = j ∧ x.2.2.1 = sd then (if x.2.2.2.2.2 = true then -x.2.2.2.1 else x.2.2.2.1) else 0
def wOf (i j sd : Int) (x : Ex) : Int := if x.1 = i ∧ x.2.1 = j ∧ x.2.2.1 = sd then (if x.2.2.2.2.2 = true then -(x.2.2.2.1 * x.2.2.2.2.1) else x.2.2.2.1 * x.2.2.2.2.1) else 0
/-- How far the sum's walk is: its four blocks, and its numbers. -/
structure SumI (w wr : World) (Q V : Int) : Prop where
  b0 : Blk wr w.heap.size 51 #[.bool false, .slice none 0 0]
  b1 : Blk wr (w.heap.size + 1) 51 #[.bool false, .slice none 0 0]
  q : ∃ A c, Blk wr (w.heap.size + 1 + 1) 51 (numC Q A c) ∧ Num wr w.heap.size Q A c
  v : ∃ A c, Blk wr (w.heap.size + 1 + 1 + 1) 51 (numC V A c) ∧ Num wr w.heap.size V A c
  bel : Below w.heap.size w wr
theorem SumI.below {w wr w' : World} {Q V : Int} (h : SumI w wr Q V) (b : Below wr.heap.size wr w') : SumI w w' Q V := by
  obtain ⟨A, c, h1, h2⟩ := h.q
  obtain ⟨A', c', h3, h4⟩ := h.v
  exact ⟨h.b0.below b h.b0.lt, h.b1.below b h.b1.lt, ⟨A, c, h1.below b h1.lt, h2.below b⟩, ⟨A', c', h3.below b h3.lt, h4.below b⟩, bt h.bel b⟩
theorem SumI.start (w : World) : SumI w ((((w.alloc (.cells #[.bool false, .slice none 0 0] 51)).alloc (.cells #[.bool false, .slice none 0 0] 51)).alloc (.cells #[.bool false, .slice none 0 0] 51)).alloc (.cells #[.bool false, .slice none 0 0] 51)) 0 0 := by
  have h0 := Blk.new w 51 #[.bool false, .slice none 0 0]
  have B0 := (Below.refl w.heap.size w).alloc (Nat.le_refl _) (.cells #[.bool false, .slice none 0 0] 51)
  have s0 : (w.alloc (.cells #[.bool false, .slice none 0 0] 51)).heap.size = w.heap.size + 1 := by simp
  generalize (w.alloc (.cells #[.bool false, .slice none 0 0] 51)) = w1 at *
  have h1 := Blk.new w1 51 #[.bool false, .slice none 0 0]
  have h0 := h0.alloc (.cells #[.bool false, .slice none 0 0] 51)
  have B0 := B0.alloc (by omega) (.cells #[.bool false, .slice none 0 0] 51)
  have s1 : (w1.alloc (.cells #[.bool false, .slice none 0 0] 51)).heap.size = w1.heap.size + 1 := by simp
  generalize (w1.alloc (.cells #[.bool false, .slice none 0 0] 51)) = w2 at *
  have h2 := Blk.new w2 51 #[.bool false, .slice none 0 0]
  have h0 := h0.alloc (.cells #[.bool false, .slice none 0 0] 51)
  have h1 := h1.alloc (.cells #[.bool false, .slice none 0 0] 51)
  have B0 := B0.alloc (by omega) (.cells #[.bool false, .slice none 0 0] 51)
  have s2 : (w2.alloc (.cells #[.bool false, .slice none 0 0] 51)).heap.size = w2.heap.size + 1 := by simp
  generalize (w2.alloc (.cells #[.bool false, .slice none 0 0] 51)) = w3 at *
  have h3 := Blk.new w3 51 #[.bool false, .slice none 0 0]
  have h0 := h0.alloc (.cells #[.bool false, .slice none 0 0] 51)
  have h1 := h1.alloc (.cells #[.bool false, .slice none 0 0] 51)
  have h2 := h2.alloc (.cells #[.bool false, .slice none 0 0] 51)
  have B0 := B0.alloc (by omega) (.cells #[.bool false, .slice none 0 0] 51)
  rw [s0] at h1; rw [s1, s0] at h2; rw [s2, s1, s0] at h3
  exact ⟨h0, h1, ⟨none, 0, by rw [numC_zero]; exact h2, Num.zero _ _⟩, ⟨none, 0, by rw [numC_zero]; exact h3, Num.zero _ _⟩, B0⟩
theorem alloc_lt (w : World) (o : Obj) : w.heap.size < (w.alloc o).heap.size := by simp
theorem blk_put2 {w : World} {g c : Nat} {z : Int} {A : Option Addr} {cs : Array Value} (hB : Blk w g 51 cs) (hcs : cs.size = 2) : Blk ((w.setCell ⟨g, 0, none⟩ (.bool (enc z).1)).setCell ⟨g, 1, none⟩ (.slice A (enc z).2.length c)) g 51 (numC z A c) := by
  have h := (hB.put 0 (.bool (enc z).1)).put 1 (.slice A (enc z).2.length c)
  have e : (cs.setIfInBounds 0 (.bool (enc z).1)).setIfInBounds 1 (.slice A (enc z).2.length c) = numC z A c := by
    obtain ⟨l⟩ := cs
    match l, hcs with
    | [x, y], _ => rfl
  rw [← e]; exact h
theorem blk_far2 {w : World} {g g' : Nat} {t : TypeId} {cs : Array Value} (hB : Blk w g t cs) (hne : g ≠ g') (x y : Value) : Blk ((w.setCell ⟨g', 0, none⟩ x).setCell ⟨g', 1, none⟩ y) g t cs := (hB.far hne x).far hne y
theorem Num.put2 {w : World} {b c g : Nat} {z : Int} {A : Option Addr} {cs : Array Value} (h : Num w b z A c) (hB : Blk w g 51 cs) (x y : Value) : Num ((w.setCell ⟨g, 0, none⟩ x).setCell ⟨g, 1, none⟩ y) b z A c := (h.put hB 0 x).put (hB.put 0 x) 1 y
theorem SumI.put {w wr : World} {Q V : Int} (h : SumI w wr Q V) {g : Nat} {cs : Array Value} (hB : Blk wr g 51 cs) (hg : w.heap.size + 1 + 1 + 1 < g) (x y : Value) : SumI w ((wr.setCell ⟨g, 0, none⟩ x).setCell ⟨g, 1, none⟩ y) Q V := by
  obtain ⟨A, c, h1, h2⟩ := h.q
  obtain ⟨A', c', h3, h4⟩ := h.v
  exact ⟨blk_far2 h.b0 (by omega) x y, blk_far2 h.b1 (by omega) x y, ⟨A, c, blk_far2 h1 (by omega) x y, h2.put2 hB x y⟩, ⟨A', c', blk_far2 h3 (by omega) x y, h4.put2 hB x y⟩, (h.bel.setCell (by show w.heap.size ≤ g; omega) x).setCell (by show w.heap.size ≤ g; omega) y⟩
theorem SumI.setQ {w wr : World} {Q V z : Int} {A : Option Addr} {c : Nat} (h : SumI w wr Q V) (hn : Num wr w.heap.size z A c) : SumI w ((wr.setCell ⟨w.heap.size + 1 + 1, 0, none⟩ (.bool (enc z).1)).setCell ⟨w.heap.size + 1 + 1, 1, none⟩ (.slice A (enc z).2.length c)) z V := by
  obtain ⟨A1, c1, h1, h2⟩ := h.q
  obtain ⟨A', c', h3, h4⟩ := h.v
  exact ⟨blk_far2 h.b0 (by omega) _ _, blk_far2 h.b1 (by omega) _ _, ⟨A, c, blk_put2 h1 rfl, hn.put2 h1 _ _⟩, ⟨A', c', blk_far2 h3 (by omega) _ _, h4.put2 h1 _ _⟩, (h.bel.setCell (show w.heap.size ≤ w.heap.size + 1 + 1 by omega) _).setCell (show w.heap.size ≤ w.heap.size + 1 + 1 by omega) _⟩
theorem SumI.setV {w wr : World} {Q V z : Int} {A : Option Addr} {c : Nat} (h : SumI w wr Q V) (hn : Num wr w.heap.size z A c) : SumI w ((wr.setCell ⟨w.heap.size + 1 + 1 + 1, 0, none⟩ (.bool (enc z).1)).setCell ⟨w.heap.size + 1 + 1 + 1, 1, none⟩ (.slice A (enc z).2.length c)) Q z := by
  obtain ⟨A1, c1, h1, h2⟩ := h.q
  obtain ⟨A', c', h3, h4⟩ := h.v
  exact ⟨blk_far2 h.b0 (by omega) _ _, blk_far2 h.b1 (by omega) _ _, ⟨A1, c1, blk_far2 h1 (by omega) _ _, h2.put2 h3 _ _⟩, ⟨A, c, blk_put2 h3 rfl, hn.put2 h3 _ _⟩, (h.bel.setCell (show w.heap.size ≤ w.heap.size + 1 + 1 + 1 by omega) _).setCell (show w.heap.size ≤ w.heap.size + 1 + 1 + 1 by omega) _⟩
/-- An execution's numbers are in their bounds. -/
def rngE (x : Ex) : Prop := (1 ≤ x.2.2.2.1 ∧ x.2.2.2.1 ≤ 1099511627776) ∧ 1 ≤ x.2.2.2.2.1 ∧ x.2.2.2.2.1 ≤ 1099511627776
theorem prodE_bnd {a b : Int} (ha : 1 ≤ a ∧ a ≤ 1099511627776) (hb : 1 ≤ b ∧ b ≤ 1099511627776) : 1 ≤ a * b ∧ a * b ≤ 1208925819614629174706176 := by
  constructor
  · have := Int.mul_le_mul ha.1 hb.1 (by omega) (by omega); omega
  · have := Int.mul_le_mul ha.2 hb.2 (by omega) (by omega); omega
theorem qOf_bnd {i j sd : Int} {x : Ex} (h : rngE x) : -1208925819614629174706176 ≤ qOf i j sd x ∧ qOf i j sd x ≤ 1208925819614629174706176 := by
  have := h.1
  unfold qOf
  split
  · split <;> omega
  · omega
theorem wOf_bnd {i j sd : Int} {x : Ex} (h : rngE x) : -1208925819614629174706176 ≤ wOf i j sd x ∧ wOf i j sd x ≤ 1208925819614629174706176 := by
  have := prodE_bnd h.1 h.2
  unfold wOf
  split
  · split <;> omega
  · omega
theorem sm_bnd {f : Ex → Int} {l : List Ex} (h : ∀ x ∈ l, -1208925819614629174706176 ≤ f x ∧ f x ≤ 1208925819614629174706176) : -(1208925819614629174706176 * (l.length : Int)) ≤ sm f l ∧ sm f l ≤ 1208925819614629174706176 * (l.length : Int) := by
  induction l with
  | nil => simp [sm]
  | cons x l ih => have := h x List.mem_cons_self; have := ih (fun y hy => h y (List.mem_cons_of_mem _ hy)); simp only [sm, List.length_cons]; omega
theorem qOf_small {i j sd : Int} {x : Ex} (h : rngE x) : small (qOf i j sd x) := small_of (by have := qOf_bnd (i := i) (j := j) (sd := sd) h; omega)
theorem wOf_small {i j sd : Int} {x : Ex} (h : rngE x) : small (wOf i j sd x) := small_of (by have := wOf_bnd (i := i) (j := j) (sd := sd) h; omega)
theorem sm_smallQ {i j sd : Int} {l : List Ex} (h : ∀ x ∈ l, rngE x) (hl : l.length ≤ 1000) : small (sm (qOf i j sd) l) := small_of (by have := sm_bnd (f := qOf i j sd) (fun x hx => qOf_bnd (i := i) (j := j) (sd := sd) (h x hx)); omega)
theorem sm_smallW {i j sd : Int} {l : List Ex} (h : ∀ x ∈ l, rngE x) (hl : l.length ≤ 1000) : small (sm (wOf i j sd) l) := small_of (by have := sm_bnd (f := wOf i j sd) (fun x hx => wOf_bnd (i := i) (j := j) (sd := sd) (h x hx)); omega)
set_option maxHeartbeats 4000000 in
set_option maxRecDepth 100000 in
theorem sum_walk (i j sd : Int) (A : Option Addr) (c n : Nat) (l : List Ex) (hn : l.length = n) (hn2 : n ≤ 1000) (hr : ∀ x ∈ l, rngE x) (w : World) (hl : Kd.C kE w A n l) (hc : n ≤ c) :
    Calls Try.prog 19 #[.slice A n c, .int .i64 i, .int .i64 j, .int .i64 sd] w fun e w' => ∃ A1 c1 A2 c2, e = .returned (.tuple #[numV (sm (qOf i j sd) l) A1 c1, numV (sm (wOf i j sd) l) A2 c2]) ∧ Num w' w.heap.size (sm (qOf i j sd) l) A1 c1 ∧ Num w' w.heap.size (sm (wOf i j sd) l) A2 c2 ∧ Below w.heap.size w w' := by
  have HL := Lib.hid hl
  have hst := SumI.start w
  clear hl
  go_enter Try.func19, Try.ntmps19
  go_wp2_with fail
  go_loopw [12] (fun v wr => ∃ k : Nat, k ≤ n ∧ v = .int .i64 k ∧ Hid (SumI w wr (sm (qOf i j sd) (l.take k)) (sm (wOf i j sd) (l.take k)))) (fun v _ => n - (intOf v).toNat)
  case atStart => exact ⟨0, Nat.zero_le _, rfl, Lib.hid hst⟩
  case round =>
    clear hst
    obtain ⟨k, hk, rfl, H⟩ := hrel
    by_cases hlt : k < n
    · have hI := H.out
      obtain ⟨ad, rfl, hcell⟩ := at_E (Kd.C_below HL.out hI.bel) k hlt
      have hkl : k < l.length := by omega
      have e1 : l.getD k zE = l[k] := by simp [hkl]
      have hm := hr l[k] (List.getElem_mem hkl)
      rw [e1] at hcell
      have hs1 : sm (qOf i j sd) (l.take (k + 1)) = sm (qOf i j sd) (l.take k) + qOf i j sd l[k] := by rw [List.take_succ_eq_append_getElem hkl, sm_append]; simp [sm]
      have hs2 : sm (wOf i j sd) (l.take (k + 1)) = sm (wOf i j sd) (l.take k) + wOf i j sd l[k] := by rw [List.take_succ_eq_append_getElem hkl, sm_append]; simp [sm]
      generalize l[k] = x at *
      obtain ⟨xi, xj, xs, xq, xp, xb⟩ := x
      have q0 : wr.cell? (ad.add (k * 6)) = some (.int .i64 xi) := hcell 0 _ rfl
      have q1 : wr.cell? ⟨(ad.add (k * 6)).block, (ad.add (k * 6)).off + 1, none⟩ = some (.int .i64 xj) := by rw [← add_field _ _ 1 (by omega)]; exact hcell 1 _ rfl
      have q2 : wr.cell? ⟨(ad.add (k * 6)).block, (ad.add (k * 6)).off + 2, none⟩ = some (.int .i64 xs) := by rw [← add_field _ _ 2 (by omega)]; exact hcell 2 _ rfl
      have q3 : wr.cell? ⟨(ad.add (k * 6)).block, (ad.add (k * 6)).off + 3, none⟩ = some (.int .i64 xq) := by rw [← add_field _ _ 3 (by omega)]; exact hcell 3 _ rfl
      have q4 : wr.cell? ⟨(ad.add (k * 6)).block, (ad.add (k * 6)).off + 4, none⟩ = some (.int .i64 xp) := by rw [← add_field _ _ 4 (by omega)]; exact hcell 4 _ rfl
      have q5 : wr.cell? ⟨(ad.add (k * 6)).block, (ad.add (k * 6)).off + 5, none⟩ = some (.bool xb) := by rw [← add_field _ _ 5 (by omega)]; exact hcell 5 _ rfl
      have so : (ad.add (k * 6)).block < wr.heap.size := World.block_lt_of_cell? wr _ q0
      have H5 := Lib.hid (hI.below ((Below.refl wr.heap.size wr).alloc (Nat.le_refl _) (.cells #[.int .i64 xi, .int .i64 xj, .int .i64 xs, .int .i64 xq, .int .i64 xp, .bool xb] 33)))
      have HX := Lib.hid (Blk.new wr 33 #[.int .i64 xi, .int .i64 xj, .int .i64 xs, .int .i64 xq, .int .i64 xp, .bool xb])
      have HS1 := Lib.hid hs1; have HS2 := Lib.hid hs2
      clear hI hcell e1 hs1 hs2 H
      have hmr := hm
      dsimp only [rngE] at hm
      have hno : ¬ (xi = i ∧ xj = j ∧ xs = sd) → ∀ W', SumI w W' (sm (qOf i j sd) (l.take k)) (sm (wOf i j sd) (l.take k)) → SumI w W' (sm (qOf i j sd) (l.take (k + 1))) (sm (wOf i j sd) (l.take (k + 1))) := by
        intro h W' h2
        rw [HS1.out, HS2.out]
        unfold qOf wOf
        dsimp only
        rw [if_neg h, if_neg h, Int.add_zero, Int.add_zero]
        exact h2
      by_cases c1 : xi = i
      · subst c1
        by_cases c2 : xj = j
        · subst c2
          by_cases c3 : xs = sd
          · subst c3
            clear hno
            go_upto_region 8 with (fail)
            generalize hW5 : (wr.alloc (.cells #[.int .i64 xi, .int .i64 xj, .int .i64 xs, .int .i64 xq, .int .i64 xp, .bool xb] 33)) = W5 at *
            generalize wr.heap.size = bx at *
            have x3 : W5.cell? ⟨bx, 3, none⟩ = some (.int .i64 xq) := HX.out.cell 3
            clear hW5 q0 q1 q2 q3 q4 q5 so
            go_wp2_with fail
            refine (num_of xq (by unfold in64; have := hm.1; omega) _).mono ?_
            rintro e w1 ⟨A3, c3, rfl, n3, b3⟩
            dsimp only [numV]
            have hg14 : w.heap.size + 1 + 1 + 1 < w1.heap.size := by
              obtain ⟨_, _, h, _⟩ := H5.out.v
              exact Nat.lt_of_lt_of_le h.lt b3.size
            have I6 := (H5.out.below b3).below ((Below.refl w1.heap.size w1).alloc (Nat.le_refl _) (.cells (numC xq A3 c3) 51))
            have X6 := (HX.out.below b3 HX.out.lt).alloc (.cells (numC xq A3 c3) 51)
            have G6 := Blk.new w1 51 (numC xq A3 c3)
            have N6 := n3.below ((Below.refl w1.heap.size w1).alloc (Nat.le_refl _) (.cells (numC xq A3 c3) 51))
            replace N6 := N6.lower H5.out.bel.size
            unfold numC at I6 X6 G6 N6
            have I6 := Lib.hid I6; have X6 := Lib.hid X6; have G6 := Lib.hid G6; have N6 := Lib.hid N6
            clear n3 b3 x3 H5 HX
            go_upto_region 9 with (fail)
            generalize hW6 : (w1.alloc (.cells #[.bool (enc xq).1, .slice A3 (enc xq).2.length c3] 51)) = W6 at *
            generalize w1.heap.size = g14 at *
            clear hW6
            have keepS : ∀ w', Below W6.heap.size W6 w' → w'.cell? ⟨g14, 0, none⟩ = some (.bool (enc xq).1) ∧ w'.cell? ⟨g14, 1, none⟩ = some (.slice A3 (enc xq).2.length c3) ∧ w'.cell? ⟨bx, 4, none⟩ = some (.int .i64 xp) ∧ Below W6.heap.size W6 w' :=
              fun w' h => ⟨(G6.out.below h G6.out.lt).cell 0, (G6.out.below h G6.out.lt).cell 1, (X6.out.below h X6.out.lt).cell 4, h⟩
            have HM := Lib.hid (show ∀ W, Below W6.heap.size W6 W → ∀ A4 c4 b4, Num W b4 xp A4 c4 → _ from fun W h A4 c4 b4 n4 => num_mul xq xp (small_of (by omega)) (small_of (by omega)) A3 A4 c3 c4 _ b4 W (N6.out.below h) n4)
            have HO := Lib.hid (show ∀ W, _ from fun W => num_of xp (by unfold in64; omega) W)
            have KS := Lib.hid keepS
            have K0 := keepS W6 (Below.refl _ _)
            obtain ⟨k0, k1, k2, k3⟩ := K0
            clear keepS k3
            go_cut [15] from 47 to 51 (fun v wx => ∃ g A c, v = .pointer (some ⟨g, 0, none⟩) ∧ Hid (Below W6.heap.size W6 wx ∧ W6.heap.size ≤ g ∧ Blk wx g 51 (numC (xq * xp) A c) ∧ Num wx W6.heap.size (xq * xp) A c))
            case first =>
              go_region_held3 (fun w' => w'.cell? ⟨g14, 0, none⟩ = some (.bool (enc xq).1) ∧ w'.cell? ⟨g14, 1, none⟩ = some (.slice A3 (enc xq).2.length c3) ∧ w'.cell? ⟨bx, 4, none⟩ = some (.int .i64 xp) ∧ Below W6.heap.size W6 w')
                (first
                  | exact KS.out _ (by repeat (first | exact Below.refl _ _ | assumption | apply pw_below_drewN | apply below_drew1 | apply below_alloc | refine bt ?_ hb1 | refine bt ?_ hb2 | refine Below.setCell ?_ (by show W6.heap.size ≤ _; first | exact Nat.le_refl _ | exact (bt (pw_below_drewN (Below.refl _ _) _) hb1).size | exact (bt (Below.refl _ _) hb1).size) _)))
                (first
                  | (go_at_call 21; refine (HO.out _).mono ?_; rintro e w2 ⟨A4, c4, rfl, n4, hb1⟩; dsimp only [numV]; first | (have u := bcell_newd hb1 0; have v := bcell_newd hb1 1; obtain ⟨u0, i0, is⟩ := u; obtain ⟨u1, i1, _⟩ := v; simp at u0 u1 i0 i1) | (have u := bcell_new hb1 0; have v := bcell_new hb1 1; obtain ⟨u0, i0, is⟩ := u; obtain ⟨u1, i1, _⟩ := v; simp at u0 u1 i0 i1) | skip)
                  | (go_at_call 20; refine (HM.out _ (by first | assumption | (go_split_ands; assumption)) A4 c4 _ (n4.below (by repeat (first | exact Below.refl _ _ | apply pw_below_drewN | apply below_alloc)))).mono ?_; rintro e w3 ⟨A5, c5, rfl, n5, hb2⟩; dsimp only [numV]; first | (have y0 := ((bcell hb2).1 _ 0 is).trans u0; have y1 := ((bcell hb2).1 _ 1 is).trans u1; have j0 := ((bcell hb2).2 _ 0 is).trans i0; have j1 := ((bcell hb2).2 _ 1 is).trans i1) | (have u := bcell_newd hb2 0; have v := bcell_newd hb2 1; obtain ⟨y0, j0, _⟩ := u; obtain ⟨y1, j1, _⟩ := v; simp at y0 y1 j0 j1) | (have u := bcell_new hb2 0; have v := bcell_new hb2 1; obtain ⟨y0, j0, _⟩ := u; obtain ⟨y1, j1, _⟩ := v; simp at y0 y1 j0 j1) | skip))
              all_goals (go_wp2_with fail; go_meet)
              all_goals
                first
                  | exact ⟨_, A5, c5, rfl, Lib.hid (num_new (bt (bt (pw_below_drewN (Below.refl _ _) 1) hb1) hb2) n5 (bt (pw_below_drewN (Below.refl _ _) 1) hb1).size)⟩
                  | exact ⟨_, A5, c5, rfl, Lib.hid (num_put (bt (below_alloc (bt (pw_below_drewN (Below.refl _ _) 1) hb1) _) hb2) ((Blk.new _ _ #[.bool false, .slice none 0 0]).below hb2 (alloc_lt _ _)) rfl (bt (pw_below_drewN (Below.refl _ _) 1) hb1).size n5 (below_alloc (bt (pw_below_drewN (Below.refl _ _) 1) hb1) _).size)⟩
                  | exact ⟨_, A5, c5, rfl, Lib.hid (num_put (bt (bt (pw_below_drewN (below_alloc (Below.refl _ _) _) 1) hb1) hb2) ((((Blk.new W6 51 #[.bool false, .slice none 0 0]).drewN 1).below (w := (W6.alloc (.cells #[.bool false, .slice none 0 0] 51)).drew) hb1 (alloc_lt _ _)).below hb2 (Nat.lt_of_lt_of_le (alloc_lt W6 _) hb1.size)) rfl (Nat.le_refl _) n5 (bt (pw_below_drewN (below_alloc (Below.refl _ _) _) 1) hb1).size)⟩
            case rest =>
              obtain ⟨g15, A5, c5, rfl, HC⟩ := hcut
              
              have hg15 : g14 < g15 := Nat.lt_of_lt_of_le G6.out.lt HC.out.2.1
              have I9 := Lib.hid (I6.out.below HC.out.1)
              have X9 := Lib.hid (X6.out.below HC.out.1 X6.out.lt)
              have G9 := Lib.hid (G6.out.below HC.out.1 G6.out.lt)
              have N9 := Lib.hid (N6.out.below HC.out.1)
              have K9 := Lib.hid HC.out.2.2.1
              have M9 := Lib.hid (HC.out.2.2.2.lower I6.out.bel.size)
              clear HC I6 X6 G6 N6 HM HO KS k0 k1 k2
              have x5 := X9.out.cell 5
              go_upto_if 53 with (fail)
              go_cut [] from 54 to 57 (fun wx => ∃ A c A' c', Hid (SumI w wx (sm (qOf xi xj xs) (l.take k)) (sm (wOf xi xj xs) (l.take k)) ∧ (Blk wx g14 51 (numC (if xb = true then -xq else xq) A c) ∧ Num wx w.heap.size (if xb = true then -xq else xq) A c) ∧ Blk wx g15 51 (numC (if xb = true then -(xq * xp) else xq * xp) A' c') ∧ Num wx w.heap.size (if xb = true then -(xq * xp) else xq * xp) A' c'))
              case first =>
                cases xb with
                | false =>
                  go_wp2_with fail
                  go_meet
                  case rel => exact ⟨A3, c3, A5, c5, Lib.hid ⟨I9.out, ⟨G9.out, N9.out⟩, K9.out, M9.out⟩⟩
                | true =>
                  have y0 : wc.cell? ⟨g14, 0, none⟩ = some (.bool (enc xq).1) := G9.out.cell 0
                  have y1 : wc.cell? ⟨g14, 1, none⟩ = some (.slice A3 (enc xq).2.length c3) := G9.out.cell 1
                  go_wp2_with fail
                  refine (num_neg xq A3 c3 _ _ N9.out).mono ?_
                  rintro e w4 ⟨rfl, n4, b4⟩
                  dsimp only [numV]
                  have i4 := I9.out.below b4
                  have g4 := G9.out.below b4 G9.out.lt
                  have k4 := K9.out.below b4 K9.out.lt
                  have m4 := M9.out.below b4
                  have I5 := Lib.hid (i4.put g4 hg14 (.bool (enc (-xq)).1) (.slice A3 (enc (-xq)).2.length c3))
                  have G5 := Lib.hid (blk_put2 (z := -xq) (A := A3) (c := c3) g4 rfl)
                  have N5 := Lib.hid (n4.put2 g4 (.bool (enc (-xq)).1) (.slice A3 (enc (-xq)).2.length c3))
                  have K5 := Lib.hid (blk_far2 k4 (Nat.ne_of_gt hg15) (.bool (enc (-xq)).1) (.slice A3 (enc (-xq)).2.length c3))
                  have M5 := Lib.hid (m4.put2 g4 (.bool (enc (-xq)).1) (.slice A3 (enc (-xq)).2.length c3))
                  have y0 : w4.cell? ⟨g14, 0, none⟩ = some (.bool (enc xq).1) := g4.cell 0
                  have y1 : w4.cell? ⟨g14, 1, none⟩ = some (.slice A3 (enc xq).2.length c3) := g4.cell 1
                  have f0 := g4.frozen 0
                  have f1 := g4.frozen 1
                  clear i4 g4 k4 m4 n4 I9 G9 N9 K9 M9
                  go_upto_region 12 with (fail)
                  generalize (w4.setCell ⟨g14, 0, none⟩ (.bool (enc (-xq)).1)).setCell ⟨g14, 1, none⟩ (.slice A3 (enc (-xq)).2.length c3) = w5 at *
                  clear y0 y1 f0 f1 b4
                  have y0 : w5.cell? ⟨g15, 0, none⟩ = some (.bool (enc (xq * xp)).1) := K5.out.cell 0
                  have y1 : w5.cell? ⟨g15, 1, none⟩ = some (.slice A5 (enc (xq * xp)).2.length c5) := K5.out.cell 1
                  go_wp2_with fail
                  refine (num_neg (xq * xp) A5 c5 _ _ M5.out).mono ?_
                  rintro e w6 ⟨rfl, n6, b6⟩
                  dsimp only [numV]
                  have i6 := I5.out.below b6
                  have g6 := G5.out.below b6 G5.out.lt
                  have k6 := K5.out.below b6 K5.out.lt
                  have m6 := N5.out.below b6
                  have I7 := Lib.hid (i6.put k6 (Nat.lt_trans hg14 hg15) (.bool (enc (-(xq * xp))).1) (.slice A5 (enc (-(xq * xp))).2.length c5))
                  have G7 := Lib.hid (blk_put2 (z := -(xq * xp)) (A := A5) (c := c5) k6 rfl)
                  have N7 := Lib.hid (n6.put2 k6 (.bool (enc (-(xq * xp))).1) (.slice A5 (enc (-(xq * xp))).2.length c5))
                  have K7 := Lib.hid (blk_far2 g6 (Nat.ne_of_lt hg15) (.bool (enc (-(xq * xp))).1) (.slice A5 (enc (-(xq * xp))).2.length c5))
                  have M7 := Lib.hid (m6.put2 k6 (.bool (enc (-(xq * xp))).1) (.slice A5 (enc (-(xq * xp))).2.length c5))
                  have y0 : w6.cell? ⟨g15, 0, none⟩ = some (.bool (enc (xq * xp)).1) := k6.cell 0
                  have y1 : w6.cell? ⟨g15, 1, none⟩ = some (.slice A5 (enc (xq * xp)).2.length c5) := k6.cell 1
                  have f0 := k6.frozen 0
                  have f1 := k6.frozen 1
                  clear i6 g6 k6 m6 n6 I5 G5 N5 K5 M5
                  go_wp2_with fail
                  go_meet
                  case rel => exact ⟨A3, c3, A5, c5, Lib.hid ⟨I7.out, ⟨K7.out, M7.out⟩, G7.out, N7.out⟩⟩
              case rest =>
                obtain ⟨A6, c6, A7, c7, HC2⟩ := hcut
                clear I9 G9 N9 K9 M9 X9 x5
                have hqv : qOf xi xj xs (xi, xj, xs, xq, xp, xb) = if xb = true then -xq else xq := by unfold qOf; dsimp only; rw [if_pos ⟨rfl, rfl, rfl⟩]
                have hwv : wOf xi xj xs (xi, xj, xs, xq, xp, xb) = if xb = true then -(xq * xp) else xq * xp := by unfold wOf; dsimp only; rw [if_pos ⟨rfl, rfl, rfl⟩]
                rw [← hqv, ← hwv] at HC2
                have HQ := Lib.hid hqv; have HV := Lib.hid hwv
                clear hqv hwv
                have hsq : small (qOf xi xj xs (xi, xj, xs, xq, xp, xb)) := qOf_small hmr
                have hsw : small (wOf xi xj xs (xi, xj, xs, xq, xp, xb)) := wOf_small hmr
                have hsQ : small (sm (qOf xi xj xs) (l.take k)) := sm_smallQ (fun x hx => hr x (List.mem_of_mem_take hx)) (by rw [List.length_take]; omega)
                have hsV : small (sm (wOf xi xj xs) (l.take k)) := sm_smallW (fun x hx => hr x (List.mem_of_mem_take hx)) (by rw [List.length_take]; omega)
                generalize qOf xi xj xs (xi, xj, xs, xq, xp, xb) = qv at *
                generalize wOf xi xj xs (xi, xj, xs, xq, xp, xb) = wv at *
                generalize sm (qOf xi xj xs) (l.take k) = Q at *
                generalize sm (wOf xi xj xs) (l.take k) = V at *
                obtain ⟨Aq, cq, hbq, hnq⟩ := HC2.out.1.q
                have y0 : wc.cell? ⟨w.heap.size + 1 + 1, 0, none⟩ = some (.bool (enc Q).1) := hbq.cell 0
                have y1 : wc.cell? ⟨w.heap.size + 1 + 1, 1, none⟩ = some (.slice Aq (enc Q).2.length cq) := hbq.cell 1
                have y2 : wc.cell? ⟨g14, 0, none⟩ = some (.bool (enc qv).1) := HC2.out.2.1.1.cell 0
                have y3 : wc.cell? ⟨g14, 1, none⟩ = some (.slice A6 (enc qv).2.length c6) := HC2.out.2.1.1.cell 1
                have HA := Lib.hid (num_add Q qv hsQ hsq Aq A6 cq c6 _ _ wc hnq HC2.out.2.1.2)
                clear hbq hnq
                go_wp2_with fail
                refine HA.out.mono ?_
                rintro e w7 ⟨Ar, cr, rfl, n7, b7⟩
                dsimp only [numV]
                have i7 := HC2.out.1.below b7
                obtain ⟨_, _, h7, _⟩ := i7.q
                have y0 : w7.cell? ⟨w.heap.size + 1 + 1, 0, none⟩ = some _ := h7.cell 0
                have y1 : w7.cell? ⟨w.heap.size + 1 + 1, 1, none⟩ = some _ := h7.cell 1
                have f0 := h7.frozen 0
                have f1 := h7.frozen 1
                have I8 := Lib.hid (i7.setQ (n7.lower HC2.out.1.bel.size))
                have K8 := Lib.hid (blk_far2 (HC2.out.2.2.1.below b7 HC2.out.2.2.1.lt) (show g15 ≠ w.heap.size + 1 + 1 by omega) (.bool (enc (Q + qv)).1) (.slice Ar (enc (Q + qv)).2.length cr))
                have M8 := Lib.hid ((HC2.out.2.2.2.below b7).put2 h7 (.bool (enc (Q + qv)).1) (.slice Ar (enc (Q + qv)).2.length cr))
                clear i7 h7 n7 HC2 HA y2 y3
                go_upto_region 14 with (fail)
                generalize (w7.setCell ⟨w.heap.size + 1 + 1, 0, none⟩ (.bool (enc (Q + qv)).1)).setCell ⟨w.heap.size + 1 + 1, 1, none⟩ (.slice Ar (enc (Q + qv)).2.length cr) = w8 at *
                clear y0 y1 f0 f1 b7
                obtain ⟨Av, cv, hbv, hnv⟩ := I8.out.v
                have y0 : w8.cell? ⟨w.heap.size + 1 + 1 + 1, 0, none⟩ = some (.bool (enc V).1) := hbv.cell 0
                have y1 : w8.cell? ⟨w.heap.size + 1 + 1 + 1, 1, none⟩ = some (.slice Av (enc V).2.length cv) := hbv.cell 1
                have y2 : w8.cell? ⟨g15, 0, none⟩ = some (.bool (enc wv).1) := K8.out.cell 0
                have y3 : w8.cell? ⟨g15, 1, none⟩ = some (.slice A7 (enc wv).2.length c7) := K8.out.cell 1
                have HA := Lib.hid (num_add V wv hsV hsw Av A7 cv c7 _ _ w8 hnv M8.out)
                clear hbv hnv
                go_wp2_with fail
                refine HA.out.mono ?_
                rintro e w9 ⟨As, cs, rfl, n9, b9⟩
                dsimp only [numV]
                have i9 := I8.out.below b9
                obtain ⟨_, _, h9, _⟩ := i9.v
                have y0 : w9.cell? ⟨w.heap.size + 1 + 1 + 1, 0, none⟩ = some _ := h9.cell 0
                have y1 : w9.cell? ⟨w.heap.size + 1 + 1 + 1, 1, none⟩ = some _ := h9.cell 1
                have f0 := h9.frozen 0
                have f1 := h9.frozen 1
                have IF := Lib.hid (i9.setV (n9.lower I8.out.bel.size))
                clear i9 h9 n9 I8 K8 M8 HA y2 y3 b9
                go_wp2_with fail
                go_roundw
                case rel => exact ⟨k + 1, by omega, by go_num, by rw [HS1.out, HS2.out]; exact IF⟩
                case measure => simp [intOf]; omega
          · have h6 := Lib.hid (hno (fun h => c3 h.2.2) _ H5.out)
            have d3 : (xs != sd) = true := by simpa using c3
            clear H5 hno
            go_wp2_with fail
            go_roundw
            case rel => exact ⟨k + 1, by omega, by go_num, h6⟩
            case measure => simp [intOf]; omega
        · have h6 := Lib.hid (hno (fun h => c2 h.2.1) _ H5.out)
          have d2 : (xj != j) = true := by simpa using c2
          clear H5 hno
          go_wp2_with fail
          go_roundw
          case rel => exact ⟨k + 1, by omega, by go_num, h6⟩
          case measure => simp [intOf]; omega
      · have h6 := Lib.hid (hno (fun h => c1 h.1) _ H5.out)
        have d1 : (xi != i) = true := by simpa using c1
        clear H5 hno
        go_wp2_with fail
        go_roundw
        case rel => exact ⟨k + 1, by omega, by go_num, h6⟩
        case measure => simp [intOf]; omega
    · obtain rfl : n = k := by omega
      rw [List.take_of_length_le (by omega)] at H
      obtain ⟨A1, c1, h1, n1⟩ := H.out.q
      obtain ⟨A2, c2, h2, n2⟩ := H.out.v
      have y0 : wr.cell? ⟨w.heap.size + 1 + 1, 0, none⟩ = some (.bool (enc (sm (qOf i j sd) l)).1) := h1.cell 0
      have y1 : wr.cell? ⟨w.heap.size + 1 + 1, 1, none⟩ = some (.slice A1 (enc (sm (qOf i j sd) l)).2.length c1) := h1.cell 1
      have y2 : wr.cell? ⟨w.heap.size + 1 + 1 + 1, 0, none⟩ = some (.bool (enc (sm (wOf i j sd) l)).1) := h2.cell 0
      have y3 : wr.cell? ⟨w.heap.size + 1 + 1 + 1, 1, none⟩ = some (.slice A2 (enc (sm (wOf i j sd) l)).2.length c2) := h2.cell 1
      have z0 : wr.cell? ⟨w.heap.size, 0, none⟩ = some (.bool false) := H.out.b0.cell 0
      have z1 : wr.cell? ⟨w.heap.size, 1, none⟩ = some (.slice none 0 0) := H.out.b0.cell 1
      have z2 : wr.cell? ⟨w.heap.size + 1, 0, none⟩ = some (.bool false) := H.out.b1.cell 0
      have z3 : wr.cell? ⟨w.heap.size + 1, 1, none⟩ = some (.slice none 0 0) := H.out.b1.cell 1
      have f0 := H.out.b0.frozen 0
      have f1 := H.out.b0.frozen 1
      have f2 := H.out.b1.frozen 0
      have f3 := H.out.b1.frozen 1
      clear h1 h2
      go_wp2_with fail
      go_region
      all_goals
        go_wp2_with fail
        have e0 := blk_far2 (blk_put2 (z := sm (qOf i j sd) l) (A := A1) (c := c1) H.out.b0 rfl) (show w.heap.size ≠ w.heap.size + 1 by omega) (.bool (enc (sm (wOf i j sd) l)).1) (.slice A2 (enc (sm (wOf i j sd) l)).2.length c2)
        have d1 := blk_far2 H.out.b1 (show w.heap.size + 1 ≠ w.heap.size by omega) (.bool (enc (sm (qOf i j sd) l)).1) (.slice A1 (enc (sm (qOf i j sd) l)).2.length c1)
        have e1 := blk_put2 (z := sm (wOf i j sd) l) (A := A2) (c := c2) d1 rfl
        have m1 := (n1.put2 H.out.b0 (.bool (enc (sm (qOf i j sd) l)).1) (.slice A1 (enc (sm (qOf i j sd) l)).2.length c1)).put2 d1 (.bool (enc (sm (wOf i j sd) l)).1) (.slice A2 (enc (sm (wOf i j sd) l)).2.length c2)
        have m2 := (n2.put2 H.out.b0 (.bool (enc (sm (qOf i j sd) l)).1) (.slice A1 (enc (sm (qOf i j sd) l)).2.length c1)).put2 d1 (.bool (enc (sm (wOf i j sd) l)).1) (.slice A2 (enc (sm (wOf i j sd) l)).2.length c2)
        have mb := (((H.out.bel.setCell (show w.heap.size ≤ w.heap.size from Nat.le_refl _) (.bool (enc (sm (qOf i j sd) l)).1) (p := ⟨w.heap.size, 0, none⟩)).setCell (show w.heap.size ≤ w.heap.size from Nat.le_refl _) (.slice A1 (enc (sm (qOf i j sd) l)).2.length c1) (p := ⟨w.heap.size, 1, none⟩)).setCell (show w.heap.size ≤ w.heap.size + 1 by omega) (.bool (enc (sm (wOf i j sd) l)).1) (p := ⟨w.heap.size + 1, 0, none⟩)).setCell (show w.heap.size ≤ w.heap.size + 1 by omega) (.slice A2 (enc (sm (wOf i j sd) l)).2.length c2) (p := ⟨w.heap.size + 1, 1, none⟩)
        clear y0 y1 y2 y3 z0 z1 z2 z3 f0 f1 f2 f3 n1 n2 d1 H
        generalize (((wr.setCell ⟨w.heap.size, 0, none⟩ (.bool (enc (sm (qOf i j sd) l)).1)).setCell ⟨w.heap.size, 1, none⟩ (.slice A1 (enc (sm (qOf i j sd) l)).2.length c1)).setCell ⟨w.heap.size + 1, 0, none⟩ (.bool (enc (sm (wOf i j sd) l)).1)).setCell ⟨w.heap.size + 1, 1, none⟩ (.slice A2 (enc (sm (wOf i j sd) l)).2.length c2) = WF at *
        have y0 : WF.cell? ⟨w.heap.size, 0, none⟩ = some (.bool (enc (sm (qOf i j sd) l)).1) := e0.cell 0
        have y1 : WF.cell? ⟨w.heap.size, 1, none⟩ = some (.slice A1 (enc (sm (qOf i j sd) l)).2.length c1) := e0.cell 1
        have y2 : WF.cell? ⟨w.heap.size + 1, 0, none⟩ = some (.bool (enc (sm (wOf i j sd) l)).1) := e1.cell 0
        have y3 : WF.cell? ⟨w.heap.size + 1, 1, none⟩ = some (.slice A2 (enc (sm (wOf i j sd) l)).2.length c2) := e1.cell 1
        have p1 := m1.below (pw_below_drewN (Below.refl _ _) 1)
        have p2 := m2.below (pw_below_drewN (Below.refl _ _) 1)
        have p3 := pw_below_drewN mb 1
        clear e0 e1 m1 m2 mb
        exact bodyPost_ret (v := .tuple #[numV (sm (qOf i j sd) l) A1 c1, numV (sm (wOf i j sd) l) A2 c2]) (by simp [results, Try.results19, go_sem, y0, y1, y2, y3, numV]) rfl ⟨A1, c1, A2, c2, rfl, p1, p2, p3⟩
end Go.Proofs.Ytenlifjfehnldaa.Hand
