/- Texts laid together by join.py: AlS AlP. -/
import Derived.Test.YtknmojjccfhchaaAl6
import Derived.Test.YtknmojjccfhchaaSot
/- allot.split, walked whole. -/
set_option linter.unusedVariables false
set_option linter.unusedSimpArgs false
namespace Go.Proofs.Ytknmojjccfhchaa.Hand
open Go Go.RowKit Go.Lib Go.Sort Go.Shelf Go.Proofs.YtknmojjccfhchaaW.PrintWords Go.Proofs.YtknmojjccfhchaaW.PrintMore Go.Proofs.Ytknmojjccfhchaa.RL Go.Proofs.Ytknmojjccfhchaa.PL Go.Proofs.Ytknmojjccfhchaa.St
theorem uw (x : Int) : IntKind.u64.wrap x = x % 18446744073709551616 := by rw [IntKind.wrap_u64]
theorem fair_ex (q a all : Int) (hq : 0 ≤ q ∧ q ≤ 9223372036854775807) (ha : 0 ≤ a ∧ a ≤ all) (hall : 1 ≤ all ∧ all ≤ 70368744177664) : U.allot_fair.f q a all = some (q * a / all, q * a % all) := by
  have h0 : 0 ≤ q * a := Int.mul_nonneg hq.1 ha.1
  have h1 : q * a ≤ q * all := Int.mul_le_mul_of_nonneg_left ha.2 hq.1
  have h2 : q * a / all ≤ q := by
    have := Int.ediv_le_ediv (show 0 < all by omega) h1
    rwa [Int.mul_ediv_cancel _ (by omega)] at this
  have h3 : 0 ≤ q * a / all := Int.ediv_nonneg h0 (by omega)
  have hd : checked_Down.f q a all = some (q * a / all, 0) := by
    rw [down_is q a all (by unfold in64; omega) (by unfold in64; omega) (by unfold in64; omega)]
    unfold fr frac flo
    rw [if_neg (by omega)]
    simp only [Bool.false_eq_true, if_false]
    rw [if_neg (by omega), tell_in (by unfold in64; omega)]
  unfold U.allot_fair.f
  rw [hd, Option.bind_some]
  have hm0 := Int.emod_nonneg (q * a) (show all ≠ 0 by omega)
  have hm1 := Int.emod_lt_of_pos (q * a) (show 0 < all by omega)
  have hde : q * a - q * a / all * all = q * a % all := by
    have := Int.ediv_mul_add_emod (q * a) all
    omega
  simp only [uw]
  have e : (q % 18446744073709551616 * (a % 18446744073709551616) % 18446744073709551616 - (q * a / all) % 18446744073709551616 * (all % 18446744073709551616) % 18446744073709551616) % 18446744073709551616 = q * a % all := by
    rw [← Int.mul_emod, ← Int.mul_emod, ← Int.sub_emod, hde]
    exact Int.emod_eq_of_lt hm0 (by omega)
  rw [e, w64 (by omega) (by omega)]
theorem fair_walk (q a all : Int) (hq : 0 ≤ q ∧ q ≤ 9223372036854775807) (ha : 0 ≤ a ∧ a ≤ all) (hall : 1 ≤ all ∧ all ≤ 70368744177664) (w : World) : Calls Try.prog 32 #[.int .i64 q, .int .i64 a, .int .i64 all] w fun e w' => e = .returned (.tuple #[.int .i64 (q * a / all), .int .i64 (q * a % all)]) ∧ Below w.heap.size w w' :=
  U.allot_fair.calls q a all _ _ w (fair_ex q a all hq ha hall)
/-- The parts, down, and their rests. -/
def gotS (q all : Int) (l : List Int) : List Int := l.map fun a => q * a / all
def restS (q all : Int) (l : List Int) : List Int := l.map fun a => q * a % all
def idxS (n : Nat) : List Int := (List.range n).map Int.ofNat
/-- The first j of a row, and noughts. -/
def pre (f : List Int) (j : Nat) : List Int := f.take j ++ List.replicate (f.length - j) 0
theorem pre_step (f : List Int) (j : Nat) (hj : j < f.length) : (pre f j).set j (f.getD j 0) = pre f (j + 1) := by
  unfold pre
  have hlen : (f.take j).length = j := by rw [List.length_take]; omega
  rw [List.set_append_right _ _ (by omega), hlen, Nat.sub_self, show f.length - j = (f.length - (j + 1)) + 1 by omega, List.replicate_succ, List.set_cons_zero, List.take_succ_eq_append_getElem hj, List.append_assoc, List.getD_eq_getElem?_getD, List.getElem?_eq_getElem hj]
  rfl
theorem pre_at (f : List Int) (j : Nat) (hj : j < f.length) : (pre f (j + 1)).getD j 0 = f.getD j 0 := by
  unfold pre
  rw [List.getD_eq_getElem?_getD, List.getElem?_append_left (by rw [List.length_take]; omega), List.getElem?_take_of_lt (by omega), List.getD_eq_getElem?_getD]
theorem pre_end (f : List Int) : pre f f.length = f := by unfold pre; rw [List.take_length, Nat.sub_self]; simp
theorem pre_zero (f : List Int) : pre f 0 = List.replicate f.length 0 := by unfold pre; simp
/-- The greater rest is ahead. -/
def ltR (r : List Int) (i k : Nat) : Bool := decide (r.getD k 0 < r.getD i 0)
/-- In which order the rests stand. -/
def ordS (r : List Int) : List Nat := isortB (ltR r) (List.range r.length)
theorem isortB_map {α β : Type} (f : α → β) (lt : α → α → Bool) (lt' : β → β → Bool) (h : ∀ x y, lt x y = lt' (f x) (f y)) (l : List α) : (isortB lt l).map f = isortB lt' (l.map f) := by
  have hr : ∀ (x : α) (r : List α), (insR lt x r).map f = insR lt' (f x) (r.map f) := by
    intro x r
    induction r with
    | nil => rfl
    | cons y r ih =>
      show List.map f (if lt x y = true then y :: insR lt x r else x :: y :: r) = if lt' (f x) (f y) = true then f y :: insR lt' (f x) (List.map f r) else f x :: f y :: List.map f r
      rw [← h]
      by_cases e : lt x y = true
      · rw [if_pos e, if_pos e, List.map_cons, ih]
      · rw [if_neg e, if_neg e]; rfl
  have hb : ∀ (x : α) (r : List α), (insB lt x r).map f = insB lt' (f x) (r.map f) := fun x r => by
    unfold insB
    rw [List.map_reverse, hr, List.map_reverse]
  refine snoc_ind (p := fun l => (isortB lt l).map f = isortB lt' (l.map f)) rfl ?_ l
  intro l x ih
  rw [isortB_snoc, hb, ih, List.map_append]
  exact (isortB_snoc lt' _ _).symm
def encN (n : Nat) (i : Fin n) : Value := .int .i64 (i.val : Int)
theorem cfR_neg (x y : Int) : decide (cfR x y < 0) = decide (y < x) := by
  unfold cfR
  apply decide_eq_decide.2
  by_cases h1 : y < x
  · rw [if_pos h1]; omega
  · rw [if_neg h1]
    by_cases h2 : x < y
    · rw [if_pos h2]; omega
    · rw [if_neg h2]; omega
theorem ltOf_is {n : Nat} (r : List Int) (i k : Fin n) : ltOf (fun (i k : Fin n) => cfR (r.getD i.val 0) (r.getD k.val 0)) i k = ltR r i.val k.val := cfR_neg _ _
theorem wo_cf {n : Nat} (r : List Int) : WO (ltOf (fun (i k : Fin n) => cfR (r.getD i.val 0) (r.getD k.val 0))) :=
  ⟨fun x y => by rw [ltOf_is, ltOf_is]; unfold ltR; simp only [decide_eq_true_eq, decide_eq_false_iff_not]; omega, fun x y z => by rw [ltOf_is, ltOf_is, ltOf_is]; unfold ltR; simp only [decide_eq_false_iff_not]; omega⟩
theorem other_cells {α : Type} [Inhabited α] (enc : α → Value) (w : World) (blk : Nat) (dk : Array α) (m : Nat) (os : Array Obj) (a : Addr) (v : Value) (hb : a.block ≠ blk) (h : w.cell? a = some v) : (sortWorld enc w blk 0 m dk os).cell? a = some v := by
  unfold sortWorld
  have hs := World.block_lt_of_cell? w a h
  rw [cell?_grow _ _ _ (by rw [size_putRow]; exact hs), cell?_putRow_other _ _ _ _ _ _ (Or.inl hb)]
  exact h
theorem fin_range (n : Nat) : (List.finRange n).map (fun i : Fin n => i.val) = List.range n := by
  apply List.ext_getElem <;> simp
/-- A world of the sort's: the row's block, and what is below it. -/
theorem sw_end {α : Type} [Inhabited α] (enc : α → Value) (w w' : World) (blk : Nat) (T : TypeId) (cs : Array Value) (d : Array α) (hO : Blk w blk T cs) (hs : d.size = cs.size) (S : SW enc w blk 0 d w') : Blk w' blk T (d.map enc) ∧ Below blk w w' := by
  obtain ⟨m, os, rfl⟩ := S
  have hlt := hO.lt
  have e : (sortWorld enc w blk 0 m d os).heap = w.heap.modify blk (onCells (putCells enc 0 d)) ++ os := rfl
  refine ⟨?_, rfl, rfl, rfl, ?_, ?_⟩
  · unfold Blk at hO ⊢
    rw [e, Array.getElem?_append_left (by simpa using hlt), Array.getElem?_modify, hO]
    simp only [if_true, Option.map_some, onCells]
    congr 2
    apply Array.ext
    · simp [putCells, hs]
    · intro i h1 h2
      simp only [putCells, Array.getElem_mapIdx, Array.getElem_map]
      have hi : i < d.size := by simpa using h2
      rw [if_pos ⟨Nat.zero_le _, by omega⟩, Nat.sub_zero, getElem!_pos d i hi]
  · rw [e]; simp
  · intro k hk
    rw [e, Array.getElem?_append_left (by simp; omega), Array.getElem?_modify, if_neg (by omega)]
theorem sort_n (n : Nat) (hn : 0 < n) (hm : n ≤ 64) (go bR gr cap : Nat) (r : List Int) (hr : r.length = n) (w : World) (hO : Blk w go 3 (ints (idxS n))) (h1 : w.cell? ⟨bR, 0, none⟩ = some (.slice (some ⟨gr, 0, none⟩) n n)) (h2 : ∀ j, j < n → w.cell? ⟨gr, j, none⟩ = some (.int .i64 (r.getD j 0))) (n1 : bR ≠ go) (n2 : gr ≠ go) :
    Calls Try.prog 39 #[.slice (some ⟨go, 0, none⟩) n cap, .func (.func 40) #[] #[.pointer (some ⟨bR, 0, none⟩)]] w fun e w' => e = .returned (.tuple #[]) ∧ Blk w' go 3 (ints ((ordS r).map Int.ofNat)) ∧ Below go w w' := by
  have eg : ∀ args w, (callFunc 40 args).run Try.prog w = .ok (.enter 40 args) w := enters_of Try.func40 (by kernel_rfl) rfl
  haveI : Inhabited (Fin n) := ⟨⟨0, hn⟩⟩
  have hlen : (List.finRange n).length = n := List.length_finRange
  have hH : Holds (encN n) w go 0 (List.finRange n).toArray := by
    intro j hj
    have hj : j < n := by simpa using hj
    refine ⟨?_, by rw [Nat.zero_add]; exact hO.frozen j⟩
    rw [Nat.zero_add, hO.cell j, ints_at _ _ (by simp [idxS]; omega)]
    have e : (List.finRange n).toArray[j]! = ⟨j, hj⟩ := by
      rw [getElem!_pos _ _ (by simp; omega)]; simp
    rw [e]
    simp [idxS, encN]
  have hcmp : CmpReads Try.prog 40 #[.pointer (some ⟨bR, 0, none⟩)] (encN n) (fun (i k : Fin n) => cfR (r.getD i.val 0) (r.getD k.val 0)) go 0 n w := by
    intro m os dk hd i k
    exact scmp_walk bR gr n r i.val k.val i.isLt k.isLt (sortWorld (encN n) w go 0 m dk os) (other_cells _ w go dk m os _ _ n1 h1) (fun j hj => other_cells _ w go dk m os _ _ n2 (h2 j hj))
  have h := sort_s (encN n) (fun (i k : Fin n) => cfR (r.getD i.val 0) (r.getD k.val 0)) 40 #[.pointer (some ⟨bR, 0, none⟩)] go 0 cap (wo_cf r) (List.finRange n) w ⟨fun _ => rfl, hH, hO.lt⟩ (by rw [hlen]; omega) eg (by rw [hlen]; exact hcmp.lays)
  rw [hlen] at h
  refine h.mono ?_
  rintro e w' ⟨he, S⟩
  have hsz : (isortB (ltOf (fun (i k : Fin n) => cfR (r.getD i.val 0) (r.getD k.val 0))) (List.finRange n)).toArray.size = (ints (idxS n)).size := by simp [isortB_length, ints, idxS]
  obtain ⟨b1, b2⟩ := sw_end (encN n) w w' go _ _ _ hO hsz S
  refine ⟨he, ?_, b2⟩
  have e2 : (isortB (ltOf (fun (i k : Fin n) => cfR (r.getD i.val 0) (r.getD k.val 0))) (List.finRange n)).toArray.map (encN n) = ints ((ordS r).map Int.ofNat) := by
    unfold ints ordS
    rw [hr, ← fin_range n, ← isortB_map (fun i : Fin n => i.val) _ (ltR r) (fun x y => ltOf_is r x y)]
    simp [encN, Function.comp_def]
  rw [← e2]; exact b1
/-- The parts are no more than all together. -/
theorem got_sum {q all : Int} (hq : 0 ≤ q) (h1 : 1 ≤ all) : ∀ l : List Int, (∀ x ∈ l, 0 ≤ x) → (gotS q all l).sum * all + (restS q all l).sum = q * l.sum ∧ 0 ≤ (gotS q all l).sum ∧ 0 ≤ (restS q all l).sum ∧ (restS q all l).sum ≤ l.length * (all - 1)
  | [], _ => by simp [gotS, restS]
  | x :: l, h => by
    have ih := got_sum hq h1 l (fun y hy => h y (by simp [hy]))
    have hx := h x (by simp)
    have h0 : 0 ≤ q * x := Int.mul_nonneg hq hx
    have e1 : (gotS q all (x :: l)).sum = q * x / all + (gotS q all l).sum := by simp [gotS]
    have e2 : (restS q all (x :: l)).sum = q * x % all + (restS q all l).sum := by simp [restS]
    have hd := Int.ediv_mul_add_emod (q * x) all
    have hm0 := Int.emod_nonneg (q * x) (show all ≠ 0 by omega)
    have hm1 := Int.emod_lt_of_pos (q * x) (show 0 < all by omega)
    have hg : 0 ≤ q * x / all := Int.ediv_nonneg h0 (by omega)
    rw [e1, e2, Int.add_mul, List.sum_cons, Int.mul_add, List.length_cons]
    refine ⟨by omega, by omega, by omega, ?_⟩
    have : ((l.length + 1 : Nat) : Int) * (all - 1) = l.length * (all - 1) + (all - 1) := by
      rw [show ((l.length + 1 : Nat) : Int) = (l.length : Int) + 1 by omega, Int.add_mul, Int.one_mul]
    omega
/-- One more for the first k of an order. -/
def bump (G : List Int) (o : List Nat) (k : Nat) : List Int := (o.take k).foldl (fun G i => G.set i (G.getD i 0 + 1)) G
theorem bump_len (o : List Nat) (k : Nat) : ∀ G : List Int, (bump G o k).length = G.length := by
  unfold bump
  generalize o.take k = t
  induction t with
  | nil => intro G; rfl
  | cons i t ih => intro G; rw [List.foldl_cons, ih, List.length_set]
theorem bump_step (G : List Int) (o : List Nat) (k : Nat) (hk : k < o.length) : bump G o (k + 1) = (bump G o k).set (o.getD k 0) ((bump G o k).getD (o.getD k 0) 0 + 1) := by
  unfold bump
  rw [List.take_succ_eq_append_getElem hk, List.foldl_append, List.getD_eq_getElem?_getD, List.getElem?_eq_getElem hk]
  rfl
/-- What each gets. -/
def splitS (q : Int) (l : List Int) : List Int := bump (gotS q l.sum l) (ordS (restS q l.sum l)) (q - (gotS q l.sum l).sum).toNat
/-- split's rows in memory. -/
structure Sp (w : World) (g gr bR go n : Nat) (G R O : List Int) : Prop where
  bg : Blk w g 3 (ints G)
  br : Blk w gr 3 (ints R)
  bb : Blk w bR 24 #[.slice (some ⟨gr, 0, none⟩) n n]
  bo : Blk w go 3 (ints O)
  ne : g < gr ∧ gr < bR ∧ bR < go
  ln : G.length = n ∧ R.length = n ∧ O.length = n
section
variable {w w' : World} {g gr bR go n : Nat} {G R O : List Int}
theorem Sp.on (h : Sp w g gr bR go n G R O) (hb : Below w.heap.size w w') : Sp w' g gr bR go n G R O :=
  ⟨h.bg.below hb h.bg.lt, h.br.below hb h.br.lt, h.bb.below hb h.bb.lt, h.bo.below hb h.bo.lt, h.ne, h.ln⟩
theorem Sp.setG (h : Sp w g gr bR go n G R O) (j : Nat) (x : Int) : Sp (w.setCell ⟨g, j, none⟩ (.int .i64 x)) g gr bR go n (G.set j x) R O := by
  have hR := h.bg.put j (.int .i64 x)
  rw [ints_set] at hR
  have := h.ne
  exact ⟨hR, h.br.far (p := ⟨g, j, none⟩) (by show gr ≠ g; omega) _, h.bb.far (p := ⟨g, j, none⟩) (by show bR ≠ g; omega) _, h.bo.far (p := ⟨g, j, none⟩) (by show go ≠ g; omega) _, h.ne, by rw [List.length_set]; exact h.ln⟩
theorem Sp.setR (h : Sp w g gr bR go n G R O) (j : Nat) (x : Int) : Sp (w.setCell ⟨gr, j, none⟩ (.int .i64 x)) g gr bR go n G (R.set j x) O := by
  have hR := h.br.put j (.int .i64 x)
  rw [ints_set] at hR
  have := h.ne
  exact ⟨h.bg.far (p := ⟨gr, j, none⟩) (by show g ≠ gr; omega) _, hR, h.bb.far (p := ⟨gr, j, none⟩) (by show bR ≠ gr; omega) _, h.bo.far (p := ⟨gr, j, none⟩) (by show go ≠ gr; omega) _, h.ne, by rw [List.length_set]; exact h.ln⟩
theorem Sp.setO (h : Sp w g gr bR go n G R O) (j : Nat) (x : Int) : Sp (w.setCell ⟨go, j, none⟩ (.int .i64 x)) g gr bR go n G R (O.set j x) := by
  have hR := h.bo.put j (.int .i64 x)
  rw [ints_set] at hR
  have := h.ne
  exact ⟨h.bg.far (p := ⟨go, j, none⟩) (by show g ≠ go; omega) _, h.br.far (p := ⟨go, j, none⟩) (by show gr ≠ go; omega) _, h.bb.far (p := ⟨go, j, none⟩) (by show bR ≠ go; omega) _, hR, h.ne, by rw [List.length_set]; exact h.ln⟩
theorem Sp.gc (h : Sp w g gr bR go n G R O) (j : Nat) (hj : j < n) : w.cell? ⟨g, j, none⟩ = some (.int .i64 (G.getD j 0)) := by
  have e := h.ln.1
  rw [h.bg.cell j, ints_at G j (by omega), List.getD_eq_getElem?_getD, List.getElem?_eq_getElem (by omega)]; rfl
theorem Sp.rc (h : Sp w g gr bR go n G R O) (j : Nat) (hj : j < n) : w.cell? ⟨gr, j, none⟩ = some (.int .i64 (R.getD j 0)) := by
  have e := h.ln.2.1
  rw [h.br.cell j, ints_at R j (by omega), List.getD_eq_getElem?_getD, List.getElem?_eq_getElem (by omega)]; rfl
theorem Sp.oc (h : Sp w g gr bR go n G R O) (j : Nat) (hj : j < n) : w.cell? ⟨go, j, none⟩ = some (.int .i64 (O.getD j 0)) := by
  have e := h.ln.2.2
  rw [h.bo.cell j, ints_at O j (by omega), List.getD_eq_getElem?_getD, List.getElem?_eq_getElem (by omega)]; rfl
theorem Sp.bc (h : Sp w g gr bR go n G R O) : w.cell? ⟨bR, 0, none⟩ = some (.slice (some ⟨gr, 0, none⟩) n n) := h.bb.cell 0
end
theorem ints_getD (l : List Int) (i : Nat) (h : i < l.length) : (ints l)[i]? = some (.int .i64 (l.getD i 0)) := by
  rw [ints_at l i h, List.getD_eq_getElem?_getD, List.getElem?_eq_getElem h]; rfl
theorem idx_len (n : Nat) : (idxS n).length = n := by simp [idxS]
theorem idx_at (n j : Nat) (hj : j < n) : (idxS n).getD j 0 = j := by
  rw [List.getD_eq_getElem?_getD, List.getElem?_eq_getElem (by rw [idx_len]; exact hj)]
  simp [idxS]
theorem got_at (q all : Int) (l : List Int) (j : Nat) (hj : j < l.length) : (gotS q all l).getD j 0 = q * l.getD j 0 / all ∧ (restS q all l).getD j 0 = q * l.getD j 0 % all := by
  simp [gotS, restS, List.getD_eq_getElem?_getD, List.getElem?_eq_getElem hj]
theorem got_take (q all : Int) (l : List Int) (j : Nat) : ((gotS q all l).take j) = gotS q all (l.take j) := by simp [gotS, List.map_take]
theorem mem_le_sum (l : List Int) (hb : ∀ x ∈ l, 0 ≤ x) : ∀ x ∈ l, x ≤ l.sum := by
  induction l with
  | nil => intro x hx; cases hx
  | cons a l ih =>
    intro x hx
    have h1 := hb a (by simp)
    have h2 : 0 ≤ l.sum := by
      clear ih hx
      have hb' : ∀ x ∈ l, 0 ≤ x := fun y hy => hb y (by simp [hy])
      clear hb h1
      induction l with
      | nil => simp
      | cons b l ih2 =>
        have := ih2 (fun y hy => hb' y (by simp [hy]))
        have := hb' b (by simp)
        simp only [List.sum_cons]; omega
    simp only [List.sum_cons]
    rcases List.mem_cons.1 hx with rfl | hx
    · omega
    · have := ih (fun y hy => hb y (by simp [hy])) x hx
      omega
/-- What is left behind the first j. -/
def leftS (q all : Int) (l : List Int) (j : Nat) : Int := q - ((gotS q all l).take j).sum
theorem ord_perm (r : List Int) : (ordS r).Perm (List.range r.length) := isortB_perm _ _
theorem ord_len (r : List Int) : (ordS r).length = r.length := by rw [(ord_perm r).length_eq, List.length_range]
theorem ord_lt (r : List Int) (k : Nat) (hk : k < r.length) : (ordS r).getD k 0 < r.length := by
  rw [List.getD_eq_getElem?_getD, List.getElem?_eq_getElem (by rw [ord_len]; exact hk), Option.getD_some]
  exact List.mem_range.1 ((ord_perm r).mem_iff.1 (List.getElem_mem _))
theorem bump_sum (G : List Int) (o : List Nat) (ho : ∀ k, k < o.length → o.getD k 0 < G.length) (hG : ∀ x ∈ G, 0 ≤ x) : ∀ k, k ≤ o.length → (bump G o k).sum = G.sum + k ∧ ∀ x ∈ bump G o k, 0 ≤ x := by
  intro k
  induction k with
  | zero => intro _; simp [bump]; exact hG
  | succ k ih =>
    intro hk
    obtain ⟨h1, h2⟩ := ih (by omega)
    have hi := ho k (by omega)
    rw [bump_step G o k (by omega)]
    refine ⟨by rw [sum_set _ _ _ (by rw [bump_len]; exact hi), h1]; omega, ?_⟩
    intro x hx
    have hge : 0 ≤ (bump G o k).getD (o.getD k 0) 0 := h2 _ (by rw [List.getD_eq_getElem?_getD, List.getElem?_eq_getElem (by rw [bump_len]; exact hi)]; exact List.getElem_mem _)
    rcases List.mem_or_eq_of_mem_set hx with h | h
    · exact h2 x h
    · omega
theorem bump_all (G : List Int) (o : List Nat) (k : Nat) (hk : o.length ≤ k) : bump G o k = bump G o o.length := by
  unfold bump
  rw [List.take_of_length_le hk, List.take_length]
set_option maxHeartbeats 8000000 in
set_option maxRecDepth 100000 in
theorem split_walk (q : Int) (A : Option Addr) (c : Nat) (l : List Int) (hn : 0 < l.length) (hm : l.length ≤ 64) (hb : ∀ x ∈ l, 0 ≤ x ∧ x ≤ 1099511627776) (hs : 1 ≤ l.sum) (hq : 0 ≤ q ∧ q ≤ 9223372036854775807) (w : World) (hC : Kd.C (Kd.int .i64) w A l.length l) :
    Calls Try.prog 24 #[.int .i64 q, .slice A l.length c] w fun e w' => ∃ gg, e = .returned (.slice (some ⟨gg, 0, none⟩) l.length l.length) ∧ w.heap.size ≤ gg ∧ Blk w' gg 3 (ints (splitS q l)) ∧ Below w.heap.size w w' := by
  have hsb := isum_b l hb
  have hto := itotal_walk A c l hm hb w hC
  have HT := Lib.hid hto
  have hmk := fun w => make_n l.length (by omega) w
  obtain ⟨all, hall⟩ : ∃ all, all = l.sum := ⟨_, rfl⟩
  have hrd : ∀ w' (j : Nat), Below w.heap.size w w' → j < l.length → ∃ ad, A = some ad ∧ w'.cell? (ad.add j) = some (.int .i64 (l.getD j 0)) := fun w' j hbw hj => by
    have := Kd.at_int (Kd.C_below hC hbw) (j : Int) (by omega) (by omega)
    rw [Int.toNat_natCast] at this
    have e : rd l (j : Int) = l.getD j 0 := by unfold rd; rw [Int.toNat_natCast]
    rwa [e] at this
  have hst : ∀ j : Nat, j < l.length → 0 ≤ l.getD j 0 ∧ l.getD j 0 ≤ all ∧ 0 ≤ q * l.getD j 0 / all ∧ q * l.getD j 0 / all ≤ leftS q all l j ∧ leftS q all l j ≤ q ∧ leftS q all l (j + 1) = leftS q all l j - q * l.getD j 0 / all ∧ 0 ≤ leftS q all l j := fun j hj => by
    have hx := hb (l.getD j 0) (by rw [List.getD_eq_getElem?_getD, List.getElem?_eq_getElem hj]; exact List.getElem_mem hj)
    have hle : l.getD j 0 ≤ l.sum := mem_le_sum l (fun x hx => (hb x hx).1) _ (by rw [List.getD_eq_getElem?_getD, List.getElem?_eq_getElem hj]; exact List.getElem_mem hj)
    have e1 := (got_at q all l j hj).1
    have e2 : ((gotS q all l).take (j + 1)).sum = ((gotS q all l).take j).sum + q * l.getD j 0 / all := by
      rw [← e1]; exact isum_take _ _ (by simpa [gotS] using hj)
    have hg : 0 ≤ q * l.getD j 0 / all := Int.ediv_nonneg (Int.mul_nonneg hq.1 hx.1) (by omega)
    have t0 := got_sum (all := all) hq.1 (by omega) (l.take j) (fun x hx => (hb x (List.mem_of_mem_take hx)).1)
    have t1 := got_sum (all := all) hq.1 (by omega) (l.take (j + 1)) (fun x hx => (hb x (List.mem_of_mem_take hx)).1)
    rw [← got_take] at t0 t1
    have u1 : (l.take (j + 1)).sum ≤ all := by
      have a1 : l.sum = (l.take (j + 1)).sum + (l.drop (j + 1)).sum := by rw [← List.sum_append, List.take_append_drop]
      have a2 := isum_b (l.drop (j + 1)) (fun x hx => hb x (List.mem_of_mem_drop hx))
      omega
    have u2 : q * (l.take (j + 1)).sum ≤ q * all := Int.mul_le_mul_of_nonneg_left u1 hq.1
    have u3 : ((gotS q all l).take (j + 1)).sum ≤ q := Int.le_of_mul_le_mul_right (a := all) (by omega) (by omega)
    unfold leftS
    exact ⟨hx.1, by omega, hg, by omega, by omega, by omega, by omega⟩
  have HR := Lib.hid hrd; have HS := Lib.hid hst
  have hfin : 0 ≤ leftS q all l l.length := by
    have := hst (l.length - 1) (by omega)
    rw [show l.length - 1 + 1 = l.length by omega] at this
    omega
  have hl0 : (gotS q all l).length = l.length ∧ (restS q all l).length = l.length := by simp [gotS, restS]
  have sp0 : Sp ((((w.alloc (.cells (ints (List.replicate l.length 0)) 3)).alloc (.cells (ints (List.replicate l.length 0)) 3)).alloc (.cells #[.slice (some ⟨w.heap.size + 1, 0, none⟩) l.length l.length] 24)).alloc (.cells (ints (List.replicate l.length 0)) 3)) w.heap.size (w.heap.size + 1) (w.heap.size + 1 + 1) (w.heap.size + 1 + 1 + 1) l.length (pre (gotS q all l) 0) (pre (restS q all l) 0) (pre (idxS l.length) 0) := by
    rw [pre_zero, pre_zero, pre_zero, hl0.1, hl0.2, idx_len]
    have b1 := Blk.new w 3 (ints (List.replicate l.length 0))
    have b2 := Blk.new (w.alloc (.cells (ints (List.replicate l.length 0)) 3)) 3 (ints (List.replicate l.length 0))
    have b3 := Blk.new ((w.alloc (.cells (ints (List.replicate l.length 0)) 3)).alloc (.cells (ints (List.replicate l.length 0)) 3)) 24 #[.slice (some ⟨w.heap.size + 1, 0, none⟩) l.length l.length]
    have b4 := Blk.new (((w.alloc (.cells (ints (List.replicate l.length 0)) 3)).alloc (.cells (ints (List.replicate l.length 0)) 3)).alloc (.cells #[.slice (some ⟨w.heap.size + 1, 0, none⟩) l.length l.length] 24)) 3 (ints (List.replicate l.length 0))
    simp only [World.size_alloc] at b2 b3 b4
    exact ⟨((b1.alloc _).alloc _).alloc _, (b2.alloc _).alloc _, b3.alloc _, b4, ⟨by omega, by omega, by omega⟩, by simp⟩
  have hB0 : Below w.heap.size w ((((w.alloc (.cells (ints (List.replicate l.length 0)) 3)).alloc (.cells (ints (List.replicate l.length 0)) 3)).alloc (.cells #[.slice (some ⟨w.heap.size + 1, 0, none⟩) l.length l.length] 24)).alloc (.cells (ints (List.replicate l.length 0)) 3)) :=
    ((((Below.refl w.heap.size w).alloc (Nat.le_refl _) _).alloc (by simp) _).alloc (by simp; omega) _).alloc (by simp; omega) _
  have S0 := Lib.hid sp0; have B0 := Lib.hid hB0
  rw [← hall] at HT hs
  have ha2 : all ≤ 70368744177664 := by omega
  have HALL := Lib.hid hall
  clear hto hrd hst sp0 hB0 hsb hC hall
  go_enter Try.func24, Try.ntmps24
  go_upto_region 7 with (go_at_call 36; (with_reducible refine HT.out.mono ?_); rintro e wa ⟨rfl, hwa⟩; replace hwa := hwa.symm; subst hwa)
  have sp := S0.out
  have hB := B0.out
  clear S0 B0 HT hmk
  have hlow : w.heap.size ≤ w.heap.size := Nat.le_refl _
  generalize ((((w.alloc (.cells (ints (List.replicate l.length 0)) 3)).alloc (.cells (ints (List.replicate l.length 0)) 3)).alloc (.cells #[.slice (some ⟨w.heap.size + 1, 0, none⟩) l.length l.length] 24)).alloc (.cells (ints (List.replicate l.length 0)) 3)) = W at *
  generalize hgo : w.heap.size + 1 + 1 + 1 = go at *
  generalize hbR : w.heap.size + 1 + 1 = bR at *
  generalize hgr : w.heap.size + 1 = gr at *
  have hlows : w.heap.size ≤ gr ∧ w.heap.size ≤ bR ∧ w.heap.size ≤ go := by omega
  clear hgo hbR hgr
  obtain ⟨gg, hgg⟩ : ∃ gg, gg = w.heap.size := ⟨_, rfl⟩
  go_loopw [9, 28] (fun lf i wr => ∃ j : Nat, j ≤ l.length ∧ lf = .int .i64 (leftS q all l j) ∧ i = .int .i64 j ∧ Sp wr w.heap.size gr bR go l.length (pre (gotS q all l) j) (pre (restS q all l) j) (pre (idxS l.length) j) ∧ Below w.heap.size w wr) (fun _ i _ => l.length - (intOf i).toNat)
  case atStart => exact ⟨0, Nat.zero_le _, by unfold leftS; simp, rfl, sp, hB⟩
  case round =>
    clear sp hB
    obtain ⟨j, hj, rfl, rfl, sp, hB⟩ := hrel
    by_cases hlt : j < l.length
    · obtain ⟨ad, rfl, c0⟩ := HR.out wr j hB hlt
      obtain ⟨h1, h2, h3, h4, h5, h6, h7⟩ := HS.out j hlt
      have hfr := fun w' => fair_walk q (l.getD j 0) all hq ⟨h1, h2⟩ ⟨hs, ha2⟩ w'
      have hG := pre_step (gotS q all l) j (by rw [hl0.1]; exact hlt)
      have hRr := pre_step (restS q all l) j (by rw [hl0.2]; exact hlt)
      have hO := pre_step (idxS l.length) j (by rw [idx_len]; exact hlt)
      have hga := pre_at (gotS q all l) j (by rw [hl0.1]; exact hlt)
      rw [(got_at q all l j hlt).1] at hG hga
      rw [(got_at q all l j hlt).2] at hRr
      rw [idx_at l.length j hlt] at hO
      generalize q * l.getD j 0 / all = v at *
      generalize q * l.getD j 0 % all = v2 at *
      generalize l.getD j 0 = x at *
      have hwl : IntKind.i64.wrap (leftS q all l j - v) = leftS q all l j - v := IntWalk.i64_in _ (by omega)
      generalize leftS q all l j = left at *
      generalize pre (gotS q all l) j = G0 at *
      generalize pre (restS q all l) j = R0 at *
      generalize pre (idxS l.length) j = O0 at *
      have HN := Lib.hid (And.intro hG (And.intro hRr (And.intro hO (And.intro h6 hga))))
      have HF := Lib.hid hfr
      have SP := Lib.hid sp; have HB := Lib.hid hB
      have hj0 : (0 : Int) ≤ (j : Int) := by omega
      have hj1 : (j : Int) < (l.length : Int) := by omega
      have xb := sp.bc
      clear hG hRr hO h6 hga hfr sp hB HR HS hfin
      go_upto_region 9 with (fail)
      have keepS : ∀ w', Below wr.heap.size wr w' → w'.cell? ⟨bR, 0, none⟩ = some (.slice (some ⟨gr, 0, none⟩) l.length l.length) := fun w' h => (SP.out.on h).bc
      have KS := Lib.hid keepS
      clear keepS
      go_region_held3 (fun w' => w'.cell? ⟨bR, 0, none⟩ = some (.slice (some ⟨gr, 0, none⟩) l.length l.length)) (first | exact k2 | exact k1 | exact KS.out _ (by repeat (first | exact Below.refl _ _ | assumption | apply below_drew1 | apply pw_below_drewN | refine bt ?_ hb6))) (first | (go_at_call 32; (with_reducible refine (HF.out _).mono ?_); rintro e wx ⟨rfl, hb6⟩; have hbx : Below wr.heap.size wr wx := (by repeat (first | exact Below.refl _ _ | assumption | apply below_drew1 | apply pw_below_drewN | refine bt ?_ hb6)); have spx := SP.out.on hbx; have xg := spx.gc j hlt; have fg := spx.bg.frozen j; have sp1 := spx.setG j v; have k1 : (wx.setCell ⟨w.heap.size, j, none⟩ (.int .i64 v)).cell? ⟨bR, 0, none⟩ = some (.slice (some ⟨gr, 0, none⟩) l.length l.length) := sp1.bc; have xr := sp1.rc j hlt; have fr := sp1.br.frozen j; have k2 := (sp1.setR j v2).bc))
      have spS := sp1.setR j v2
      have hBS : Below w.heap.size w ((wx.setCell ⟨w.heap.size, j, none⟩ (.int .i64 v)).setCell ⟨gr, j, none⟩ (.int .i64 v2)) := ((bt HB.out hbx).setCell (p := ⟨w.heap.size, j, none⟩) (Nat.le_refl _) _).setCell (p := ⟨gr, j, none⟩) hlows.1 _
      obtain ⟨n1, n2, n3, n4, n5⟩ := HN.out
      rw [n1, n2] at spS
      clear spx xg fg sp1 k1 xr fr k2 hbx hb6 KS HF SP HB n1 n2 xb
      generalize (wx.setCell ⟨w.heap.size, j, none⟩ (.int .i64 v)).setCell ⟨gr, j, none⟩ (.int .i64 v2) = wS at *
      have tg := spS.gc j hlt
      rw [n5] at tg
      have spE := spS.setO j j
      rw [n3] at spE
      have hBE := hBS.setCell (p := ⟨go, j, none⟩) hlows.2.2 (.int .i64 (j : Int))
      have tq := spS.oc j hlt
      have fo := spS.bo.frozen j
      have HE := Lib.hid (And.intro spE hBE)
      have HL := Lib.hid n4
      clear n3 n4 n5 HN spS hBS spE hBE c0 HALL
      all_goals
        go_wp2_with fail
        go_roundw
        case rel => exact ⟨j + 1, by omega, by rw [HL.out], by go_num, HE.out.1.on (by repeat (first | exact Below.refl _ _ | apply below_drew1 | apply pw_below_drewN)), bt HE.out.2 (by repeat (first | exact Below.refl _ _ | apply below_drew1 | apply pw_below_drewN))⟩
        case measure => simp only [intOf]; omega
    · obtain rfl : j = l.length := by omega
      rw [show pre (gotS q all l) l.length = gotS q all l by rw [← hl0.1]; exact pre_end _, show pre (restS q all l) l.length = restS q all l by rw [← hl0.2]; exact pre_end _, show pre (idxS l.length) l.length = idxS l.length by
        have := pre_end (idxS l.length)
        rwa [idx_len] at this] at sp
      have hsrt := sort_n l.length hn hm go bR gr l.length (restS q all l) hl0.2 wr sp.bo sp.bc (fun k hk => sp.rc k hk) (by have := sp.ne; omega) (by have := sp.ne; omega)
      have hgot0 : ∀ x ∈ gotS q all l, 0 ≤ x := fun x hx => by
        obtain ⟨y, hy, rfl⟩ := List.mem_map.1 hx
        exact Int.ediv_nonneg (Int.mul_nonneg hq.1 (hb y hy).1) (by omega)
      have hbs := bump_sum (gotS q all l) (ordS (restS q all l)) (fun k hk => by rw [hl0.1, ← hl0.2]; exact ord_lt _ k (by rwa [ord_len] at hk)) hgot0
      have holt : ∀ k, k < l.length → (ordS (restS q all l)).getD k 0 < l.length := fun k hk => by have := ord_lt (restS q all l) k (by rw [hl0.2]; exact hk); rwa [hl0.2] at this
      have hol : (ordS (restS q all l)).length = l.length := by rw [ord_len, hl0.2]
      rw [hol] at hbs
      have hq0 : leftS q all l l.length = q - (gotS q all l).sum := by unfold leftS; rw [← hl0.1, List.take_length]
      have hend : ∀ k, k ≤ l.length → ((k : Int) = leftS q all l l.length ∨ (k = l.length ∧ (k : Int) ≤ leftS q all l l.length)) → bump (gotS q all l) (ordS (restS q all l)) k = splitS q l := fun k hk h => by
        unfold splitS
        rw [← HALL.out]
        rcases h with h | ⟨h, h2⟩
        · congr 1; omega
        · rw [bump_all _ _ (q - (gotS q all l).sum).toNat (by rw [hol]; omega), hol, h]
      obtain ⟨hgs, hne⟩ := And.intro sp.bg sp.ne
      generalize hG : gotS q all l = G at *
      generalize hO : ordS (restS q all l) = o at *
      generalize hL0 : leftS q all l l.length = left0 at *
      have HE := Lib.hid hend; have HBS := Lib.hid hbs; have HOL := Lib.hid holt
      have hGl := hl0.1
      have Hs := Lib.hid hsrt
      have hq0' := Lib.hid hq0
      have hlo : left0 ≤ q := by have := isum_b; have := (hbs 0 (Nat.zero_le _)).1; have h3 := mem_le_sum; have h4 : 0 ≤ G.sum := by
                                                                                                              have h5 : ∀ L : List Int, (∀ x ∈ L, 0 ≤ x) → 0 ≤ L.sum := fun L => by
                                                                                                                induction L with
                                                                                                                | nil => simp
                                                                                                                | cons a L ih => intro h; have := ih (fun y hy => h y (by simp [hy])); have := h a (by simp); simp only [List.sum_cons]; omega
                                                                                                              exact h5 G hgot0
                                 omega
      clear hsrt hend hbs holt sp HR HS HALL hgot0 hq0 hG hO hL0 hl0 hs ha2 hb
      go_wp2_with (go_at_call 39; (with_reducible refine (Hs.out).mono ?_); rintro e w2 ⟨rfl, hb2, hb3⟩)
      have hgw2 := hgs.below hb3 (by omega)
      have hB2 : Below w.heap.size w w2 := hB.trans (hb3.mono hlows.2.2)
      clear hB hb3 Hs hgs
      go_loopw [9, 62] (fun lf i wr => ∃ k : Nat, k ≤ l.length ∧ lf = .int .i64 (left0 - k) ∧ (k : Int) ≤ left0 ∧ i = .int .i64 k ∧ Hid (Blk wr w.heap.size 3 (ints (bump G o k)) ∧ Blk wr go 3 (ints (o.map Int.ofNat)) ∧ Below w.heap.size w wr)) (fun _ i _ => l.length - (intOf i).toNat)
      case atStart => exact ⟨0, Nat.zero_le _, by simp, by omega, rfl, Lib.hid ⟨hgw2, hb2, hB2⟩⟩
      case round =>
        clear hgw2 hb2 hB2
        obtain ⟨k, hk, rfl, hk0, rfl, HI⟩ := hrel
        obtain ⟨hg, ho, hB⟩ := HI.out
        clear HI
        have hfin2 : ∀ (h : (k : Int) = left0 ∨ (k = l.length ∧ (k : Int) ≤ left0)) , Blk wr w.heap.size 3 (ints (splitS q l)) := fun h => by rw [← HE.out k hk h]; exact hg
        by_cases hlt : k < l.length
        · have hklz : (k : Int) < (l.length : Int) := by omega
          have hoi := HOL.out k hlt
          have co : wr.cell? ⟨go, k, none⟩ = some (.int .i64 (o.getD k 0 : Nat)) := by
            rw [ho.cell k, ints_at _ k (by simp; omega)]
            simp [List.getD_eq_getElem?_getD, List.getElem?_eq_getElem (show k < o.length by omega)]
          by_cases hz : left0 - k = 0
          · have hf := Lib.hid (hfin2 (.inl (by omega)))
            clear hfin2 HE HBS HOL hg ho hoi
            generalize o.getD k 0 = i at *
            go_wp2_with fail
            go_ret
            exact ⟨_, rfl, Nat.le_refl _, hf.out, hB⟩
          · have hbl : (bump G o k).length = l.length := by rw [bump_len, hGl]
            have cg : wr.cell? ⟨w.heap.size, o.getD k 0, none⟩ = some (.int .i64 ((bump G o k).getD (o.getD k 0) 0)) := by
              rw [hg.cell _]; exact ints_getD _ _ (by rw [hbl]; exact hoi)
            have fg := hg.frozen (o.getD k 0)
            have hsm := HBS.out k hk
            have hge : 0 ≤ (bump G o k).getD (o.getD k 0) 0 ∧ (bump G o k).getD (o.getD k 0) 0 ≤ (bump G o k).sum := by
              have hmem : (bump G o k).getD (o.getD k 0) 0 ∈ bump G o k := by
                rw [List.getD_eq_getElem?_getD, List.getElem?_eq_getElem (by rw [hbl]; exact hoi)]; exact List.getElem_mem _
              exact ⟨hsm.2 _ hmem, mem_le_sum _ hsm.2 _ hmem⟩
            have hrange : (bump G o k).getD (o.getD k 0) 0 + 1 ≤ 9223372036854775807 := by have := hq0'.out; omega
            have hg2 := hg.put (o.getD k 0) (.int .i64 ((bump G o k).getD (o.getD k 0) 0 + 1))
            rw [ints_set, ← bump_step G o k (by omega)] at hg2
            have ho2 := ho.far (p := ⟨w.heap.size, o.getD k 0, none⟩) (by show go ≠ w.heap.size; omega) (.int .i64 ((bump G o k).getD (o.getD k 0) 0 + 1))
            have hB2 := hB.setCell (p := ⟨w.heap.size, o.getD k 0, none⟩) (Nat.le_refl _) (.int .i64 ((bump G o k).getD (o.getD k 0) 0 + 1))
            have HN := Lib.hid (And.intro hg2 (And.intro ho2 hB2))
            clear hfin2 HE HBS HOL hg ho hg2 ho2 hB2 hsm hq0'
            generalize (bump G o k).getD (o.getD k 0) 0 = gi at *
            generalize o.getD k 0 = i at *
            have hi0 : (i : Int) < (l.length : Int) := by omega
            have hw1 : IntKind.i64.wrap (gi + 1) = gi + 1 := IntWalk.i64_in _ (by omega)
            have hw2 : IntKind.i64.wrap (left0 - (k : Int) - 1) = left0 - (k : Int) - 1 := IntWalk.i64_in _ (by omega)
            have hz2 : ((left0 - (k : Int)) == 0) = false := by rw [beq_eq_false_iff_ne]; exact hz
            go_wp2_with fail
            go_roundw
            case rel => exact ⟨k + 1, by omega, by rw [show left0 - ((k + 1 : Nat) : Int) = left0 - (k : Int) - 1 by omega], by omega, by go_num, Lib.hid HN.out⟩
            case measure => simp only [intOf]; omega
        · obtain rfl : k = l.length := by omega
          have hf := Lib.hid (hfin2 (.inr ⟨rfl, hk0⟩))
          clear hfin2 HE HBS HOL hg ho
          go_wp2_with fail
          go_ret
          exact ⟨_, rfl, Nat.le_refl _, hf.out, hB⟩
end Go.Proofs.Ytknmojjccfhchaa.Hand

/- allot.Pro and allot.Worth, walked; as functions. -/
set_option linter.unusedVariables false
set_option linter.unusedSimpArgs false
namespace Go.Proofs.Ytknmojjccfhchaa.Hand
open Go Go.RowKit Go.Proofs.YtknmojjccfhchaaW.PrintWords Go.Proofs.YtknmojjccfhchaaW.PrintMore Go.Proofs.Ytknmojjccfhchaa.RL Go.Proofs.Ytknmojjccfhchaa.PL
/-- What is asked for. -/
def asksS (l : List Shr) : List Int := l.map (·.f0)
theorem asks_sum (l : List Shr) : (asksS l).sum = sumA l := rfl
set_option maxHeartbeats 4000000 in
set_option maxRecDepth 100000 in
theorem pro_ok (q : Int) (A : Option Addr) (c : Nat) (l : List Shr) (hq : 0 ≤ q ∧ q ≤ 1099511627776) (hok : checkS l = true) (w : World) (hl : Kd.C kS w A l.length l) :
    Calls Try.prog 9 #[.int .i64 q, .slice A l.length c] w fun e w' => ∃ gg, e = .returned (.tuple #[.slice (some ⟨gg, 0, none⟩) l.length l.length, .int .i64 0]) ∧ w.heap.size ≤ gg ∧ Blk w' gg 3 (ints (splitS q (asksS l))) ∧ Below w.heap.size w w' := by
  have hck := check_walk A c l w hl
  rw [hok, if_pos rfl] at hck
  unfold checkS at hok
  simp only [Bool.and_eq_true, decide_eq_true_eq, Bool.not_eq_true', decide_eq_false_iff_not] at hok
  obtain ⟨hm, hall, hs0⟩ := hok
  have hokA : ∀ x ∈ l, okA x := fun x hx => okShr_A (List.all_eq_true.1 hall x hx)
  have hsb := sumA_b l hokA
  have hw := fun w => lwithin_walk q 0 1099511627776 w
  rw [decide_eq_true hq] at hw
  have hrd : ∀ w' (j : Nat), Below w.heap.size w w' → j < l.length → ∃ ad, A = some ad ∧ w'.cell? (ad.add (j * 3)) = some (.int .i64 (shr l j).f0) ∧ w'.cell? ⟨(ad.add (j * 3)).block, (ad.add (j * 3)).off + 1, none⟩ = some (.int .i64 (shr l j).f1) ∧ w'.cell? ⟨(ad.add (j * 3)).block, (ad.add (j * 3)).off + 2, none⟩ = some (.int .i64 (shr l j).f2) := fun w' j hbw hj => by
    have := U.at_T42 (Kd.C_below hl hbw) (j : Int) (by omega) (by omega)
    rwa [Int.toNat_natCast] at this
  have hap : ∀ j : Nat, j < l.length → asksS (l.take (j + 1)) = asksS (l.take j) ++ [(shr l j).f0] := fun j hj => by
    have e : shr l j = l[j] := by unfold shr U.rd_T42; rw [Int.toNat_natCast, List.getD_eq_getElem?_getD, List.getElem?_eq_getElem hj]; rfl
    unfold asksS
    rw [List.take_succ_eq_append_getElem hj, List.map_append, e]; rfl
  have hsp : ∀ w' B d, Below w.heap.size w w' → Kd.C (Kd.int .i64) w' B l.length (asksS l) → Calls Try.prog 24 #[.int .i64 q, .slice B l.length d] w' fun e w'' => ∃ gg, e = .returned (.slice (some ⟨gg, 0, none⟩) l.length l.length) ∧ w'.heap.size ≤ gg ∧ Blk w'' gg 3 (ints (splitS q (asksS l))) ∧ Below w'.heap.size w' w'' := fun w' B d hb hC => by
    have hla : (asksS l).length = l.length := by simp [asksS]
    have := split_walk q B d (asksS l) (by omega) (by omega) (fun x hx => by
      obtain ⟨y, hy, rfl⟩ := List.mem_map.1 hx
      exact hokA y hy) (by rw [asks_sum]; omega) (by omega) w' (by rw [hla]; exact hC)
    rwa [hla] at this
  have inf : (Try.prog.info? 3).map (fun i => (i.zero, i.size, i.bytes)) = some (some (.int .i64 0), 1, 8) := by kernel_rfl
  have INF := Lib.hid inf
  have HC := Lib.hid hck; have HW := Lib.hid hw; have HR := Lib.hid hrd; have HA := Lib.hid hap; have HS := Lib.hid hsp
  clear hck hw hrd hap hsp inf hl hsb hokA hs0 hall
  go_enter Try.func9, Try.ntmps9
  go_wp2_with (first | (go_at_call 12; (with_reducible refine (HC.out).mono ?_); rintro e w1 ⟨rfl, hb1⟩) | (go_at_call 23; (with_reducible refine (HW.out _).mono ?_); rintro e wa ⟨rfl, hwa⟩; replace hwa := hwa.symm; subst hwa))
  go_loopw [7, 20] (fun v i wr => ∃ k : Nat, k ≤ l.length ∧ i = .int .i64 k ∧ Below w.heap.size w wr ∧ Kd.R (Kd.int .i64) 3 wr w.heap.size (fun _ => True) v (asksS (l.take k))) (fun _ i _ => l.length - (intOf i).toNat)
  case atStart => exact ⟨0, Nat.zero_le _, rfl, hb1, Kd.R_nil _ _ _ _ _⟩
  case round =>
    clear hb1
    obtain ⟨k, hk, rfl, hB, hR⟩ := hrel
    by_cases hlt : k < l.length
    · obtain ⟨ad, rfl, c0, c1, c2⟩ := HR.out wr k hB hlt
      have hap := HA.out k hlt
      have hlen : (asksS (l.take k)).length = k := by unfold asksS; rw [List.length_map, List.length_take]; omega
      have hlen1 : (asksS (l.take (k + 1))).length = k + 1 := by unfold asksS; rw [List.length_map, List.length_take]; omega
      generalize (shr l k).f0 = x0 at *
      generalize (shr l k).f1 = x1 at *
      generalize (shr l k).f2 = x2 at *
      have bO := (Below.refl wr.heap.size wr).alloc (Nat.le_refl _) (.cells #[.int .i64 x0, .int .i64 x1, .int .i64 x2] 42)
      have hO := Blk.new wr 42 #[.int .i64 x0, .int .i64 x1, .int .i64 x2]
      have R8 := Kd.R_below hR bO
      have hB8 := bt hB bO
      have HR8 := Lib.hid R8; have HB8 := Lib.hid hB8; have HO := Lib.hid hO
      have hs8 : w.heap.size ≤ (wr.alloc (.cells #[.int .i64 x0, .int .i64 x1, .int .i64 x2] 42)).heap.size := by have := hB.size; simp; omega
      have HP := Lib.hid hap; have HL := Lib.hid (And.intro hlen hlen1)
      have htk : (asksS (l.take k)).length ≤ 1000 := by omega
      clear hR hB bO hO R8 hB8 hap hlen hlen1 HS HA HR HW HC
      go_upto_region 10 with (fail)
      generalize wr.alloc (.cells #[.int .i64 x0, .int .i64 x1, .int .i64 x2] 42) = w8 at *
      generalize wr.heap.size = o at *
      have y0 : w8.cell? ⟨o, 0, none⟩ = some (.int .i64 x0) := HO.out.cell 0
      obtain ⟨Av, cv, rfl⟩ := Kd.R_slice HR8.out
      clear c0 c1 c2 HO
      go_wp2_with (at_builtin; (refine Kd.R_append (Kd.int .i64) (w0 := w) w.heap.size rfl (.tmp 24) (.tmp 27) 24 3 (.int .i64 0) 8 rfl Try.underlying24 INF.out rfl (by decide) (by omega) (.slice Av (asksS (l.take k)).length cv) (asksS (l.take k)) x0 [.int .i64 x0] (fun _ => True) (fun _ => False) rfl rfl rfl (fun _ hk => hk.elim) (fun _ _ => trivial) HR8.out HB8.out hs8 (by omega) ?_); intro v' w9 ho hb9 hg hat)
      have hf : Kd.R (Kd.int .i64) 3 w9 w.heap.size (fun _ => True) v' (asksS (l.take (k + 1))) := by rw [HP.out]; exact ho
      clear ho hg hat
      go_roundw
      case rel => exact ⟨k + 1, by omega, by go_num, hb9, hf⟩
      case measure => simp only [intOf]; omega
    · obtain rfl : l.length = k := by omega
      rw [List.take_length] at hR
      obtain ⟨B, d, rfl⟩ := Kd.R_slice hR
      have hC := (Kd.R_reads' hR).2.2
      have hla : (asksS l).length = l.length := by simp [asksS]
      rw [hla] at hC
      rw [hla]
      have hs := HS.out wr B d hB hC
      have Hs := Lib.hid hs
      have hsz := hB.size
      clear hs hR hC hla HS HA HR HW HC
      go_wp2_with (go_at_call 24; (with_reducible refine Hs.out.mono ?_); rintro e w9 ⟨gg, rfl, hgg, hblk, hb9⟩)
      refine bodyPost_ret (v := .tuple #[.slice (some ⟨gg, 0, none⟩) l.length l.length, .int .i64 0]) (by simp [results, Try.results9, go_sem]) rfl ⟨gg, rfl, by omega, hblk, bt hB hb9⟩
set_option maxHeartbeats 4000000 in
set_option maxRecDepth 100000 in
theorem pro_bad (q : Int) (A : Option Addr) (c : Nat) (l : List Shr) (hno : checkS l = false ∨ ¬ (0 ≤ q ∧ q ≤ 1099511627776)) (w : World) (hl : Kd.C kS w A l.length l) :
    Calls Try.prog 9 #[.int .i64 q, .slice A l.length c] w fun e w' => e = .returned (.tuple #[.slice none 0 0, .int .i64 2]) ∧ Below w.heap.size w w' := by
  have hck := check_walk A c l w hl
  have hw := fun w => lwithin_walk q 0 1099511627776 w
  cases hb : checkS l with
  | false =>
    rw [hb, if_neg (by decide)] at hck
    have HC := Lib.hid hck
    clear hck hw hno hb
    go_enter Try.func9, Try.ntmps9
    go_wp2_with (go_at_call 12; (with_reducible refine HC.out.mono ?_); rintro e w1 ⟨rfl, hb1⟩)
    exact bodyPost_ret (v := .tuple #[.slice none 0 0, .int .i64 2]) (by simp [results, Try.results9, go_sem]) rfl ⟨rfl, hb1⟩
  | true =>
    have hq : ¬ (0 ≤ q ∧ q ≤ 1099511627776) := by
      rcases hno with h | h
      · rw [hb] at h; cases h
      · exact h
    rw [hb, if_pos rfl] at hck
    rw [decide_eq_false hq] at hw
    have HC := Lib.hid hck; have HW := Lib.hid hw
    clear hck hw hno hb hq
    go_enter Try.func9, Try.ntmps9
    go_wp2_with (first | (go_at_call 12; (with_reducible refine HC.out.mono ?_); rintro e w1 ⟨rfl, hb1⟩) | (go_at_call 23; (with_reducible refine (HW.out _).mono ?_); rintro e wa ⟨rfl, hwa⟩; replace hwa := hwa.symm; subst hwa))
    exact bodyPost_ret (v := .tuple #[.slice none 0 0, .int .i64 2]) (by simp [results, Try.results9, go_sem]) rfl ⟨rfl, hb1⟩
def allot_Check.f (l0 : List Shr) : Option Int := some (if checkS l0 = true then 0 else 2)
theorem allot_Check.calls (A0 : Option Addr) (c0 : Nat) (l0 : List Shr) (r : Int) (w : World) (hr0 : Kd.C kS w A0 l0.length l0) (hc0 : l0.length ≤ c0) (h : allot_Check.f l0 = some r) :
    Calls Try.prog 12 #[.slice A0 l0.length c0] w fun e w' => e = .returned (.int .i64 r) ∧ Below w.heap.size w w' := by
  have h := Option.some.inj h
  subst h
  exact check_walk A0 c0 l0 w hr0
theorem split_len (q : Int) (l : List Int) : (splitS q l).length = l.length := by unfold splitS; rw [bump_len]; simp [gotS]
def allot_Pro.f (a0 : Int) (l1 : List Shr) : Option (List Int × Int) := some (if checkS l1 = true ∧ (0 ≤ a0 ∧ a0 ≤ 1099511627776) then (splitS a0 (asksS l1), 0) else ([], 2))
theorem allot_Pro.calls (a0 : Int) (A1 : Option Addr) (c1 : Nat) (l1 : List Shr) (r1 : List Int) (r2 : Int) (w : World) (hr1 : Kd.C kS w A1 l1.length l1) (hc1 : l1.length ≤ c1) (h : allot_Pro.f a0 l1 = some (r1, r2)) :
    Calls Try.prog 9 #[.int .i64 a0, .slice A1 l1.length c1] w fun e w' => ∃ v0_ : Value, e = .returned (.tuple #[v0_, .int .i64 r2]) ∧ Kd.R (Kd.int .i64) 3 w' w.heap.size (fun _ => True) v0_ r1 ∧ Below w.heap.size w w' := by
  have h := Option.some.inj h
  by_cases g : checkS l1 = true ∧ (0 ≤ a0 ∧ a0 ≤ 1099511627776)
  · rw [if_pos g] at h
    simp only [Prod.mk.injEq] at h
    obtain ⟨rfl, rfl⟩ := h
    have hm : l1.length ≤ 64 := by
      have := g.1
      unfold checkS at this
      rw [Bool.and_eq_true, decide_eq_true_eq] at this
      exact this.1.2
    refine (pro_ok a0 A1 c1 l1 g.2 g.1 w hr1).mono ?_
    rintro e w' ⟨gg, rfl, hgg, hB, hb⟩
    exact ⟨_, rfl, blk_own hB (by rw [split_len]; simp [asksS]) hgg (by omega), hb⟩
  · rw [if_neg g] at h
    simp only [Prod.mk.injEq] at h
    obtain ⟨rfl, rfl⟩ := h
    refine (pro_bad a0 A1 c1 l1 (by
      cases hb : checkS l1 with
      | false => exact .inl rfl
      | true => exact .inr fun h => g ⟨hb, h⟩) w hr1).mono ?_
    rintro e w' ⟨rfl, hb⟩
    exact ⟨_, rfl, Kd.R_nil _ _ _ _ _, hb⟩
end Go.Proofs.Ytknmojjccfhchaa.Hand

