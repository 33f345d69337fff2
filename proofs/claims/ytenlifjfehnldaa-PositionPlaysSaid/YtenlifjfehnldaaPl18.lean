/- Fills in any order, in plain numbers. -/
import Derived.Test.YtenlifjfehnldaaPos7
set_option linter.unusedVariables false
set_option linter.unusedSimpArgs false
namespace Go.Proofs.Ytenlifjfehnldaa.PL
open Go Go.RowKit Go.Proofs.Ytenlifjfehnldaa.Hand Go.Proofs.Ytenlifjfehnldaa.RL
/-- An execution: account, symbol, side, quantity, price, and whether it is taken back. -/
abbrev Ex := Int × Int × Int × Int × Int × Bool
def mvx (a s : Nat) (L : List Int) (x : Ex) : Int × List Int := mvS a s L x.1 x.2.1 x.2.2.1 x.2.2.2.1 x.2.2.2.2.1 x.2.2.2.2.2
def okx (a s : Nat) (x : Ex) : Prop := okM a s x.1 x.2.1 x.2.2.1 x.2.2.2.1 x.2.2.2.2.1
instance (a s : Nat) (x : Ex) : Decidable (okx a s x) := by unfold okx; infer_instance
def plx (s : Nat) (x : Ex) : Nat := plc s x.1 x.2.1 x.2.2.1
def tame (x : Ex) : Prop := x.2.2.2.2.2 = false ∧ x.2.2.2.1 ≤ 1048576 ∧ x.2.2.2.2.1 ≤ 1048576
def addAt (L : List Int) (o : Nat) (u v : Int) : List Int := (L.set o (L.getD o 0 + u)).set (o + 1) (L.getD (o + 1) 0 + v)
def mvF (a s : Nat) (L : List Int) (x : Ex) : List Int := if okx a s x then addAt L (plx s x) x.2.2.2.1 (x.2.2.2.1 * x.2.2.2.2.1) else L
def bndP (k : Int) (L : List Int) : Prop := ∀ y ∈ L, 0 ≤ y ∧ y ≤ k * 1099511627776
theorem addAt_len (L : List Int) (o : Nat) (u v : Int) : (addAt L o u v).length = L.length := by unfold addAt; simp
theorem getD_set (L : List Int) (o k : Nat) (x : Int) (h : o < L.length) : (L.set o x).getD k 0 = if k = o then x else L.getD k 0 := by
  by_cases e : k = o
  · subst e; simp [h]
  · rw [if_neg e]; simp [List.getElem?_set, Ne.symm e]
theorem addAt_get (L : List Int) (o k : Nat) (u v : Int) (h : o + 1 < L.length) : (addAt L o u v).getD k 0 = L.getD k 0 + (if k = o then u else if k = o + 1 then v else 0) := by
  unfold addAt
  rw [getD_set _ _ _ _ (by simp; omega), getD_set _ _ _ _ (by omega)]
  by_cases e1 : k = o + 1
  · rw [if_pos e1, if_neg (show ¬ k = o by omega), if_pos e1, e1]
  · rw [if_neg e1]
    by_cases e2 : k = o
    · rw [if_pos e2, if_pos e2, e2]
    · rw [if_neg e2, if_neg e2, if_neg e1]; omega
theorem plx_lt {a s : Nat} {x : Ex} (h : okx a s x) : plx s x + 1 < a * s * 4 := (plc_lt ⟨h.1, h.2.1⟩).2
def ctr (a s : Nat) (k : Nat) (x : Ex) : Int := if okx a s x then (if k = plx s x then x.2.2.2.1 else if k = plx s x + 1 then x.2.2.2.1 * x.2.2.2.2.1 else 0) else 0
theorem mvF_len (a s : Nat) (L : List Int) (x : Ex) : (mvF a s L x).length = L.length := by
  unfold mvF
  split
  · exact addAt_len _ _ _ _
  · rfl
theorem mvF_get (a s : Nat) (L : List Int) (x : Ex) (k : Nat) (hL : L.length = a * s * 4) : (mvF a s L x).getD k 0 = L.getD k 0 + ctr a s k x := by
  unfold mvF ctr
  by_cases h : okx a s x
  · rw [if_pos h, if_pos h]; exact addAt_get _ _ _ _ _ (by rw [hL]; exact plx_lt h)
  · rw [if_neg h, if_neg h]; omega
def sm (f : Ex → Int) : List Ex → Int
  | [] => 0
  | x :: r => f x + sm f r
theorem sm_append (f : Ex → Int) (l r : List Ex) : sm f (l ++ r) = sm f l + sm f r := by
  induction l with
  | nil => simp [sm]
  | cons x l ih => simp only [List.cons_append, sm, ih]; omega
theorem sm_reverse (f : Ex → Int) (l : List Ex) : sm f l.reverse = sm f l := by
  induction l with
  | nil => rfl
  | cons x l ih => rw [List.reverse_cons, sm_append, ih]; simp only [sm]; omega
theorem foldF_len (a s : Nat) (l : List Ex) : ∀ L : List Int, (l.foldl (mvF a s) L).length = L.length := by
  induction l with
  | nil => intro L; rfl
  | cons x l ih => intro L; rw [List.foldl_cons, ih, mvF_len]
theorem foldF_get (a s k : Nat) (l : List Ex) : ∀ L : List Int, L.length = a * s * 4 → (l.foldl (mvF a s) L).getD k 0 = L.getD k 0 + sm (ctr a s k) l := by
  induction l with
  | nil => intro L _; simp [sm]
  | cons x l ih => intro L hL; rw [List.foldl_cons, ih _ (by rw [mvF_len]; exact hL), mvF_get _ _ _ _ _ hL]; simp only [sm]; omega
theorem ext_getD {L M : List Int} (hl : L.length = M.length) (h : ∀ k, L.getD k 0 = M.getD k 0) : L = M := by
  apply List.ext_getElem hl
  intro i h1 h2
  have := h i
  simpa [h1, h2] using this
theorem fold_rev (a s : Nat) (l : List Ex) (L : List Int) (hL : L.length = a * s * 4) : l.reverse.foldl (mvF a s) L = l.foldl (mvF a s) L :=
  ext_getD (by rw [foldF_len, foldF_len]) fun k => by rw [foldF_get _ _ _ _ _ hL, foldF_get _ _ _ _ _ hL, sm_reverse]
theorem tame_prod {q p : Int} (q0 : 1 ≤ q) (q1 : q ≤ 1048576) (p0 : 1 ≤ p) (p1 : p ≤ 1048576) : 1 ≤ q * p ∧ q * p ≤ 1099511627776 := by
  have h1 : 1 * 1 ≤ q * p := Int.mul_le_mul q0 p0 (by omega) (by omega)
  have h2 : q * p ≤ 1048576 * 1048576 := Int.mul_le_mul q1 p1 (by omega) (by omega)
  omega
theorem bnd_get {k : Int} {L : List Int} (h : bndP k L) (h0 : 0 ≤ k) (o : Nat) : 0 ≤ L.getD o 0 ∧ L.getD o 0 ≤ k * 1099511627776 := by
  by_cases ho : o < L.length
  · have e : L.getD o 0 = L[o] := by simp [ho]
    rw [e]; exact h _ (List.getElem_mem ho)
  · have e : L.getD o 0 = 0 := by simp [Nat.le_of_not_lt ho]
    rw [e]; omega
theorem bnd_set {k : Int} {L : List Int} (h : bndP k L) (o : Nat) (x : Int) (hx : 0 ≤ x ∧ x ≤ k * 1099511627776) : bndP k (L.set o x) := by
  intro y hy
  rcases List.mem_or_eq_of_mem_set hy with h' | rfl
  · exact h y h'
  · exact hx
theorem bnd_mono {k : Int} {L : List Int} (h : bndP k L) : bndP (k + 1) L := fun y hy => by have := h y hy; omega
theorem mv_tame {a s : Nat} {k : Int} {L : List Int} {x : Ex} (ht : tame x) (hL : L.length = a * s * 4) (hb : bndP k L) (k0 : 0 ≤ k) (k1 : k ≤ 1000) :
    mvx a s L x = (if okx a s x then 0 else 2, mvF a s L x) ∧ bndP (k + 1) (mvF a s L x) := by
  obtain ⟨i, j, sd, q, p, bk⟩ := x
  obtain ⟨h1, h2, h3⟩ := ht
  simp only at h1 h2 h3
  subst h1
  unfold mvx mvS mvF
  simp only
  by_cases h : okx a s (i, j, sd, q, p, false)
  · have h' : okM a s i j sd q p := h
    have hm := tame_prod h'.2.2.1.1 h2 h'.2.2.2.1 h3
    have hlt := plx_lt h
    rw [if_pos h', if_pos h, if_pos h, if_pos (by omega)]
    have g0 := bnd_get hb k0 (plc s i j sd)
    have g1 := bnd_get hb k0 (plc s i j sd + 1)
    have hp : plusS (L.getD (plc s i j sd) 0) (L.getD (plc s i j sd + 1) 0) (sgB false q) (sgB false (q * p)) = some (L.getD (plc s i j sd) 0 + q, L.getD (plc s i j sd + 1) 0 + q * p) := by
      unfold plusS sgB
      simp only [Bool.false_eq_true, if_false]
      rw [if_pos]
      have := h'.2.2.1
      omega
    rw [hp]
    refine ⟨rfl, ?_⟩
    show bndP (k + 1) (addAt L (plc s i j sd) q (q * p))
    unfold addAt
    have := h'.2.2.1
    exact bnd_set (bnd_set (bnd_mono hb) _ _ (by omega)) _ _ (by omega)
  · have h' : ¬ okM a s i j sd q p := h
    rw [if_neg h', if_neg h, if_neg h]
    exact ⟨rfl, bnd_mono hb⟩
/-- One that is taken back leaves what was. -/
theorem mv_back {a s : Nat} {k : Int} {L : List Int} {i j sd q p : Int} (ht : tame (i, j, sd, q, p, false)) (hL : L.length = a * s * 4) (hb : bndP k L) (k0 : 0 ≤ k) (k1 : k ≤ 1000) (hok : okx a s (i, j, sd, q, p, false)) :
    mvx a s (mvF a s L (i, j, sd, q, p, false)) (i, j, sd, q, p, true) = (0, L) := by
  obtain ⟨h1, h2, h3⟩ := ht
  simp only at h1 h2 h3
  have h' : okM a s i j sd q p := hok
  have hm := tame_prod h'.2.2.1.1 h2 h'.2.2.2.1 h3
  have hlt : plc s i j sd + 1 < a * s * 4 := plx_lt hok
  unfold mvx mvS mvF
  simp only
  rw [if_pos h', if_pos hok, if_pos (by omega)]
  have g0 := bnd_get hb k0 (plc s i j sd)
  have g1 := bnd_get hb k0 (plc s i j sd + 1)
  show (match plusS ((addAt L (plc s i j sd) q (q * p)).getD (plc s i j sd) 0) ((addAt L (plc s i j sd) q (q * p)).getD (plc s i j sd + 1) 0) (sgB true q) (sgB true (q * p)) with
    | some (x, y) => ((0 : Int), ((addAt L (plc s i j sd) q (q * p)).set (plc s i j sd) x).set (plc s i j sd + 1) y)
    | none => (10, addAt L (plc s i j sd) q (q * p))) = (0, L)
  generalize plc s i j sd = o at *
  rw [addAt_get _ _ _ _ _ (by omega), addAt_get _ _ _ _ _ (by omega), if_pos rfl, if_neg (by omega), if_pos rfl]
  have hp : plusS (L.getD o 0 + q) (L.getD (o + 1) 0 + q * p) (sgB true q) (sgB true (q * p)) = some (L.getD o 0, L.getD (o + 1) 0) := by
    unfold plusS sgB
    simp only [if_true]
    rw [if_pos (by omega)]
    congr 2 <;> omega
  rw [hp]
  simp only
  congr 1
  apply ext_getD (by simp [addAt_len])
  intro m
  rw [getD_set _ _ _ _ (by simp [addAt_len]; omega), getD_set _ _ _ _ (by rw [addAt_len]; omega), addAt_get _ _ _ _ _ (by omega)]
  by_cases e1 : m = o + 1
  · rw [if_pos e1, e1]
  · rw [if_neg e1]
    by_cases e2 : m = o
    · rw [if_pos e2, e2]
    · rw [if_neg e2, if_neg e2, if_neg e1]; omega
theorem mv_no {a s : Nat} {L : List Int} {x : Ex} (h : ¬ okx a s x) : mvx a s L x = (2, L) := by unfold mvx mvS; exact if_neg h
theorem bnd_in {k : Int} {L : List Int} (h : bndP k L) (k1 : k ≤ 1000) : inP L := fun y hy => by have := h y hy; omega
theorem fold_bnd (a s : Nat) : ∀ (l : List Ex) (k : Int) (L : List Int), (∀ x ∈ l, tame x) → L.length = a * s * 4 → bndP k L → 0 ≤ k → k + l.length ≤ 1000 → bndP (k + l.length) (l.foldl (mvF a s) L) := by
  intro l
  induction l with
  | nil => intro k L _ _ hb _ _; simpa using hb
  | cons x l ih =>
    intro k L ht hL hb k0 k1
    rw [List.foldl_cons, List.length_cons]
    have := ih (k + 1) (mvF a s L x) (fun y hy => ht y (by simp [hy])) (by rw [mvF_len]; exact hL) (mv_tame (ht x (by simp)) hL hb k0 (by simp at k1; omega)).2 (by omega) (by simp at k1; omega)
    rw [show k + 1 + (l.length : Int) = k + ((l.length + 1 : Nat) : Int) by omega] at this
    exact this
end Go.Proofs.Ytenlifjfehnldaa.PL
