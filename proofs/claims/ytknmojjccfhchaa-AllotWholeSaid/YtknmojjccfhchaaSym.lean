/- Go's stable sort behind its insertions, plainly: the exchange of two ranges, moves by one, the rows of sorted blocks. -/
import Derived.Test.YtknmojjccfhchaaStab
set_option linter.unusedVariables false
set_option linter.unusedSimpArgs false
namespace Go.Proofs.Ytknmojjccfhchaa.St
open Go Go.Sort
section
variable {α : Type} [Inhabited α] (lt : α → α → Bool)
theorem swp_far (P Q S : List α) (x y : α) : swp (P ++ x :: Q ++ y :: S).toArray P.length (P.length + 1 + Q.length) = (P ++ y :: Q ++ x :: S).toArray := by
  unfold swp
  have e1 : (P ++ x :: Q ++ y :: S).toArray[P.length]! = x := by
    have := arr_at P (Q ++ y :: S) x
    rwa [show P ++ x :: (Q ++ y :: S) = P ++ x :: Q ++ y :: S by simp] at this
  have e2 : (P ++ x :: Q ++ y :: S).toArray[P.length + 1 + Q.length]! = y := by
    have := arr_at (P ++ x :: Q) S y
    rwa [show (P ++ x :: Q).length = P.length + 1 + Q.length by simp; omega] at this
  rw [e1, e2]
  apply Array.ext'
  simp only [List.setIfInBounds_toArray]
  rw [List.append_assoc, List.set_append_right _ _ (by omega), Nat.sub_self, List.cons_append, List.set_cons_zero, List.set_append_right _ _ (by omega), show P.length + 1 + Q.length - P.length = Q.length + 1 by omega, List.set_cons_succ, List.set_append_right _ _ (by omega), Nat.sub_self, List.set_cons_zero]
  simp
theorem swp_adj (P S : List α) (x y : α) : swp (P ++ x :: y :: S).toArray P.length (P.length + 1) = (P ++ y :: x :: S).toArray := by
  have := swp_far P [] S x y
  simpa using this
/-- Two ranges of n are exchanged. -/
def swpN : Nat → Nat → Nat → Array α → Array α
  | 0, _, _, d => d
  | n + 1, a, b, d => swpN n (a + 1) (b + 1) (swp d a b)
theorem swpN_is (X : List α) : ∀ (P Q Y S : List α), X.length = Y.length → swpN X.length P.length (P.length + X.length + Q.length) (P ++ X ++ Q ++ Y ++ S).toArray = (P ++ Y ++ Q ++ X ++ S).toArray := by
  induction X with
  | nil =>
    intro P Q Y S h
    obtain rfl : Y = [] := List.length_eq_zero_iff.1 h.symm
    rfl
  | cons x X ih =>
    intro P Q Y S h
    cases Y with
    | nil => simp at h
    | cons y Y =>
      have h : X.length = Y.length := by simpa using h
      show swpN (X.length + 1) _ _ _ = _
      rw [swpN]
      have e := swp_far P (X ++ Q) (Y ++ S) x y
      rw [show P.length + 1 + (X ++ Q).length = P.length + (x :: X).length + Q.length by simp; omega, show P ++ x :: (X ++ Q) ++ y :: (Y ++ S) = P ++ x :: X ++ Q ++ y :: Y ++ S by simp, show P ++ y :: (X ++ Q) ++ x :: (Y ++ S) = (P ++ [y]) ++ X ++ (Q ++ [x]) ++ Y ++ S by simp] at e
      rw [e]
      have := ih (P ++ [y]) (Q ++ [x]) Y S h
      rw [show (P ++ [y]).length = P.length + 1 by simp, show P.length + 1 + X.length + (Q ++ [x]).length = P.length + (x :: X).length + Q.length + 1 by simp; omega] at this
      rw [this]
      simp
theorem size_swpN : ∀ (n a b : Nat) (d : Array α), (swpN n a b d).size = d.size
  | 0, _, _, _ => rfl
  | n + 1, a, b, d => by rw [swpN, size_swpN n, size_swp]
/-- One is moved n places on. -/
def shR : Nat → Nat → Array α → Array α
  | 0, _, d => d
  | n + 1, a, d => shR n (a + 1) (swp d a (a + 1))
theorem shR_is (X : List α) : ∀ (P S : List α) (x : α), shR X.length P.length (P ++ x :: X ++ S).toArray = (P ++ X ++ x :: S).toArray := by
  induction X with
  | nil => intro P S x; simp [shR]
  | cons y X ih =>
    intro P S x
    show shR (X.length + 1) _ _ = _
    rw [shR]
    have e := swp_adj P (X ++ S) x y
    rw [show P ++ x :: (y :: X) ++ S = P ++ x :: y :: (X ++ S) by simp, e]
    have := ih (P ++ [y]) S x
    rw [show (P ++ [y]).length = P.length + 1 by simp, show P ++ [y] ++ x :: X ++ S = P ++ y :: x :: (X ++ S) by simp] at this
    rw [this]; simp
theorem size_shR : ∀ (n a : Nat) (d : Array α), (shR n a d).size = d.size
  | 0, _, _ => rfl
  | n + 1, a, d => by rw [shR, size_shR n, size_swp]
/-- One is moved n places back. -/
def shL : Nat → Nat → Array α → Array α
  | 0, _, d => d
  | n + 1, k, d => shL n (k - 1) (swp d k (k - 1))
theorem shL_is (X : List α) : ∀ (P S : List α) (y : α), shL X.length (P.length + X.length) (P ++ X ++ y :: S).toArray = (P ++ y :: X ++ S).toArray := by
  refine snoc_ind (p := fun X => ∀ (P S : List α) (y : α), shL X.length (P.length + X.length) (P ++ X ++ y :: S).toArray = (P ++ y :: X ++ S).toArray) ?_ ?_ X
  · intro P S y; simp [shL]
  · intro X x ih P S y
    rw [show (X ++ [x]).length = X.length + 1 by simp, shL]
    have e := swp_next (P ++ X) S y x
    rw [show (P ++ X).length = P.length + X.length by simp, show P ++ X ++ x :: y :: S = P ++ (X ++ [x]) ++ y :: S by simp] at e
    rw [show P.length + (X.length + 1) = P.length + X.length + 1 by omega, Nat.add_sub_cancel, e, ih P (x :: S) y]
    simp
theorem size_shL : ∀ (n k : Nat) (d : Array α), (shL n k d).size = d.size
  | 0, _, _ => rfl
  | n + 1, k, d => by rw [shL, size_shL n, size_swp]
theorem arr_at2 (P X R : List α) (i : Nat) (hi : i < X.length) : (P ++ X ++ R).toArray[P.length + i]! = X[i] := by
  simp [getElem!_def, List.getElem?_append_right, List.getElem?_append_left hi, List.getElem?_eq_getElem hi]
end
section
variable {α : Type} (lt : α → α → Bool)
/-- One ahead of a sorted row. -/
theorem merge_one (x : α) (B1 B2 : List α) (hs : Srt lt (B1 ++ B2)) (h1 : ∀ b ∈ B1, lt b x = true) (h2 : ∀ b ∈ B2, lt b x = false) : mergeS lt [x] (B1 ++ B2) = B1 ++ x :: B2 := by
  unfold Srt at hs
  rw [List.pairwise_append] at hs
  have e := merge_split lt [] [x] B1 B2 (fun b hb y hy => (List.mem_singleton.1 hy) ▸ h1 b hb) (fun b hb y hy => by cases hy) (fun b hb y hy => hs.2.2 y hy b hb)
  have e2 := mergeS_right lt [x] [] B2 (fun b hb y hy => (List.mem_singleton.1 hy) ▸ h2 b hb)
  rw [List.nil_append] at e
  rw [List.append_nil] at e2
  rw [e, e2, mergeS_none lt B1 hs.1, mergeS_none lt B2 hs.2.1]
  rfl
/-- One behind a sorted row. -/
theorem merge_last (y : α) (A1 A2 : List α) (h1 : ∀ a ∈ A1, lt y a = false) (h2 : ∀ a ∈ A2, lt y a = true) : mergeS lt (A1 ++ A2) [y] = A1 ++ y :: A2 := by
  rw [mergeS_right lt A1 A2 [y] (fun b hb x hx => (List.mem_singleton.1 hb) ▸ h1 x hx)]
  have := mergeS_left lt [] A2 [y] (fun b hb x hx => (List.mem_singleton.1 hb) ▸ h2 x hx)
  rw [List.nil_append] at this
  rw [this]
  rfl
/-- Rows of sorted blocks: all of them whole. -/
inductive PS (n : Nat) : List α → List α → Prop
  | nil : PS n [] []
  | snoc {l r : List α} (x : List α) : PS n l r → x.length = n → PS n (l ++ x) (r ++ isortB lt x)
/-- Rows of sorted blocks: the last one may be short. -/
inductive CS (n : Nat) : List α → List α → Prop
  | last (l : List α) : l.length ≤ n → CS n l (isortB lt l)
  | more {l r : List α} (x : List α) : x.length = n → CS n l r → CS n (x ++ l) (isortB lt x ++ r)
variable {lt}
theorem CS.len {n : Nat} {l r : List α} (h : CS lt n l r) : r.length = l.length := by
  induction h with
  | last l _ => exact isortB_length lt l
  | more x _ _ ih => rw [List.length_append, List.length_append, ih, isortB_length]
theorem PS.len {n : Nat} {l r : List α} (h : PS lt n l r) : r.length = l.length := by
  induction h with
  | nil => rfl
  | snoc x _ _ ih => rw [List.length_append, List.length_append, ih, isortB_length]
theorem PS.join {n : Nat} {l r : List α} (h : PS lt n l r) : ∀ {l' r' : List α}, CS lt n l' r' → CS lt n (l ++ l') (r ++ r') := by
  induction h with
  | nil => intro l' r' h; exact h
  | snoc x _ hx ih =>
    intro l' r' h'
    rw [List.append_assoc, List.append_assoc]
    exact ih (.more x hx h')
theorem isortB_nil : isortB lt ([] : List α) = [] := rfl
/-- No more than one block. -/
theorem CS.short {n : Nat} {l r : List α} (h : CS lt n l r) (hl : l.length ≤ n) : r = isortB lt l := by
  cases h with
  | last => rfl
  | more x hx h2 =>
    rw [List.length_append] at hl
    have h0 := h2.len
    rename_i l2 r2
    obtain rfl : l2 = [] := List.length_eq_zero_iff.1 (by omega)
    obtain rfl : r2 = [] := List.length_eq_zero_iff.1 h0
    simp
/-- More than one block. -/
theorem CS.split {n : Nat} {l r : List α} (h : CS lt n l r) (hl : n < l.length) : ∃ x l2 r2, l = x ++ l2 ∧ r = isortB lt x ++ r2 ∧ x.length = n ∧ CS lt n l2 r2 := by
  cases h with
  | last _ hn => omega
  | more x hx h2 => exact ⟨x, _, _, rfl, rfl, hx, h2⟩
/-- Two whole blocks ahead. -/
theorem CS.two {n : Nat} {l r : List α} (h : CS lt n l r) (hn : 0 < n) (hl : 2 * n ≤ l.length) : ∃ x y l2 r2, l = x ++ y ++ l2 ∧ r = isortB lt x ++ isortB lt y ++ r2 ∧ x.length = n ∧ y.length = n ∧ CS lt n l2 r2 := by
  obtain ⟨x, l2, r2, rfl, rfl, hx, h2⟩ := h.split (by omega)
  rw [List.length_append] at hl
  by_cases e : l2.length = n
  · refine ⟨x, l2, [], [], by simp, ?_, hx, e, CS.last [] (Nat.zero_le _)⟩
    rw [h2.short (by omega)]; simp
  · obtain ⟨y, l3, r3, rfl, rfl, hy, h3⟩ := h2.split (by omega)
    exact ⟨x, y, l3, r3, by simp, by simp, hx, hy, h3⟩
theorem merge_blocks (O : WO lt) (x y : List α) : mergeS lt (isortB lt x) (isortB lt y) = isortB lt (x ++ y) := by
  rw [mergeS_isort O, isortB_append]
end
end Go.Proofs.Ytknmojjccfhchaa.St
