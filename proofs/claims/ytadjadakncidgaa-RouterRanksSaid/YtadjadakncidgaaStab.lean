/- Stable insertion of lists: the plain words of a stable sort and of a stable merge. -/
import Derived.Sort.Defs
import Derived.Sort.WalkA
set_option linter.unusedVariables false
set_option linter.unusedSimpArgs false
namespace Go.Proofs.Ytadjadakncidgaa.St
open Go Go.Sort
theorem snoc_ind {α : Type} {p : List α → Prop} (h0 : p []) (h1 : ∀ l x, p l → p (l ++ [x])) (l : List α) : p l := by
  have h : ∀ r : List α, p r.reverse := by
    intro r
    induction r with
    | nil => exact h0
    | cons x r ih => rw [List.reverse_cons]; exact h1 _ _ ih
  simpa using h l.reverse
section
variable {α : Type} (lt : α → α → Bool)
/-- x put into a row that is told from its end: behind all that it does not stand ahead of. -/
def insR (x : α) : List α → List α
  | [] => [x]
  | y :: r => if lt x y = true then y :: insR x r else x :: y :: r
/-- x put into a row: from the end it goes ahead of all that it stands ahead of. -/
def insB (x : α) (l : List α) : List α := (insR lt x l.reverse).reverse
/-- All of r put into l, one by one. -/
def mergeS (l r : List α) : List α := r.foldl (fun acc x => insB lt x acc) l
def isortB (l : List α) : List α := mergeS lt [] l
theorem insB_nil (x : α) : insB lt x [] = [x] := rfl
theorem insB_snoc (x y : α) (l : List α) : insB lt x (l ++ [y]) = if lt x y = true then insB lt x l ++ [y] else l ++ [y, x] := by
  unfold insB
  rw [List.reverse_append]
  have e : insR lt x (y :: l.reverse) = if lt x y = true then y :: insR lt x l.reverse else x :: y :: l.reverse := rfl
  show (insR lt x (y :: l.reverse)).reverse = _
  rw [e]
  split
  · rw [List.reverse_cons]
  · simp
theorem insB_perm (x : α) (l : List α) : (insB lt x l).Perm (x :: l) := by
  have h : ∀ r : List α, (insR lt x r).Perm (x :: r) := by
    intro r
    induction r with
    | nil => exact List.Perm.refl _
    | cons y r ih =>
      unfold insR
      split
      · exact (List.Perm.cons y ih).trans (List.Perm.swap x y r)
      · exact List.Perm.refl _
  unfold insB
  exact (List.reverse_perm _).trans ((h _).trans (List.Perm.cons x (List.reverse_perm l)))
theorem insB_length (x : α) (l : List α) : (insB lt x l).length = l.length + 1 := by rw [(insB_perm lt x l).length_eq, List.length_cons]
theorem insB_mem (x y : α) (l : List α) : y ∈ insB lt x l ↔ y = x ∨ y ∈ l := by rw [(insB_perm lt x l).mem_iff, List.mem_cons]
theorem mergeS_nil (l : List α) : mergeS lt l [] = l := rfl
theorem mergeS_cons (l r : List α) (x : α) : mergeS lt l (x :: r) = mergeS lt (insB lt x l) r := rfl
theorem mergeS_append (l r s : List α) : mergeS lt l (r ++ s) = mergeS lt (mergeS lt l r) s := by unfold mergeS; rw [List.foldl_append]
theorem mergeS_snoc (l r : List α) (x : α) : mergeS lt l (r ++ [x]) = insB lt x (mergeS lt l r) := by rw [mergeS_append]; rfl
theorem mergeS_perm (l r : List α) : (mergeS lt l r).Perm (l ++ r) := by
  induction r generalizing l with
  | nil => rw [mergeS_nil, List.append_nil]
  | cons x r ih =>
    rw [mergeS_cons]
    refine (ih _).trans ((List.Perm.append_right r (insB_perm lt x l)).trans ?_)
    exact List.perm_middle.symm
theorem mergeS_length (l r : List α) : (mergeS lt l r).length = l.length + r.length := by rw [(mergeS_perm lt l r).length_eq, List.length_append]
theorem mergeS_mem (l r : List α) (y : α) : y ∈ mergeS lt l r ↔ y ∈ l ∨ y ∈ r := by rw [(mergeS_perm lt l r).mem_iff, List.mem_append]
theorem isortB_append (l r : List α) : isortB lt (l ++ r) = mergeS lt (isortB lt l) r := mergeS_append lt [] l r
theorem isortB_snoc (l : List α) (x : α) : isortB lt (l ++ [x]) = insB lt x (isortB lt l) := isortB_append lt l [x]
theorem isortB_perm (l : List α) : (isortB lt l).Perm l := mergeS_perm lt [] l
theorem isortB_length (l : List α) : (isortB lt l).length = l.length := (isortB_perm lt l).length_eq
/-- Ahead of all of s: it is put in ahead of s. -/
theorem insB_left (x : α) (l s : List α) : (∀ y ∈ s, lt x y = true) → insB lt x (l ++ s) = insB lt x l ++ s := by
  refine snoc_ind (p := fun s => (∀ y ∈ s, lt x y = true) → insB lt x (l ++ s) = insB lt x l ++ s) (fun _ => by simp) ?_ s
  intro s y ih h
  rw [← List.append_assoc, insB_snoc, if_pos (h y (by simp)), ih (fun z hz => h z (by simp [hz])), List.append_assoc]
/-- Ahead of none of l: it is put in behind l. -/
theorem insB_right (x : α) (l s : List α) (h : ∀ y ∈ l, lt x y = false) : insB lt x (l ++ s) = l ++ insB lt x s := by
  refine snoc_ind (p := fun s => insB lt x (l ++ s) = l ++ insB lt x s) ?_ ?_ s
  · rw [List.append_nil, insB_nil]
    revert h
    refine snoc_ind (p := fun l => (∀ y ∈ l, lt x y = false) → insB lt x l = l ++ [x]) (fun _ => rfl) ?_ l
    intro l y _ h
    rw [insB_snoc, if_neg (by rw [h y (by simp)]; simp)]
    simp
  · intro s y ih
    rw [← List.append_assoc, insB_snoc, insB_snoc, ih]
    split <;> simp
theorem mergeS_right (X Y B : List α) (h : ∀ b ∈ B, ∀ x ∈ X, lt b x = false) : mergeS lt (X ++ Y) B = X ++ mergeS lt Y B := by
  induction B generalizing Y with
  | nil => rfl
  | cons b B ih => rw [mergeS_cons, mergeS_cons, insB_right lt b X Y (fun y hy => h b (by simp) y hy), ih _ (fun b' hb => h b' (by simp [hb]))]
theorem mergeS_left (X Y B : List α) (h : ∀ b ∈ B, ∀ y ∈ Y, lt b y = true) : mergeS lt (X ++ Y) B = mergeS lt X B ++ Y := by
  induction B generalizing X with
  | nil => rfl
  | cons b B ih => rw [mergeS_cons, mergeS_cons, insB_left lt b X Y (fun y hy => h b (by simp) y hy), ih _ (fun b' hb => h b' (by simp [hb]))]
def Srt (l : List α) : Prop := l.Pairwise fun x y => lt y x = false
theorem mergeS_none (B : List α) : Srt lt B → mergeS lt [] B = B := by
  refine snoc_ind (p := fun B => Srt lt B → mergeS lt [] B = B) (fun _ => rfl) ?_ B
  intro B x ih h
  unfold Srt at h
  rw [List.pairwise_append] at h
  rw [mergeS_snoc, ih h.1]
  have := insB_right lt x B [] (fun y hy => h.2.2 y hy x (by simp))
  rw [List.append_nil] at this
  exact this
theorem merge_split (A1 A2 B1 B2 : List α) (h1 : ∀ b ∈ B1, ∀ y ∈ A2, lt b y = true) (h2 : ∀ b ∈ B2, ∀ x ∈ A1, lt b x = false) (h3 : ∀ b ∈ B2, ∀ x ∈ B1, lt b x = false) :
    mergeS lt (A1 ++ A2) (B1 ++ B2) = mergeS lt A1 B1 ++ mergeS lt A2 B2 := by
  rw [mergeS_append, mergeS_left lt A1 A2 B1 h1, mergeS_right]
  intro b hb x hx
  rcases (mergeS_mem lt A1 B1 x).1 hx with h | h
  · exact h2 b hb x h
  · exact h3 b hb x h
/-- A strict weak order. -/
structure WO : Prop where
  asym : ∀ x y, lt x y = true → lt y x = false
  neg : ∀ x y z, lt y x = false → lt z y = false → lt z x = false
variable {lt}
theorem WO.pos (O : WO lt) {x y z : α} (h : lt x y = true) (k : lt z y = false) : lt x z = true := by
  cases e : lt x z with
  | true => rfl
  | false => rw [O.neg y z x k e] at h; cases h
theorem WO.tr (O : WO lt) {x y z : α} (h : lt x y = true) (k : lt y z = true) : lt x z = true := O.pos h (O.asym _ _ k)
theorem WO.irr (O : WO lt) (x : α) : lt x x = false := by
  cases e : lt x x with
  | false => rfl
  | true => rw [O.asym x x e] at e; cases e
theorem insB_comm (O : WO lt) {x q : α} (h : lt x q = true) (l : List α) : insB lt q (insB lt x l) = insB lt x (insB lt q l) := by
  refine snoc_ind (p := fun l => insB lt q (insB lt x l) = insB lt x (insB lt q l)) ?_ ?_ l
  · rw [insB_nil, insB_nil]
    have e1 := insB_snoc lt q x []
    have e2 := insB_snoc lt x q []
    rw [List.nil_append] at e1 e2
    rw [e1, e2, if_pos h, if_neg (by rw [O.asym _ _ h]; simp), insB_nil]
    rfl
  · intro l y ih
    cases hq : lt q y with
    | true =>
      have hx := O.tr h hq
      rw [insB_snoc, if_pos hx, insB_snoc, if_pos hq, ih, insB_snoc, if_pos hq, insB_snoc, if_pos hx]
    | false =>
      have hn : ¬ lt q y = true := by rw [hq]; simp
      rw [insB_snoc lt q y l, if_neg hn, show l ++ [y, q] = (l ++ [y]) ++ [q] by simp, insB_snoc lt x q, if_pos h, insB_snoc lt x y]
      cases hx : lt x y with
      | true => rw [if_pos rfl, insB_snoc, if_neg hn]; simp
      | false =>
        rw [if_neg (by simp), show l ++ [y, x] = (l ++ [y]) ++ [x] by simp, insB_snoc, if_neg (by rw [O.asym _ _ h]; simp)]
        simp
theorem mergeS_insB (O : WO lt) (x : α) (L M : List α) : mergeS lt L (insB lt x M) = insB lt x (mergeS lt L M) := by
  refine snoc_ind (p := fun M => mergeS lt L (insB lt x M) = insB lt x (mergeS lt L M)) rfl ?_ M
  intro M y ih
  cases h : lt x y with
  | true => rw [insB_snoc, if_pos h, mergeS_snoc, ih, mergeS_snoc, insB_comm O h]
  | false => rw [insB_snoc, if_neg (by rw [h]; simp), show M ++ [y, x] = (M ++ [y]) ++ [x] by simp, mergeS_snoc]
/-- A row that is sorted may be put in in place of the row as it was. -/
theorem mergeS_isort (O : WO lt) (L B : List α) : mergeS lt L (isortB lt B) = mergeS lt L B := by
  refine snoc_ind (p := fun B => mergeS lt L (isortB lt B) = mergeS lt L B) rfl ?_ B
  intro B x ih
  rw [isortB_snoc, mergeS_insB O, ih, mergeS_snoc]
theorem insB_srt (O : WO lt) (x : α) (L : List α) : Srt lt L → Srt lt (insB lt x L) := by
  refine snoc_ind (p := fun L => Srt lt L → Srt lt (insB lt x L)) (fun _ => by simp [Srt, insB_nil]) ?_ L
  intro L y ih h
  unfold Srt at h
  rw [List.pairwise_append] at h
  have hy : ∀ z ∈ L, lt y z = false := fun z hz => h.2.2 z hz y (by simp)
  cases hx : lt x y with
  | true =>
    rw [insB_snoc, if_pos hx]
    unfold Srt
    rw [List.pairwise_append]
    refine ⟨ih h.1, by simp, fun z hz w hw => ?_⟩
    obtain rfl : w = y := by simpa using hw
    rcases (insB_mem lt x z L).1 hz with rfl | hz
    · exact O.asym _ _ hx
    · exact hy z hz
  | false =>
    rw [insB_snoc, if_neg (by rw [hx]; simp), show L ++ [y, x] = (L ++ [y]) ++ [x] by simp]
    unfold Srt
    rw [List.pairwise_append]
    refine ⟨by rw [List.pairwise_append]; exact h, by simp, fun z hz w hw => ?_⟩
    obtain rfl : w = x := by simpa using hw
    rcases List.mem_append.1 hz with hz | hz
    · exact O.neg z y w (hy z hz) hx
    · obtain rfl : z = y := by simpa using hz
      exact hx
theorem mergeS_srt (O : WO lt) (L M : List α) (h : Srt lt L) : Srt lt (mergeS lt L M) := by
  induction M generalizing L with
  | nil => exact h
  | cons x M ih => exact ih _ (insB_srt O x L h)
theorem isortB_srt (O : WO lt) (L : List α) : Srt lt (isortB lt L) := mergeS_srt O [] L List.Pairwise.nil
end
section
variable {α : Type} [Inhabited α] (lt : α → α → Bool)
theorem arr_at (P R : List α) (x : α) : (P ++ x :: R).toArray[P.length]! = x := by
  simp [getElem!_def, List.getElem?_append_right]
theorem swp_next (P R : List α) (x y : α) : swp (P ++ y :: x :: R).toArray (P.length + 1) P.length = (P ++ x :: y :: R).toArray := by
  unfold swp
  have e1 : (P ++ y :: x :: R).toArray[P.length]! = y := arr_at P (x :: R) y
  have e2 : (P ++ y :: x :: R).toArray[P.length + 1]! = x := by
    have := arr_at (P ++ [y]) R x
    rwa [show P ++ [y] ++ x :: R = P ++ y :: x :: R by simp, show (P ++ [y]).length = P.length + 1 by simp] at this
  rw [e1, e2]
  apply Array.ext'
  simp only [List.setIfInBounds_toArray]
  rw [List.set_append_right _ _ (by omega), show P.length + 1 - P.length = 1 by omega]
  simp
theorem insInner_is (P T R : List α) (x : α) : insInner lt P.length (P.length + T.length) (P ++ T ++ x :: R).toArray = (P ++ insB lt x T ++ R).toArray := by
  revert R
  refine snoc_ind (p := fun T => ∀ R, insInner lt P.length (P.length + T.length) (P ++ T ++ x :: R).toArray = (P ++ insB lt x T ++ R).toArray) ?_ ?_ T
  · intro R
    rw [insInner_stop _ _ _ _ (.inl (by simp))]
    simp [insB_nil]
  · intro T y ih R
    have el : P.length + (T ++ [y]).length = (P ++ T).length + 1 := by simp; omega
    have e0 : P ++ (T ++ [y]) ++ x :: R = (P ++ T) ++ y :: x :: R := by simp
    rw [el, e0]
    have e1 : ((P ++ T) ++ y :: x :: R).toArray[(P ++ T).length]! = y := arr_at (P ++ T) (x :: R) y
    have e2 : ((P ++ T) ++ y :: x :: R).toArray[(P ++ T).length + 1]! = x := by
      have := arr_at (P ++ T ++ [y]) R x
      rwa [show P ++ T ++ [y] ++ x :: R = P ++ T ++ y :: x :: R by simp, show (P ++ T ++ [y]).length = (P ++ T).length + 1 by simp; omega] at this
    cases h : lt x y with
    | true =>
      rw [insInner_go lt P.length ((P ++ T).length + 1) _ (by simp; omega) (by rw [e2, Nat.add_sub_cancel, e1]; exact h), Nat.add_sub_cancel, swp_next, insB_snoc, if_pos h]
      have := ih (y :: R)
      rw [show (P ++ T).length = P.length + T.length by simp, this]
      simp
    | false =>
      rw [insInner_stop lt _ _ _ (.inr (by rw [e2, Nat.add_sub_cancel, e1]; exact h)), insB_snoc, if_neg (by rw [h]; simp)]
      simp
theorem insOuter_is (P R : List α) (S : List α) : ∀ T : List α, insOuter lt P.length (P.length + T.length + S.length) (P.length + T.length) (P ++ T ++ S ++ R).toArray = (P ++ mergeS lt T S ++ R).toArray := by
  induction S with
  | nil => intro T; rw [insOuter_stop _ _ _ _ _ (by simp)]; simp [mergeS_nil]
  | cons x S ih =>
    intro T
    rw [insOuter_go _ _ _ _ _ (by simp)]
    have h := insInner_is lt P T (S ++ R) x
    rw [show P ++ T ++ x :: S ++ R = P ++ T ++ x :: (S ++ R) by simp, h, mergeS_cons]
    have := ih (insB lt x T)
    rw [insB_length] at this
    rw [show P.length + T.length + (x :: S).length = P.length + (T.length + 1) + S.length by simp; omega, show P.length + T.length + 1 = P.length + (T.length + 1) by omega, show P ++ insB lt x T ++ (S ++ R) = P ++ insB lt x T ++ S ++ R by simp]
    exact this
theorem insertion_is (P S R : List α) : insertionSort lt (P ++ S ++ R).toArray P.length (P.length + S.length) = (P ++ isortB lt S ++ R).toArray := by
  unfold insertionSort
  cases S with
  | nil => rw [insOuter_stop _ _ _ _ _ (by simp)]; simp [isortB, mergeS_nil]
  | cons x S =>
    have := insOuter_is lt P R S [x]
    rw [show P.length + (x :: S).length = P.length + [x].length + S.length by simp; omega, show P.length + 1 = P.length + [x].length by simp, show P ++ x :: S ++ R = P ++ [x] ++ S ++ R by simp, this]
    unfold isortB
    rw [mergeS_cons]
    rfl
end
end Go.Proofs.Ytadjadakncidgaa.St
