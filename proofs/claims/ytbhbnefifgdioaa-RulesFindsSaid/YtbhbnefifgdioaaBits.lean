/- Bits of natural numbers, the lowest first: a list's number, a number's list. No program in sight. -/
set_option linter.unusedVariables false
set_option linter.unusedSimpArgs false
namespace Bl
/-- The number of a list of nbits, the lowest first. -/
def val : List Bool → Nat
  | [] => 0
  | b :: l => b.toNat + 2 * val l
/-- The nbits of a number, none above the highest. -/
def nbits (n : Nat) : List Bool := if h : n = 0 then [] else (n % 2 == 1) :: nbits (n / 2)
termination_by n
decreasing_by omega
/-- Nothing above the highest bit. -/
def Tr (l : List Bool) : Prop := l.getLast? ≠ some false

theorem val_append (a b : List Bool) : val (a ++ b) = val a + 2 ^ a.length * val b := by
  induction a with
  | nil => simp [val]
  | cons x a ih => simp only [List.cons_append, val, ih, List.length_cons, Nat.pow_succ]; grind
theorem val_lt (l : List Bool) : val l < 2 ^ l.length := by
  induction l with
  | nil => simp [val]
  | cons x a ih => simp only [val, List.length_cons, Nat.pow_succ]; cases x <;> simp <;> omega
theorem bits_zero : nbits 0 = [] := by unfold nbits; simp
theorem bits_pos {n : Nat} (h : n ≠ 0) : nbits n = (n % 2 == 1) :: nbits (n / 2) := by rw [nbits]; simp [h]
theorem val_bits (n : Nat) : val (nbits n) = n := by
  induction n using Nat.strongRecOn with
  | _ n ih =>
    by_cases h : n = 0
    · subst h; simp [bits_zero, val]
    · rw [bits_pos h, val, ih (n / 2) (by omega)]
      rcases Nat.mod_two_eq_zero_or_one n with e | e <;> simp [e] <;> omega
theorem bits_eq_nil {n : Nat} : nbits n = [] ↔ n = 0 := by
  constructor
  · intro h; have := val_bits n; rw [h] at this; simpa [val] using this.symm
  · intro h; subst h; exact bits_zero
theorem bits_val {l : List Bool} (h : Tr l) : nbits (val l) = l := by
  induction l with
  | nil => simp [val, bits_zero]
  | cons x l ih =>
    have hl : Tr l := by
      unfold Tr at *; rw [List.getLast?_cons] at h
      intro hc; rw [hc] at h; simp at h
    have hz : val (x :: l) ≠ 0 := by
      intro hz
      cases l with
      | nil => cases x <;> simp [val] at hz; simp [Tr] at h
      | cons y l =>
        have h0 : val (y :: l) = 0 := by simp only [val] at hz ⊢; omega
        have := ih hl; rw [h0, bits_zero] at this; exact absurd this (by simp)
    rw [bits_pos hz]
    have e : val (x :: l) / 2 = val l := by cases x <;> simp [val] <;> omega
    rw [e, ih hl]
    cases x <;> simp [val] <;> omega
theorem bits_len_le {n m : Nat} (h : n < 2 ^ m) : (nbits n).length ≤ m := by
  induction m generalizing n with
  | zero => have : n = 0 := by simpa using h
            subst this; simp [bits_zero]
  | succ m ih =>
    by_cases hn : n = 0
    · subst hn; simp [bits_zero]
    · rw [bits_pos hn, List.length_cons]
      have := ih (n := n / 2) (by rw [Nat.pow_succ] at h; omega)
      omega
/-- A bit, and none above the end. -/
def bit (l : List Bool) (i : Nat) : Bool := l.getD i false
theorem bit_lt {l : List Bool} {i : Nat} (h : i < l.length) : bit l i = l[i] := by simp [bit, h]
theorem bit_ge {l : List Bool} {i : Nat} (h : l.length ≤ i) : bit l i = false := by simp [bit, List.getElem?_eq_none h]
theorem val_take_succ (l : List Bool) (i : Nat) : val (l.take (i + 1)) = val (l.take i) + (bit l i).toNat * 2 ^ i := by
  by_cases h : i < l.length
  · rw [List.take_succ_eq_append_getElem h, val_append, bit_lt h]
    have : (l.take i).length = i := by rw [List.length_take]; omega
    rw [this]; cases l[i] <;> simp [val]
  · rw [List.take_of_length_le (by omega), List.take_of_length_le (by omega), bit_ge (by omega)]; simp
theorem val_drop (l : List Bool) (i : Nat) : val (l.drop i) = (bit l i).toNat + 2 * val (l.drop (i + 1)) := by
  by_cases h : i < l.length
  · rw [List.drop_eq_getElem_cons h, val, bit_lt h]
  · rw [List.drop_of_length_le (by omega), List.drop_of_length_le (by omega), bit_ge (by omega)]; simp [val]
theorem val_take_all {l : List Bool} {i : Nat} (h : l.length ≤ i) : l.take i = l := List.take_of_length_le h
theorem val_split (l : List Bool) (i : Nat) : val l = val (l.take i) + 2 ^ i * val (l.drop i) := by
  by_cases h : i ≤ l.length
  · have := val_append (l.take i) (l.drop i)
    rw [List.take_append_drop, List.length_take, Nat.min_eq_left h] at this; exact this
  · rw [List.take_of_length_le (by omega), List.drop_of_length_le (by omega)]; simp [val]
theorem val_snoc (l : List Bool) (b : Bool) : val (l ++ [b]) = val l + b.toNat * 2 ^ l.length := by
  rw [val_append]; cases b <;> simp [val]
end Bl
