/- Bits of natural numbers; what the reference's functions on bits (spigotref01) and math/bits.Div64 tell, as numbers. -/
import Derived.Test.YtbhbnefifgdioaaRx0
import Derived.Test.YtbhbnefifgdioaaRx1
import Derived.Test.YtbhbnefifgdioaaRx2
import Derived.Test.YtbhbnefifgdioaaBits
import Derived.Laws.Bits64b


/- What the reference's functions on nbits (spigotref01) tell, as numbers. -/
set_option linter.unusedVariables false
set_option linter.unusedSimpArgs false
namespace Go.Proofs.Ytbhbnefifgdioaa.RL
open Go Go.RowKit Go.Proofs.YtbhbnefifgdioaaW.PrintWords Go.Proofs.YtbhbnefifgdioaaW.PrintMore Bl Go.Proofs.Ytbhbnefifgdioaa.R Go.Proofs.Ytbhbnefifgdioaa.Hand

theorem w64 {n : Int} (h0 : -9223372036854775808 ≤ n) (h1 : n ≤ 9223372036854775807) : wrap64 n = n := by unfold wrap64; omega
theorem wsucc (i : Nat) (h : i ≤ 4611686018427387904) : wrap64 ((i : Int) + 1) = ((i + 1 : Nat) : Int) := by unfold wrap64; omega
theorem rdOf_bit (l : List Bool) (i : Nat) : rdOf false l (i : Int) = bit l i := by simp [rdOf, bit]
theorem at_bit (l : List Bool) (i : Nat) : spigotref01_at.f l (i : Int) = some (bit l i) := by
  unfold spigotref01_at.f
  by_cases h : i < l.length
  · rw [if_pos (by omega), if_pos (by omega), rdOf_bit]
  · rw [if_neg (by omega), bit_ge (by omega)]
theorem trim_l0 (l : List Bool) (hl : l.length ≤ 70368744177664) (n : Nat) : ∀ k : Nat, n ≤ l.length → n < k → spigotref01_trim.l0 k l (n : Int) = some (nbits (val (l.take n))) := by
  induction n with
  | zero =>
    intro k _ hk
    obtain ⟨k, rfl⟩ : ∃ m, k = m + 1 := ⟨k - 1, by omega⟩
    simp only [spigotref01_trim.l0]
    rw [if_neg (by omega), if_pos (by omega), if_pos (by omega)]
    simp [val, bits_zero]
  | succ n ih =>
    intro k hn hk
    obtain ⟨k, rfl⟩ : ∃ m, k = m + 1 := ⟨k - 1, by omega⟩
    have e : wrap64 (((n + 1 : Nat) : Int) - 1) = (n : Int) := by rw [w64 (by omega) (by omega)]; omega
    simp only [spigotref01_trim.l0]
    rw [if_pos (by omega), e, if_pos (by omega), if_pos (by omega), rdOf_bit]
    by_cases hb : bit l n = true
    · rw [if_pos hb, if_pos (by omega), if_pos (by omega)]
      have hT : Tr (l.take (n + 1)) := by
        unfold Tr
        rw [List.take_succ_eq_append_getElem (by omega), List.getLast?_append]
        rw [bit_lt (by omega)] at hb
        simp [hb]
      rw [bits_val hT]; rfl
    · rw [if_neg hb, ih k (by omega) (by omega), val_take_succ]
      have : bit l n = false := by simpa using hb
      simp [this]
/-- The digit, and what is carried, of a sum: as numbers. -/
def maj (x y c : Bool) : Bool := if x then (if y then true else c) else (if c then y else false)
theorem digit_sum (x y c : Bool) : ((x != y) != c).toNat + 2 * (maj x y c).toNat = x.toNat + y.toNat + c.toNat := by
  cases x <;> cases y <;> cases c <;> rfl
theorem maj_ifs {α : Type} (x y c : Bool) (F : Bool → Bool → α) : (if x = true then (if y = true then (if c = true then F true true else F false true) else (if c = true then F false true else F true false)) else (if y = true then (if c = true then F false y else F true false) else (if c = true then F true y else F false false))) = F ((x != y) != c) (maj x y c) := by
  cases x <;> cases y <;> cases c <;> rfl
theorem plus_l0 (a b : List Bool) (m : Nat) (hm : max a.length b.length = m) (hb : m ≤ 35184372088832) (d : Nat) : ∀ (k i : Nat) (out : List Bool) (c : Bool),
    (i ≤ m ∨ (i = m + 1 ∧ c = false)) → out.length = i → val out + c.toNat * 2 ^ i = val (a.take i) + val (b.take i) →
    (m + 1 - i = d) → m + 10 + 3 * d < k →
    spigotref01_plus.l0 k a b out c (i : Int) = some (nbits (val a + val b)) := by
  have hstop : ∀ (k i : Nat) (out : List Bool), m ≤ i → i ≤ m + 1 → out.length = i → val out = val (a.take i) + val (b.take i) → m + 10 < k →
      spigotref01_plus.l0 k a b out false (i : Int) = some (nbits (val a + val b)) := by
    intro k i out h1 h2 ho hv hk
    obtain ⟨k, rfl⟩ : ∃ m, k = m + 1 := ⟨k - 1, by omega⟩
    obtain ⟨k, rfl⟩ : ∃ m, k = m + 1 := ⟨k - 1, by omega⟩
    rw [val_take_all (by omega), val_take_all (by omega)] at hv
    have key : spigotref01_plus.j1 (k + 1) a b out false (i : Int) false = some (nbits (val a + val b)) := by
      simp only [spigotref01_plus.j1, Bool.false_eq_true, if_false]
      have ht := trim_l0 out (by omega) out.length k (by omega) (by omega)
      unfold spigotref01_trim.f
      rw [ht, List.take_length, hv]; rfl
    simp only [spigotref01_plus.l0]
    by_cases hab : (a.length : Int) < (b.length : Int)
    · rw [if_pos hab, if_neg (by omega)]; exact key
    · rw [if_neg hab, if_neg (by omega)]; exact key
  induction d with
  | zero =>
    intro k i out c hi ho hv hd hk
    rcases hi with h | ⟨h1, rfl⟩
    · omega
    · exact hstop k i out (by omega) (by omega) ho (by simpa using hv) (by omega)
  | succ d ih =>
    intro k i out c hi ho hv hd hk
    by_cases hgo : i < m ∨ c = true
    · obtain ⟨k, rfl⟩ : ∃ m, k = m + 1 := ⟨k - 1, by omega⟩
      obtain ⟨k, rfl⟩ : ∃ m, k = m + 1 := ⟨k - 1, by omega⟩
      have hlim : out.length < 140737488355328 := by omega
      have hrec : spigotref01_plus.l0 k a b (out ++ [((bit a i != bit b i) != c)]) (maj (bit a i) (bit b i) c) ((i + 1 : Nat) : Int) = some (nbits (val a + val b)) := by
        refine ih k (i + 1) _ _ ?_ (by simp [ho]) ?_ (by omega) (by omega)
        · by_cases hlt : i < m
          · left; omega
          · right
            refine ⟨by omega, ?_⟩
            rw [bit_ge (by omega), bit_ge (by omega)]; cases c <;> rfl
        · rw [val_snoc, val_take_succ, val_take_succ, ho, Nat.pow_succ]
          have := digit_sum (bit a i) (bit b i) c
          clear ih hstop hd hk hlim hb
          generalize 2 ^ i = p at *
          generalize ((bit a i != bit b i) != c).toNat = s at *
          generalize (maj (bit a i) (bit b i) c).toNat = m at *
          generalize (bit a i).toNat = x at *
          generalize (bit b i).toNat = y at *
          generalize c.toNat = z at *
          have e : (s + 2 * m) * p = (x + y + z) * p := by rw [this]
          grind
      have key : spigotref01_plus.j1 (k + 1) a b out c (i : Int) true = some (nbits (val a + val b)) := by
        simp only [spigotref01_plus.j1, at_bit, Option.bind_some, if_true, wsucc i (by omega), if_pos hlim]
        exact (maj_ifs (bit a i) (bit b i) c (fun s z => spigotref01_plus.l0 k a b (out ++ [s]) z ((i + 1 : Nat) : Int))).trans hrec
      have key2 : (if (i : Int) < (m : Int) then spigotref01_plus.j1 (k + 1) a b out c (i : Int) true else spigotref01_plus.j1 (k + 1) a b out c (i : Int) c) = some (nbits (val a + val b)) := by
        by_cases hlt : i < m
        · rw [if_pos (by omega)]; exact key
        · rw [if_neg (by omega)]
          have : c = true := by rcases hgo with h | h; · omega
                                · exact h
          subst this; exact key
      simp only [spigotref01_plus.l0]
      by_cases hab : (a.length : Int) < (b.length : Int)
      · have e : (b.length : Int) = (m : Int) := by omega
        rw [if_pos hab, e]; exact key2
      · have e : (a.length : Int) = (m : Int) := by omega
        rw [if_neg hab, e]; exact key2
    · have hc : c = false := by cases c <;> simp_all
      subst hc
      exact hstop k i out (by simp at hgo; omega) (by omega) ho (by simpa using hv) (by omega)
theorem cmp_l0 (a b : List Bool) (n : Nat) : ∀ k : Nat, n ≤ 4611686018427387904 → n < k → val (a.drop n) = val (b.drop n) →
    spigotref01_cmp.l0 k a b ((n : Int) - 1) = some (if val a < val b then -1 else if val a = val b then 0 else 1) := by
  induction n with
  | zero =>
    intro k _ hk h
    obtain ⟨k, rfl⟩ : ∃ m, k = m + 1 := ⟨k - 1, by omega⟩
    simp only [spigotref01_cmp.l0]
    rw [if_neg (by omega)]
    simp at h
    simp [h]
  | succ n ih =>
    intro k hn hk h
    obtain ⟨k, rfl⟩ : ∃ m, k = m + 1 := ⟨k - 1, by omega⟩
    have e : (((n + 1 : Nat) : Int) - 1) = (n : Int) := by omega
    have ha := val_split a n
    have hb := val_split b n
    have ha2 := val_drop a n
    have hb2 := val_drop b n
    have la := val_lt (a.take n)
    have lb := val_lt (b.take n)
    have la' : val (a.take n) < 2 ^ n := Nat.lt_of_lt_of_le la (Nat.pow_le_pow_right (by omega) (List.length_take_le _ _))
    have lb' : val (b.take n) < 2 ^ n := Nat.lt_of_lt_of_le lb (Nat.pow_le_pow_right (by omega) (List.length_take_le _ _))
    simp only [spigotref01_cmp.l0, e, at_bit, Option.bind_some]
    rw [if_pos (by omega)]
    clear la lb
    by_cases hx : bit a n = bit b n
    · rw [if_neg (by simp [hx])]
      have e2 : wrap64 ((n : Int) - 1) = (n : Int) - 1 := w64 (by omega) (by omega)
      rw [e2]
      clear e2 e
      exact ih k (by omega) (by omega) (by rw [ha2, hb2, h, hx])
    · rw [if_pos (by simpa using hx)]
      rw [h] at ha2
      generalize val (a.take n) = x at *
      generalize val (b.take n) = y at *
      generalize val (b.drop (n + 1)) = z at *
      rw [ha2] at ha
      rw [hb2] at hb
      rw [ha, hb]
      clear ih ha hb ha2 hb2 h e
      generalize 2 ^ n = p at *
      cases hA : bit a n <;> cases hB : bit b n <;> simp only [hA, hB] at hx ⊢
      · exact absurd trivial hx
      · have hl : x + p * (false.toNat + 2 * z) < y + p * (true.toNat + 2 * z) := by simp; grind
        rw [if_pos hl]; rfl
      · have hl : y + p * (false.toNat + 2 * z) < x + p * (true.toNat + 2 * z) := by simp; grind
        have h1 := Nat.not_lt.2 (Nat.le_of_lt hl)
        have h2 := (Nat.ne_of_lt hl).symm
        rw [if_neg h1, if_neg h2]; rfl
      · exact absurd trivial hx
/-- What is borrowed. -/
def bor (x y c : Bool) : Bool := if x then (if y then c else false) else (if y then true else (if c then true else false))
theorem digit_diff (x y c : Bool) : (((x != y) != c).toNat : Int) - 2 * (bor x y c).toNat = (x.toNat : Int) - y.toNat - c.toNat := by
  cases x <;> cases y <;> cases c <;> rfl
theorem bor_ifs {α : Type} (x y c : Bool) (F : Bool → Bool → α) : (if x = true then (if y = true then (if c = true then F true c else F false c) else (if c = true then F false false else F true false)) else (if y = true then (if c = true then F false true else F true true) else (if c = true then F true true else F false false))) = F ((x != y) != c) (bor x y c) := by
  cases x <;> cases y <;> cases c <;> rfl
theorem minus_l0 (a b : List Bool) (hle : val b ≤ val a) (hb : a.length ≤ 35184372088832) (d : Nat) : ∀ (k i : Nat) (out : List Bool) (c : Bool),
    i ≤ a.length → out.length = i → (val out : Int) - c.toNat * 2 ^ i = val (a.take i) - val (b.take i) →
    (a.length - i = d) → a.length + 10 + 3 * d < k →
    spigotref01_minus.l0 k a b out c (i : Int) = some (nbits (val a - val b)) := by
  induction d with
  | zero =>
    intro k i out c hi ho hv hd hk
    obtain ⟨k, rfl⟩ : ∃ m, k = m + 1 := ⟨k - 1, by omega⟩
    have hia : i = a.length := by omega
    rw [val_take_all (by omega)] at hv
    have hbt : val (b.take i) = val b := by
      have h1 := val_split b i
      have h2 := val_lt a
      rw [← hia] at h2
      by_cases hz : val (b.drop i) = 0
      · rw [hz] at h1; simpa using h1.symm
      · have : 2 ^ i * 1 ≤ 2 ^ i * val (b.drop i) := Nat.mul_le_mul_left _ (by omega)
        omega
    have ho2 := val_lt out
    rw [ho] at ho2
    have hout : val out = val a - val b := by
      rw [hbt] at hv
      have hp : ((2 : Int) ^ i) = ((2 ^ i : Nat) : Int) := by simp
      rw [hp] at hv
      generalize (2 : Nat) ^ i = p at *
      cases c <;> simp at hv <;> omega
    simp only [spigotref01_minus.l0]
    have ht := trim_l0 out (by omega) out.length k (by omega) (by omega)
    rw [if_neg (by omega)]
    unfold spigotref01_trim.f
    rw [ht, List.take_length, hout]; rfl
  | succ d ih =>
    intro k i out c hi ho hv hd hk
    obtain ⟨k, rfl⟩ : ∃ m, k = m + 1 := ⟨k - 1, by omega⟩
    have hlim : out.length < 140737488355328 := by omega
    have hrec : spigotref01_minus.l0 k a b (out ++ [((bit a i != bit b i) != c)]) (bor (bit a i) (bit b i) c) ((i + 1 : Nat) : Int) = some (nbits (val a - val b)) := by
      refine ih k (i + 1) _ _ (by omega) (by simp [ho]) ?_ (by omega) (by omega)
      rw [val_snoc, val_take_succ, val_take_succ, ho]
      have := digit_diff (bit a i) (bit b i) c
      clear ih hd hk hlim hb
      generalize ((bit a i != bit b i) != c).toNat = s at *
      generalize (bor (bit a i) (bit b i) c).toNat = m at *
      generalize (bit a i).toNat = x at *
      generalize (bit b i).toNat = y at *
      generalize c.toNat = z at *
      have e : ((s : Int) - 2 * m) * 2 ^ i = (x - y - z) * 2 ^ i := by rw [this]
      push_cast
      rw [Int.pow_succ]
      grind
    simp only [spigotref01_minus.l0, at_bit, Option.bind_some, rdOf_bit, wsucc i (by omega), if_pos hlim]
    rw [if_pos (by omega), if_pos (by omega)]
    exact (bor_ifs (bit a i) (bit b i) c (fun s z => spigotref01_minus.l0 k a b (out ++ [s]) z ((i + 1 : Nat) : Int))).trans hrec
theorem u64w {n : Int} (h0 : 0 ≤ n) (h1 : n ≤ 18446744073709551615) : IntKind.u64.wrap n = n := by rw [IntKind.wrap_u64]; omega
theorem of_l0 (a : Int) (n : Nat) : ∀ (k : Nat) (out : List Bool), n < 18446744073709551616 → out.length + (nbits n).length ≤ 1000 → (nbits n).length < k →
    spigotref01_Of.l0 k a (n : Int) out = some (decide (a < 0), out ++ nbits n) := by
  induction n using Nat.strongRecOn with
  | _ n ih =>
    intro k out hn ho hk
    obtain ⟨k, rfl⟩ : ∃ m, k = m + 1 := ⟨k - 1, by omega⟩
    simp only [spigotref01_Of.l0]
    by_cases h : n = 0
    · subst h
      rw [if_neg (by omega)]; simp [bits_zero]
    · rw [bits_pos h, List.length_cons] at ho hk
      have e1 : IntKind.u64.wrap (Int.tdiv (n : Int) 2) = ((n / 2 : Nat) : Int) := by
        rw [Int.tdiv_eq_ediv_of_nonneg (by omega), u64w (by omega) (by omega)]; omega
      have e2 : (Int.tmod (n : Int) 2 == 1) = (n % 2 == 1) := by
        rw [Int.tmod_eq_emod_of_nonneg (by omega), Bool.eq_iff_iff]; simp; omega
      rw [if_pos (by omega), if_pos (by omega), e1, e2]
      clear e1 e2
      rw [ih (n / 2) (by omega) k _ (by omega) (by simp; omega) (by omega), bits_pos h]
      simp
theorem of_ev (a : Int) (h0 : -9223372036854775808 ≤ a) (h1 : a ≤ 9223372036854775807) : Ev (fun k => spigotref01_Of.f k a) (decide (a < 0), nbits a.natAbs) := by
  have hb : (nbits a.natAbs).length ≤ 64 := bits_len_le (by omega)
  refine ⟨100, fun k hk => ?_⟩
  obtain ⟨k, rfl⟩ : ∃ m, k = m + 1 := ⟨k - 1, by omega⟩
  have key : spigotref01_Of.l0 k a (a.natAbs : Int) [] = some (decide (a < 0), nbits a.natAbs) := by
    have := of_l0 a a.natAbs k [] (by omega) (by simp; omega) (by omega)
    simpa using this
  show spigotref01_Of.f (k + 1) a = _
  unfold spigotref01_Of.f
  by_cases h : a < 0
  · have e : IntKind.u64.wrap (-(IntKind.u64.wrap a)) = (a.natAbs : Int) := by rw [IntKind.wrap_u64, IntKind.wrap_u64]; omega
    rw [if_pos h, e]; simp only [spigotref01_Of.j0]; exact key
  · have e : IntKind.u64.wrap a = (a.natAbs : Int) := by rw [IntKind.wrap_u64]; omega
    rw [if_neg h, e]; simp only [spigotref01_Of.j0]; exact key

/-- What a sign and nbits tell as a number of 64 bits. -/
def int64 (s : Bool) (m : Nat) : Int × Bool := if s = true then (wrap64 (IntKind.u64.wrap (-(m : Int))), decide ((m : Int) ≤ 9223372036854775808)) else (wrap64 (m : Int), decide ((m : Int) < 9223372036854775808))
theorem int_l0 (s : Bool) (l : List Bool) (hl : l.length ≤ 64) (n : Nat) : ∀ k : Nat, n ≤ l.length → n < k →
    spigotref01_Int.l0 k (val (l.drop n) : Int) ((n : Int) - 1) s l = some (int64 s (val l)) := by
  induction n with
  | zero =>
    intro k _ hk
    obtain ⟨k, rfl⟩ : ∃ m, k = m + 1 := ⟨k - 1, by omega⟩
    simp only [spigotref01_Int.l0]
    rw [if_neg (by omega), List.drop_zero]
    unfold int64
    cases s <;> rfl
  | succ n ih =>
    intro k hn hk
    obtain ⟨k, rfl⟩ : ∃ m, k = m + 1 := ⟨k - 1, by omega⟩
    have e : (((n + 1 : Nat) : Int) - 1) = (n : Int) := by omega
    have hd := val_drop l n
    have hlt : val (l.drop n) < 18446744073709551616 := by
      have h1 := val_lt (l.drop n)
      have h2 : 2 ^ (l.drop n).length ≤ 2 ^ 64 := Nat.pow_le_pow_right (by omega) (by rw [List.length_drop]; omega)
      omega
    have e1 : wrap64 ((n : Int) - 1) = (n : Int) - 1 := w64 (by omega) (by omega)
    simp only [spigotref01_Int.l0, e, rdOf_bit]
    rw [if_pos (by omega), if_pos (by omega), if_pos (by omega), e1]
    clear e e1
    have hr := ih k (by omega) (by omega)
    clear ih
    by_cases hb : bit l n = true
    · rw [if_pos hb]
      rw [hb] at hd
      have e2 : IntKind.u64.wrap ((IntKind.u64.wrap (2 * (val (l.drop (n + 1)) : Int))) + 1) = (val (l.drop n) : Int) := by
        rw [IntKind.wrap_u64, IntKind.wrap_u64, hd]; rw [hd] at hlt; simp at hlt ⊢; omega
      rw [e2]; exact hr
    · rw [if_neg hb]
      have hb : bit l n = false := by simpa using hb
      rw [hb] at hd
      have e2 : (IntKind.u64.wrap (2 * (val (l.drop (n + 1)) : Int))) = (val (l.drop n) : Int) := by
        rw [IntKind.wrap_u64, hd]; rw [hd] at hlt; simp at hlt ⊢; omega
      rw [e2]; exact hr
theorem int_ev (s : Bool) (l : List Bool) (hl : l.length ≤ 35184372088832) : Ev (fun k => spigotref01_Int.f k s l) (if l.length > 64 then (0, false) else int64 s (val l)) := by
  refine ⟨l.length + 1, fun k hk => ?_⟩
  show spigotref01_Int.f k s l = _
  unfold spigotref01_Int.f
  by_cases h : l.length > 64
  · rw [if_pos (by omega), if_pos h]
  · rw [if_neg (by omega), if_neg h, w64 (by omega) (by omega)]
    have := int_l0 s l (by omega) l.length k (by omega) (by omega)
    rw [List.drop_of_length_le (by omega)] at this
    exact this
/-- A whole number as the reference has it: its sign, its bits. -/
def enc (z : Int) : Bool × List Bool := (decide (z < 0), nbits z.natAbs)
/-- A number of 64 nbits, or that it is none. -/
def tell (z : Int) : Int × Int := if -9223372036854775808 ≤ z ∧ z ≤ 9223372036854775807 then (z, 0) else (0, 10)
def fits (z : Int) : Bool := decide (-9223372036854775808 ≤ z ∧ z ≤ 9223372036854775807)
theorem int64_enc (z : Int) (h : z.natAbs < 18446744073709551616) : (int64 (decide (z < 0)) z.natAbs).2 = fits z ∧ (fits z = true → (int64 (decide (z < 0)) z.natAbs).1 = z) := by
  unfold int64 fits
  by_cases hz : z < 0
  · simp only [hz, decide_true, if_true]
    constructor
    · rw [Bool.eq_iff_iff]; simp; omega
    · intro h2
      simp at h2
      rw [IntKind.wrap_u64]; unfold wrap64; omega
  · simp only [hz, decide_false, Bool.false_eq_true, if_false]
    constructor
    · rw [Bool.eq_iff_iff]; simp; omega
    · intro h2
      simp at h2
      unfold wrap64; omega
theorem told_ev (z : Int) (hl : (nbits z.natAbs).length ≤ 35184372088832) : Ev (fun k => spigotref01_Told.f k (enc z).1 (enc z).2) (tell z) := by
  obtain ⟨K, hK⟩ := int_ev (enc z).1 (enc z).2 hl
  refine ⟨K, fun k hk => ?_⟩
  show spigotref01_Told.f k _ _ = _
  unfold spigotref01_Told.f
  rw [show spigotref01_Int.f k (enc z).1 (enc z).2 = _ from hK k hk, Option.bind_some]
  by_cases h : (enc z).2.length > 64
  · rw [if_pos h]
    have hbig : 2 ^ 64 ≤ z.natAbs := by
      have := @bits_len_le z.natAbs 64
      have h' : (nbits z.natAbs).length > 64 := h
      by_cases h2 : z.natAbs < 2 ^ 64
      · have := this h2; omega
      · omega
    unfold tell
    rw [if_neg (show ¬ (-9223372036854775808 ≤ z ∧ z ≤ 9223372036854775807) by omega)]; rfl
  · rw [if_neg h]
    have hlt : z.natAbs < 18446744073709551616 := by
      have h1 := val_lt (nbits z.natAbs)
      rw [val_bits] at h1
      have h2 : 2 ^ (nbits z.natAbs).length ≤ 2 ^ 64 := Nat.pow_le_pow_right (by omega) (by have h' : ¬ (nbits z.natAbs).length > 64 := h; omega)
      omega
    obtain ⟨h1, h2⟩ := int64_enc z hlt
    have e : val (enc z).2 = z.natAbs := val_bits _
    rw [e]
    show (if (int64 (decide (z < 0)) z.natAbs).2 = true then _ else _) = _
    unfold tell
    cases hf : fits z with
    | true =>
      rw [h1, hf, if_pos rfl]
      unfold fits at hf
      rw [if_pos (by simpa using hf)]
      show some ((int64 (decide (z < 0)) z.natAbs).1, (0 : Int)) = _
      rw [h2 (by unfold fits; exact hf)]
    | false =>
      rw [h1, hf, if_neg (by simp)]
      unfold fits at hf
      rw [if_neg (by simpa using hf)]

theorem len_pos (n : Nat) : (((nbits n).length : Int) > 0) ↔ 0 < n := by
  by_cases h : n = 0
  · rw [h, bits_zero]; simp
  · have : (nbits n) ≠ [] := by rw [Ne, bits_eq_nil]; exact h
    have := List.length_pos_iff.2 this
    omega
theorem pos_ifs (n : Nat) : (if ((nbits n).length : Int) > 0 then (some (true, nbits n) : Option (Bool × List Bool)) else some (false, nbits n)) = some (decide (0 < n), nbits n) := by
  by_cases h : 0 < n
  · rw [if_pos ((len_pos n).2 h), decide_eq_true h]
  · rw [if_neg (fun q => h ((len_pos n).1 q)), decide_eq_false h]
theorem plus_at (x y : List Bool) (hx : x.length ≤ 35184372088832) (hy : y.length ≤ 35184372088832) (k : Nat) (hk : x.length + y.length + 10 + 3 * (x.length + y.length) + 20 ≤ k) :
    spigotref01_plus.f k x y = some (nbits (val x + val y)) := by
  show spigotref01_plus.l0 k x y [] false _ = _
  exact plus_l0 x y _ rfl (by omega) (max x.length y.length + 1) k 0 [] false (by omega) rfl (by simp [val]) (by omega) (by omega)
theorem cmp_at (a b : List Bool) (ha : a.length ≤ 35184372088832) (hb : b.length ≤ 35184372088832) (k : Nat) (hk : max a.length b.length < k) :
    spigotref01_cmp.f k a b = some (if val a < val b then -1 else if val a = val b then 0 else 1) := by
  unfold spigotref01_cmp.f
  by_cases h : (a.length : Int) < (b.length : Int)
  · rw [if_pos h, w64 (by omega) (by omega)]
    exact cmp_l0 a b b.length k (by omega) (by omega) (by rw [List.drop_of_length_le (by omega), List.drop_of_length_le (by omega)])
  · rw [if_neg h, w64 (by omega) (by omega)]
    exact cmp_l0 a b a.length k (by omega) (by omega) (by rw [List.drop_of_length_le (by omega), List.drop_of_length_le (by omega)])
theorem minus_at (a b : List Bool) (hle : val b ≤ val a) (ha : a.length ≤ 35184372088832) (k : Nat) (hk : 4 * a.length + 20 < k) : spigotref01_minus.f k a b = some (nbits (val a - val b)) := by
  show spigotref01_minus.l0 k a b [] false _ = _
  exact minus_l0 a b hle ha a.length k 0 [] false (by omega) rfl (by simp [val]) (by omega) (by omega)
/-- The whole number next below, and next above, a fraction. -/
def flo (a c : Int) : Int := if c < 0 then (-a) / (-c) else a / c
def cei (a c : Int) : Int := -(flo (-a) c)
def frac (a c : Int) (up : Bool) : Int := if up then cei a c else flo a c

theorem neg_ediv (A C : Nat) (hC : 0 < C) : (-(A : Int)) / (C : Int) = if A % C = 0 then -((A / C : Nat) : Int) else -((A / C : Nat) : Int) - 1 := by
  have hdm := Nat.div_add_mod A C
  have hlt := Nat.mod_lt A hC
  by_cases h : A % C = 0
  · rw [if_pos h]
    refine ((Int.ediv_emod_unique (r := 0) (by omega)).2 ⟨?_, by omega, by omega⟩).1
    rw [h] at hdm
    generalize A / C = q at *
    have : (A : Int) = C * q := by rw [← hdm]; simp
    rw [this]; grind
  · rw [if_neg h]
    refine ((Int.ediv_emod_unique (r := (C : Int) - (A % C : Nat)) (by omega)).2 ⟨?_, by omega, by omega⟩).1
    generalize A / C = q at *
    generalize A % C = r at *
    have : (A : Int) = C * q + r := by rw [← hdm]; simp
    rw [this]; grind
theorem flo_eq (a c : Int) (hc : c ≠ 0) : flo a c = if (decide (a < 0) != decide (c < 0)) = true then (if a.natAbs % c.natAbs = 0 then -((a.natAbs / c.natAbs : Nat) : Int) else -((a.natAbs / c.natAbs : Nat) : Int) - 1) else ((a.natAbs / c.natAbs : Nat) : Int) := by
  have hC : 0 < c.natAbs := by omega
  have key := neg_ediv a.natAbs c.natAbs hC
  unfold flo
  by_cases h1 : a < 0 <;> by_cases h2 : c < 0
  · have e1 : -a = (a.natAbs : Int) := by omega
    have e2 : -c = (c.natAbs : Int) := by omega
    rw [if_pos h2, e1, e2]; simp only [h1, h2]; simp
  · have e1 : a = -(a.natAbs : Int) := by omega
    have e2 : c = (c.natAbs : Int) := by omega
    rw [if_neg h2]; simp only [h1, h2]; rw [if_pos (by rfl), ← key, ← e1, ← e2]
  · have e1 : -a = -(a.natAbs : Int) := by omega
    have e2 : -c = (c.natAbs : Int) := by omega
    rw [if_pos h2]; simp only [h1, h2]; rw [if_pos (by rfl), ← key, ← e1, ← e2]
  · have e1 : a = (a.natAbs : Int) := by omega
    have e2 : c = (c.natAbs : Int) := by omega
    rw [if_neg h2]; simp only [h1, h2]; rw [if_neg (by simp)]
    rw [e1, e2]; simp
theorem cei_eq (a c : Int) (hc : c ≠ 0) : cei a c = if (decide (a < 0) != decide (c < 0)) = true then -((a.natAbs / c.natAbs : Nat) : Int) else (if a.natAbs % c.natAbs = 0 then ((a.natAbs / c.natAbs : Nat) : Int) else ((a.natAbs / c.natAbs : Nat) : Int) + 1) := by
  unfold cei
  rw [flo_eq (-a) c hc, Int.natAbs_neg]
  by_cases h0 : a = 0
  · subst h0; simp
  · by_cases h1 : a < 0 <;> by_cases h2 : c < 0
    · have : ¬ (-a < 0) := by omega
      simp only [h1, h2, this]; simp; split <;> omega
    · have : ¬ (-a < 0) := by omega
      simp only [h1, h2, this]; simp
    · have : (-a < 0) := by omega
      simp only [h1, h2, this]; simp
    · have : (-a < 0) := by omega
      simp only [h1, h2, this]; simp; split <;> omega
end Go.Proofs.Ytbhbnefifgdioaa.RL

/- What math/bits.Div64 tells: the quotient and the rest. -/
set_option linter.unusedVariables false
set_option linter.unusedSimpArgs false
namespace Go.Proofs.Ytbhbnefifgdioaa.RL
open Go Go.RowKit Go.Proofs.YtbhbnefifgdioaaW.PrintWords Go.Proofs.YtbhbnefifgdioaaW.PrintMore Bl Go.Proofs.Ytbhbnefifgdioaa.R Go.Proofs.Ytbhbnefifgdioaa.Hand

/-- One guess of a digit: where it stands still, and where it is lowered, over the true one. -/
theorem guess_ok {b yn1 yn0 u u1 q r : Int} (h : q * yn1 + r = u) (hc : q * yn0 ≤ b * r + u1) : q * (yn1 * b + yn0) ≤ u * b + u1 := by
  have e : q * (yn1 * b + yn0) = u * b - b * r + q * yn0 := by subst h; grind
  omega
theorem guess_big {b yn1 yn0 u u1 q r : Int} (h : q * yn1 + r = u) (hc : b * r + u1 < q * yn0) : u * b + u1 < q * (yn1 * b + yn0) := by
  have e : q * (yn1 * b + yn0) = u * b - b * r + q * yn0 := by subst h; grind
  omega
theorem quo_le {n y q Q : Int} (hy : 0 < y) (h1 : q * y ≤ n) (hQ2 : n < (Q + 1) * y) : q ≤ Q := by
  by_cases h : q < Q + 1
  · omega
  · have : (Q + 1) * y ≤ q * y := Int.mul_le_mul_of_nonneg_right (by omega) (by omega)
    omega
theorem quo_gt {n y q Q : Int} (hy : 0 < y) (h1 : n < q * y) (hQ : Q * y ≤ n) : Q < q := by
  by_cases h : Q < q
  · exact h
  · have : q * y ≤ Q * y := Int.mul_le_mul_of_nonneg_right (by omega) (by omega)
    omega

structure Setup (Y yn1 yn0 u u1 Q : Int) : Prop where
  y : Y = yn1 * 4294967296 + yn0
  n0 : 0 ≤ yn0
  n0' : yn0 < 4294967296
  n1 : 2147483648 ≤ yn1
  n1' : yn1 < 4294967296
  u0 : 0 ≤ u
  u0' : u < Y
  d0 : 0 ≤ u1
  d0' : u1 < 4294967296
  q0 : Q * Y ≤ u * 4294967296 + u1
  q1 : u * 4294967296 + u1 < (Q + 1) * Y

theorem Setup.Q_lt {Y yn1 yn0 u u1 Q : Int} (S : Setup Y yn1 yn0 u u1 Q) : Q < 4294967296 := by
  have hy := S.y; have := S.n1; have := S.n0; have := S.u0'; have := S.d0'; have := S.q0
  by_cases h : Q < 4294967296
  · exact h
  · have : 4294967296 * Y ≤ Q * Y := Int.mul_le_mul_of_nonneg_right (by omega) (by omega)
    omega
theorem Setup.Q_ge {Y yn1 yn0 u u1 Q : Int} (S : Setup Y yn1 yn0 u u1 Q) : 0 ≤ Q := by
  have hy := S.y; have := S.n1; have := S.n0; have := S.u0; have := S.d0; have := S.q1
  by_cases h : 0 ≤ Q
  · exact h
  · have : (Q + 1) * Y ≤ 0 * Y := Int.mul_le_mul_of_nonneg_right (by omega) (by omega)
    omega
/-- What holds of a guess. -/
structure Guess (yn1 u Q q r : Int) : Prop where
  e : q * yn1 + r = u
  r0 : 0 ≤ r
  r1 : r < 4294967296
  ge : Q ≤ q
  le : q ≤ 4294967297

/-- The test says lower it: then the guess was too great. -/
theorem Setup.lower {Y yn1 yn0 u u1 Q q r : Int} (S : Setup Y yn1 yn0 u u1 Q) (G : Guess yn1 u Q q r) (h : q ≥ 4294967296 ∨ q * yn0 > 4294967296 * r + u1) : Q ≤ q - 1 := by
  have hQ := S.Q_lt
  rcases h with h | h
  · omega
  · have h2 := guess_big G.e h
    have hy := S.y; have := S.n1; have := S.n0
    rw [← hy] at h2
    have := quo_gt (by omega) h2 S.q0
    omega
/-- It says leave it: then it was right. -/
theorem Setup.leave {Y yn1 yn0 u u1 Q q r : Int} (S : Setup Y yn1 yn0 u u1 Q) (he : q * yn1 + r = u) (hge : Q ≤ q) (h : q * yn0 ≤ 4294967296 * r + u1) : q = Q := by
  have h2 := guess_ok he h
  have hy := S.y; have := S.n1; have := S.n0
  rw [← hy] at h2
  have := quo_le (by omega) h2 S.q1
  omega
/-- It was lowered and what is left needs no further look: then it is right. -/
theorem Setup.over {Y yn1 yn0 u u1 Q q r : Int} (S : Setup Y yn1 yn0 u u1 Q) (he : q * yn1 + r = u) (hge : Q ≤ q) (hle : q ≤ 4294967296) (hr : 4294967296 ≤ r) : q = Q := by
  refine S.leave he hge ?_
  have := S.n0; have := S.n0'; have := S.d0; have := S.Q_ge
  have h1 : q * yn0 ≤ 4294967296 * yn0 := Int.mul_le_mul_of_nonneg_right hle (by omega)
  omega
theorem u64i {n : Int} (h0 : 0 ≤ n) (h1 : n ≤ 18446744073709551615) : IntKind.u64.wrap n = n := by rw [IntKind.wrap_u64]; omega

/-- The test of a round, as the code has it, where the guess is below 2^32. -/
theorem Setup.test {Y yn1 yn0 u u1 Q q r : Int} (S : Setup Y yn1 yn0 u u1 Q) (G : Guess yn1 u Q q r) (hq : q < 4294967296) :
    (IntKind.u64.wrap (q * yn0) > IntKind.u64.wrap (IntKind.u64.wrap (4294967296 * r) + u1)) ↔ q * yn0 > 4294967296 * r + u1 := by
  have := S.n0; have := S.n0'; have := S.d0; have := S.d0'; have := S.Q_ge; have := G.r0; have := G.r1; have := G.ge
  have h1 : q * yn0 ≤ 4294967296 * yn0 := Int.mul_le_mul_of_nonneg_right (by omega) (by omega)
  have h2 : 0 ≤ q * yn0 := Int.mul_nonneg (by omega) (by omega)
  rw [u64i h2 (by omega), u64i (n := 4294967296 * r) (by omega) (by omega), u64i (by omega) (by omega)]

theorem Guess.next {yn1 u Q q r : Int} (G : Guess yn1 u Q q r) (h : Q ≤ q - 1) : (q - 1) * yn1 + (r + yn1) = u := by
  rw [← G.e]; grind

theorem l0_to (s x14 : Int) {Y yn1 yn0 u u1 Q : Int} (S : Setup Y yn1 yn0 u u1 Q) (n : Nat) : ∀ (k : Nat) (q r : Int), Guess yn1 u Q q r → 4294967296 - r ≤ n * 2147483648 → 2 * n + 2 ≤ k →
    ∃ k', k ≤ k' + 2 * n + 2 ∧ bits_Div64.l0 k Y s yn1 yn0 u u1 x14 q r = bits_Div64.j2 k' Y s yn1 yn0 u u1 x14 Q := by
  induction n with
  | zero => intro k q r G h _; have := G.r1; omega
  | succ n ih =>
    intro k q r G h hk
    obtain ⟨k, rfl⟩ : ∃ m, k = m + 1 := ⟨k - 1, by omega⟩
    obtain ⟨k, rfl⟩ : ∃ m, k = m + 1 := ⟨k - 1, by omega⟩
    have b1 := S.n1; have b2 := S.n1'; have b3 := G.r0; have b4 := G.r1; have b5 := G.ge; have b6 := G.le; have b7 := S.Q_ge; have b8 := S.Q_lt
    have low : Q ≤ q - 1 → ∃ k', k + 1 + 1 ≤ k' + 2 * (n + 1) + 2 ∧ bits_Div64.j1 (k + 1) Y s yn1 yn0 u u1 x14 q r true = bits_Div64.j2 k' Y s yn1 yn0 u u1 x14 Q := by
      intro hl
      have he := G.next hl
      have e1 : IntKind.u64.wrap (r + yn1) = r + yn1 := u64i (by omega) (by omega)
      have e2 : IntKind.u64.wrap (q - 1) = q - 1 := u64i (by omega) (by omega)
      simp only [bits_Div64.j1, if_true, e1, e2]
      clear e1 e2
      by_cases hb : r + yn1 ≥ 4294967296
      · rw [if_pos hb, S.over he hl (by omega) hb]
        exact ⟨k, by omega, rfl⟩
      · rw [if_neg hb]
        obtain ⟨k', h1, h2⟩ := ih k (q - 1) (r + yn1) ⟨he, by omega, by omega, hl, by omega⟩ (by omega) (by omega)
        exact ⟨k', by omega, h2⟩
    simp only [bits_Div64.l0]
    by_cases hq : q ≥ 4294967296
    · rw [if_pos hq]
      exact low (S.lower G (.inl hq))
    · rw [if_neg hq]
      have ht := S.test G (by omega)
      by_cases hc : q * yn0 > 4294967296 * r + u1
      · rw [decide_eq_true (ht.2 hc)]
        exact low (S.lower G (.inr hc))
      · rw [decide_eq_false (fun h => hc (ht.1 h))]
        simp only [bits_Div64.j1, Bool.false_eq_true, if_false]
        rw [S.leave G.e G.ge (by omega)]
        exact ⟨k, by omega, rfl⟩
theorem l1_to (s x15 : Int) (hs : 0 ≤ s) {Y yn1 yn0 u u1 Q : Int} (S : Setup Y yn1 yn0 u u1 Q) (n : Nat) : ∀ (k : Nat) (q r : Int), Guess yn1 u Q q r → 4294967296 - r ≤ n * 2147483648 → 2 * n + 2 ≤ k →
    bits_Div64.l1 k Y s yn1 yn0 u1 x15 r u q = some (IntKind.u64.wrap (IntKind.u64.wrap (x15 * 4294967296) + Q), shr .u64 (IntKind.u64.wrap (IntKind.u64.wrap (IntKind.u64.wrap (u * 4294967296) + u1) - IntKind.u64.wrap (Q * Y))) s) := by
  induction n with
  | zero => intro k q r G h _; have := G.r1; omega
  | succ n ih =>
    intro k q r G h hk
    obtain ⟨k, rfl⟩ : ∃ m, k = m + 1 := ⟨k - 1, by omega⟩
    obtain ⟨k, rfl⟩ : ∃ m, k = m + 1 := ⟨k - 1, by omega⟩
    have b1 := S.n1; have b2 := S.n1'; have b3 := G.r0; have b4 := G.r1; have b5 := G.ge; have b6 := G.le; have b7 := S.Q_ge; have b8 := S.Q_lt
    have low : Q ≤ q - 1 → bits_Div64.j4 (k + 1) Y s yn1 yn0 u1 x15 r u q true = some (IntKind.u64.wrap (IntKind.u64.wrap (x15 * 4294967296) + Q), shr .u64 (IntKind.u64.wrap (IntKind.u64.wrap (IntKind.u64.wrap (u * 4294967296) + u1) - IntKind.u64.wrap (Q * Y))) s) := by
      intro hl
      have he := G.next hl
      have e1 : IntKind.u64.wrap (r + yn1) = r + yn1 := u64i (by omega) (by omega)
      have e2 : IntKind.u64.wrap (q - 1) = q - 1 := u64i (by omega) (by omega)
      simp only [bits_Div64.j4, if_true, e1, e2]
      clear e1 e2
      by_cases hb : r + yn1 ≥ 4294967296
      · rw [if_pos hb, S.over he hl (by omega) hb, if_pos hs]
      · rw [if_neg hb]
        exact ih k (q - 1) (r + yn1) ⟨he, by omega, by omega, hl, by omega⟩ (by omega) (by omega)
    simp only [bits_Div64.l1]
    by_cases hq : q ≥ 4294967296
    · rw [if_pos hq]
      exact low (S.lower G (.inl hq))
    · rw [if_neg hq]
      have ht := S.test G (by omega)
      by_cases hc : q * yn0 > 4294967296 * r + u1
      · rw [decide_eq_true (ht.2 hc)]
        exact low (S.lower G (.inr hc))
      · rw [decide_eq_false (fun h => hc (ht.1 h))]
        simp only [bits_Div64.j4, Bool.false_eq_true, if_false]
        rw [S.leave G.e G.ge (by omega), if_pos hs]
/-- The first guess. -/
theorem Setup.first {Y yn1 yn0 u u1 Q : Int} (S : Setup Y yn1 yn0 u u1 Q) : Guess yn1 u Q (u / yn1) (u - u / yn1 * yn1) := by
  have b1 := S.n1; have b2 := S.n1'; have b3 := S.u0; have b4 := S.u0'; have b5 := S.y; have b6 := S.n0; have b7 := S.n0'; have b8 := S.d0'; have b9 := S.q0
  have h1 := Int.emod_add_mul_ediv u yn1
  have h2 := Int.emod_nonneg u (show yn1 ≠ 0 by omega)
  have h3 := Int.emod_lt_of_pos u (show 0 < yn1 by omega)
  have h4 : u - u / yn1 * yn1 = u % yn1 := by rw [Int.mul_comm]; omega
  rw [h4]
  refine ⟨by rw [Int.mul_comm]; omega, h2, by omega, ?_, ?_⟩
  · -- the true digit is no more than the guess: Q * yn1 ≤ u
    have hQ0 := S.Q_ge
    have e : Q * Y = Q * yn1 * 4294967296 + Q * yn0 := by rw [b5]; grind
    have : 0 ≤ Q * yn0 := Int.mul_nonneg hQ0 b6
    have hq : Q * yn1 ≤ u := by omega
    exact (Int.le_ediv_iff_mul_le (by omega)).2 hq
  · have : u < 4294967298 * yn1 := by omega
    have := (Int.ediv_lt_iff_lt_mul (show 0 < yn1 by omega)).2 this
    omega

theorem mask32 {x : Int} (h0 : 0 ≤ x) (h1 : x < 18446744073709551616) : Go.bits .and .u64 x 4294967295 = x % 4294967296 := by
  obtain ⟨a, rfl⟩ := Int.eq_ofNat_of_zero_le h0
  have h := bits_and_u64_nat a 4294967295 (by omega) (by omega)
  have e : a &&& 4294967295 = a % 4294967296 := Nat.and_two_pow_sub_one_eq_mod a 32
  rw [e] at h
  exact h
theorem or_add {a b : Int} (s : Nat) (ha : 0 ≤ a) (hb : 0 ≤ b) (hb2 : b < 2 ^ s) (h : a * 2 ^ s + b < 18446744073709551616) : Go.bits .or .u64 (a * 2 ^ s) b = a * 2 ^ s + b := by
  obtain ⟨a, rfl⟩ := Int.eq_ofNat_of_zero_le ha
  obtain ⟨b, rfl⟩ := Int.eq_ofNat_of_zero_le hb
  have e1 : ((a : Int) * 2 ^ s) = ((2 ^ s * a : Nat) : Int) := by simp; grind
  rw [e1] at h ⊢
  have hb' : b < 2 ^ s := by exact_mod_cast hb2
  rw [bits_or_u64_nat (2 ^ s * a) b (by omega) (by omega), ← Nat.two_pow_add_eq_or_of_lt hb']
  simp
theorem shl_is {x : Int} {s : Nat} (hs : s ≤ 64) : shl .u64 x (s : Int) = (x * 2 ^ s) % 18446744073709551616 := by
  unfold shl
  rw [IntKind.wrap_u64, Int.toNat_natCast]
  have : IntKind.u64.bits = 64 := rfl
  rw [this, Nat.min_eq_left hs]
theorem shr_is {x : Int} {s : Nat} (hs : s ≤ 64) : shr .u64 x (s : Int) = x / 2 ^ s := by
  unfold shr
  rw [Int.toNat_natCast]
  have : IntKind.u64.bits = 64 := rfl
  rw [this, Nat.min_eq_left hs]
/-- The two digits together are the quotient. -/
theorem j2_to (s : Nat) (hs : s ≤ 64) {Y yn1 yn0 u u1 Q u0 : Int} (S : Setup Y yn1 yn0 u u1 Q) (h0 : 0 ≤ u0) (h0' : u0 < 4294967296) (hY : Y < 18446744073709551616) (k : Nat) (hk : 10 ≤ k) :
    bits_Div64.j2 k Y s yn1 yn0 u u1 u0 Q = some ((u * 18446744073709551616 + u1 * 4294967296 + u0) / Y, (u * 18446744073709551616 + u1 * 4294967296 + u0) % Y / 2 ^ s) := by
  obtain ⟨k, rfl⟩ : ∃ m, k = m + 1 := ⟨k - 1, by omega⟩
  have b1 := S.n1; have b2 := S.n1'; have b3 := S.u0; have b4 := S.u0'; have b5 := S.y; have b6 := S.n0; have b7 := S.n0'; have b8 := S.d0'; have b9 := S.q0; have b10 := S.q1; have b11 := S.d0; have b12 := S.Q_ge; have b13 := S.Q_lt
  have hYp : 0 < Y := by omega
  have b10' : u * 4294967296 + u1 < Q * Y + Y := by have : (Q + 1) * Y = Q * Y + Y := by grind
                                                    omega
  obtain ⟨V, hV⟩ : ∃ V, V = u * 4294967296 + u1 - Q * Y := ⟨_, rfl⟩
  have hV0 : 0 ≤ V := by omega
  have hV1 : V < Y := by omega
  have e1 : IntKind.u64.wrap ((IntKind.u64.wrap ((IntKind.u64.wrap (u * 4294967296)) + u1)) - (IntKind.u64.wrap (Q * Y))) = V := by
    rw [IntKind.wrap_u64, IntKind.wrap_u64, IntKind.wrap_u64, IntKind.wrap_u64]
    generalize Q * Y = z at *
    omega
  have e2 : IntKind.u64.wrap (Int.tdiv V yn1) = V / yn1 := by
    rw [Int.tdiv_eq_ediv_of_nonneg hV0]
    have h1 : 0 ≤ V / yn1 := Int.ediv_nonneg hV0 (by omega)
    have h2 : V / yn1 ≤ V := Int.ediv_le_self _ hV0
    exact u64i h1 (by omega)
  -- the second digit
  obtain ⟨Q0, hQ0⟩ : ∃ Q0, Q0 = (V * 4294967296 + u0) / Y := ⟨_, rfl⟩
  have hdm := Int.emod_add_mul_ediv (V * 4294967296 + u0) Y
  have hm0 := Int.emod_nonneg (V * 4294967296 + u0) (show Y ≠ 0 by omega)
  have hm1 := Int.emod_lt_of_pos (V * 4294967296 + u0) hYp
  rw [← hQ0, Int.mul_comm Y Q0] at hdm
  have hs1 : (Q0 + 1) * Y = Q0 * Y + Y := by grind
  have S2 : Setup Y yn1 yn0 V u0 Q0 := ⟨b5, b6, b7, b1, b2, hV0, hV1, h0, h0', by omega, by omega⟩
  have hG := S2.first
  have e3 : IntKind.u64.wrap (V - IntKind.u64.wrap (V / yn1 * yn1)) = V - V / yn1 * yn1 := by
    have h1 : 0 ≤ V / yn1 * yn1 := Int.mul_nonneg (Int.ediv_nonneg hV0 (by omega)) (by omega)
    have h2 := hG.r0
    rw [u64i h1 (by omega), u64i h2 (by omega)]
  simp only [bits_Div64.j2, e1, e2, e3]
  rw [if_neg (by omega)]
  clear e1 e2 e3
  have := l1_to (s : Int) Q (by omega) S2 2 k (V / yn1) (V - V / yn1 * yn1) hG (by have := hG.r0; omega) (by omega)
  rw [this, shr_is hs]
  have c1 := S2.Q_lt
  have c0 := S2.Q_ge
  -- what is left
  have e4 : IntKind.u64.wrap (IntKind.u64.wrap (IntKind.u64.wrap (V * 4294967296) + u0) - IntKind.u64.wrap (Q0 * Y)) = (V * 4294967296 + u0) % Y := by
    rw [IntKind.wrap_u64, IntKind.wrap_u64, IntKind.wrap_u64, IntKind.wrap_u64]
    generalize (V * 4294967296 + u0) % Y = m at *
    generalize Q0 * Y = z at *
    omega
  have e5 : IntKind.u64.wrap (IntKind.u64.wrap (Q * 4294967296) + Q0) = Q * 4294967296 + Q0 := by
    rw [u64i (n := Q * 4294967296) (by omega) (by omega), u64i (by omega) (by omega)]
  rw [e4, e5]
  have hN : u * 18446744073709551616 + u1 * 4294967296 + u0 = (Q * 4294967296 + Q0) * Y + (V * 4294967296 + u0) % Y := by
    have : (Q * 4294967296 + Q0) * Y = Q * Y * 4294967296 + Q0 * Y := by grind
    rw [this]
    generalize (V * 4294967296 + u0) % Y = m at *
    generalize Q0 * Y = z at *
    generalize Q * Y = z2 at *
    omega
  have huq := (Int.ediv_emod_unique (a := u * 18446744073709551616 + u1 * 4294967296 + u0) (r := (V * 4294967296 + u0) % Y) (q := Q * 4294967296 + Q0) hYp).2 ⟨by rw [hN, Int.mul_comm Y _]; omega, hm0, hm1⟩
  rw [huq.1, huq.2]
theorem div64_ev (hi lo y : Int) (h0 : 0 ≤ hi) (h1 : hi < y) (h2 : y < 18446744073709551616) (l0 : 0 ≤ lo) (l1 : lo < 18446744073709551616) (k : Nat) (hk : 40 ≤ k) :
    bits_Div64.f k hi lo y = some ((hi * 18446744073709551616 + lo) / y, (hi * 18446744073709551616 + lo) % y) := by
  unfold bits_Div64.f
  rw [if_neg (by omega), if_neg (by omega)]
  by_cases hz : hi = 0
  · rw [if_pos hz]
    subst hz
    have hq : 0 ≤ lo / y := Int.ediv_nonneg l0 (by omega)
    have hq2 : lo / y ≤ lo := Int.ediv_le_self _ l0
    rw [Int.tdiv_eq_ediv_of_nonneg l0, Int.tmod_eq_emod_of_nonneg l0, u64i hq (by omega)]
    simp
  · rw [if_neg hz]
    have hyn : y.toNat ≠ 0 := by omega
    have hy64 : y.toNat < 2 ^ 64 := by omega
    have hb0 : Bl.nbits y.toNat ≠ [] := by rw [Ne, Bl.bits_eq_nil]; exact hyn
    have hlen1 : (Bl.nbits y.toNat).length ≤ 64 := Bl.bits_len_le hy64
    have hlen0 : 0 < (Bl.nbits y.toNat).length := List.length_pos_iff.2 hb0
    have hup : y.toNat < 2 ^ (Bl.nbits y.toNat).length := by have := Bl.val_lt (Bl.nbits y.toNat); rwa [Bl.val_bits] at this
    have hlo : 2 ^ ((Bl.nbits y.toNat).length - 1) ≤ y.toNat := by
      by_cases h : y.toNat < 2 ^ ((Bl.nbits y.toNat).length - 1)
      · have := Bl.bits_len_le h; omega
      · omega
    unfold bits_LeadingZeros64.f bl
    rw [if_pos (by omega), Option.bind_some]
    obtain ⟨s, hs⟩ : ∃ s : Nat, s = 64 - (Bl.nbits y.toNat).length := ⟨_, rfl⟩
    have es : (64 : Int) - ((Bl.nbits y.toNat).length : Int) = (s : Int) := by omega
    rw [es]
    have hs64 : s < 64 := by omega
    generalize (Bl.nbits y.toNat).length = L at *
    have e0 : IntKind.u64.wrap (s : Int) = (s : Int) := u64i (by omega) (by omega)
    have e1 : IntKind.u64.wrap (64 - (s : Int)) = ((64 - s : Nat) : Int) := by rw [u64i (by omega) (by omega)]; omega
    rw [e0, e1]
    clear e0 e1
    rw [if_pos (by omega), if_pos (by omega)]
    -- in natural numbers
    obtain ⟨h, rfl⟩ := Int.eq_ofNat_of_zero_le h0
    obtain ⟨y, rfl⟩ := Int.eq_ofNat_of_zero_le (show 0 ≤ y by omega)
    obtain ⟨l, rfl⟩ := Int.eq_ofNat_of_zero_le l0
    simp only [Int.toNat_natCast] at hup hlo hyn hy64
    have hpP : 2 ^ s * 2 ^ (64 - s) = 18446744073709551616 := by rw [← Nat.pow_add, show s + (64 - s) = 64 by omega]
    have hYlt : y * 2 ^ s < 18446744073709551616 := by
      have := Nat.mul_lt_mul_of_pos_right hup (Nat.two_pow_pos s)
      rw [← Nat.pow_add, show L + s = 64 by omega] at this; exact this
    have hYge : 9223372036854775808 ≤ y * 2 ^ s := by
      have := Nat.mul_le_mul_right (2 ^ s) hlo
      rw [← Nat.pow_add, show L - 1 + s = 63 by omega] at this; exact this
    have hp0 : 0 < 2 ^ s := Nat.two_pow_pos s
    have hP0 : 0 < 2 ^ (64 - s) := Nat.two_pow_pos _
    have hlP : l / 2 ^ (64 - s) < 2 ^ s := Nat.div_lt_of_lt_mul (by rw [Nat.mul_comm, hpP]; omega)
    have hu : h * 2 ^ s + l / 2 ^ (64 - s) < y * 2 ^ s := by
      have : (h + 1) * 2 ^ s ≤ y * 2 ^ s := Nat.mul_le_mul_right _ (by omega)
      have e : (h + 1) * 2 ^ s = h * 2 ^ s + 2 ^ s := by grind
      omega
    have hlow : l * 2 ^ s = l / 2 ^ (64 - s) * 18446744073709551616 + (l * 2 ^ s) % 18446744073709551616 := by
      have h1 : l * 2 ^ s / 18446744073709551616 = l / 2 ^ (64 - s) := by
        rw [← hpP, Nat.mul_comm l, Nat.mul_div_mul_left _ _ hp0]
      have := Nat.div_add_mod (l * 2 ^ s) 18446744073709551616
      rw [h1] at this; omega
    have c1 : shl .u64 (y : Int) (s : Int) = ((y * 2 ^ s : Nat) : Int) := by
      rw [shl_is (by omega)]
      have : ((y : Int) * 2 ^ s) = ((y * 2 ^ s : Nat) : Int) := by simp
      omega
    have c2 : shl .u64 (h : Int) (s : Int) = (h : Int) * 2 ^ s := by
      rw [shl_is (by omega)]
      have : ((h : Int) * 2 ^ s) = ((h * 2 ^ s : Nat) : Int) := by simp
      omega
    have c3 : shl .u64 (l : Int) (s : Int) = ((l * 2 ^ s % 18446744073709551616 : Nat) : Int) := by rw [shl_is (by omega)]; simp
    have c4 : shr .u64 (l : Int) ((64 - s : Nat) : Int) = ((l / 2 ^ (64 - s) : Nat) : Int) := by rw [shr_is (by omega)]; simp
    have c5 : Go.bits .or .u64 ((h : Int) * 2 ^ s) ((l / 2 ^ (64 - s) : Nat) : Int) = ((h * 2 ^ s + l / 2 ^ (64 - s) : Nat) : Int) := by
      have e : ((h * 2 ^ s : Nat) : Int) = (h : Int) * 2 ^ s := by simp
      rw [or_add s (by omega) (by omega) (by exact_mod_cast hlP) (by rw [← e]; omega), ← e]; omega
    rw [c1, c2, c3, c4, c5]
    clear c1 c2 c3 c4 c5
    rw [mask32 (by omega) (by omega), mask32 (by omega) (by omega)]
    generalize hun : h * 2 ^ s + l / 2 ^ (64 - s) = u at *
    generalize hw : l * 2 ^ s % 18446744073709551616 = w at *
    generalize hYY : y * 2 ^ s = Y at *
    have hw1 : w < 18446744073709551616 := by rw [← hw]; exact Nat.mod_lt _ (by omega)
    rw [if_neg (by omega)]
    obtain ⟨Q, hQ⟩ : ∃ Q : Int, Q = ((u : Int) * 4294967296 + (w : Int) / 4294967296) / (Y : Int) := ⟨_, rfl⟩
    have hdm := Int.emod_add_mul_ediv ((u : Int) * 4294967296 + (w : Int) / 4294967296) (Y : Int)
    have hm0 := Int.emod_nonneg ((u : Int) * 4294967296 + (w : Int) / 4294967296) (show (Y : Int) ≠ 0 by omega)
    have hm1 := Int.emod_lt_of_pos ((u : Int) * 4294967296 + (w : Int) / 4294967296) (show 0 < (Y : Int) by omega)
    rw [← hQ, Int.mul_comm (Y : Int) Q] at hdm
    have hs1 : (Q + 1) * (Y : Int) = Q * Y + Y := by grind
    have S : Setup (Y : Int) ((Y : Int) / 4294967296) ((Y : Int) % 4294967296) u ((w : Int) / 4294967296) Q :=
      ⟨by omega, by omega, by omega, by omega, by omega, by omega, by omega, by omega, by omega, by omega, by omega⟩
    have hG := S.first
    have hq0 : 0 ≤ (u : Int) / ((Y : Int) / 4294967296) := Int.ediv_nonneg (by omega) (by omega)
    have hq1 : (u : Int) / ((Y : Int) / 4294967296) ≤ u := Int.ediv_le_self _ (by omega)
    have hq2 : 0 ≤ (u : Int) / ((Y : Int) / 4294967296) * ((Y : Int) / 4294967296) := Int.mul_nonneg hq0 (by omega)
    have hr := hG.r0
    rw [Int.tdiv_eq_ediv_of_nonneg (by omega), u64i hq0 (by omega), u64i hq2 (by omega), u64i (n := (u : Int) - _) hr (by omega)]
    obtain ⟨k', hk', he⟩ := l0_to (s : Int) ((w : Int) % 4294967296) S 2 k _ _ hG (by omega) (by omega)
    rw [he, j2_to s (by omega) S (by omega) (by omega) (by omega) k' (by omega)]
    -- back to the numbers themselves
    have hN : (u : Int) * 18446744073709551616 + (w : Int) / 4294967296 * 4294967296 + (w : Int) % 4294967296 = (((h * 18446744073709551616 + l) * 2 ^ s : Nat) : Int) := by
      have e : (h * 18446744073709551616 + l) * 2 ^ s = h * 2 ^ s * 18446744073709551616 + l * 2 ^ s := by grind
      omega
    have hD : (Y : Int) = ((y * 2 ^ s : Nat) : Int) := by rw [hYY]
    have hlast : ((h : Int) * 18446744073709551616 + l) = ((h * 18446744073709551616 + l : Nat) : Int) := by simp
    rw [hN, hD, hlast]
    have q1 : (h * 18446744073709551616 + l) * 2 ^ s / (y * 2 ^ s) = (h * 18446744073709551616 + l) / y := Nat.mul_div_mul_right _ _ hp0
    have q2 : (h * 18446744073709551616 + l) * 2 ^ s % (y * 2 ^ s) / 2 ^ s = (h * 18446744073709551616 + l) % y := by
      rw [Nat.mul_mod_mul_right, Nat.mul_div_cancel _ hp0]
    have k1 : (((h * 18446744073709551616 + l : Nat) : Int) / (y : Int)) = (((h * 18446744073709551616 + l) / y : Nat) : Int) := by simp
    have k2 : (((h * 18446744073709551616 + l : Nat) : Int) % (y : Int)) = (((h * 18446744073709551616 + l) % y : Nat) : Int) := by simp
    rw [k1, k2, ← q1, ← q2]
    simp
end Go.Proofs.Ytbhbnefifgdioaa.RL
