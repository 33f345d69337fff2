/- What the reference's functions on nbits (spigotref01) tell, as numbers. -/
import Derived.Test.YthnmpnilcdnimaaRx
import Derived.Test.YthnmpnilcdnimaaBits
set_option linter.unusedVariables false
set_option linter.unusedSimpArgs false
namespace Go.Proofs.Ythnmpnilcdnimaa.RL
open Go Go.RowKit Go.Proofs.YthnmpnilcdnimaaW.PrintWords Go.Proofs.YthnmpnilcdnimaaW.PrintMore Bl Go.Proofs.Ythnmpnilcdnimaa.R Go.Proofs.Ythnmpnilcdnimaa.Hand

theorem w64 {n : Int} (h0 : -9223372036854775808 ≤ n) (h1 : n ≤ 9223372036854775807) : wrap64 n = n := by unfold wrap64; omega
theorem wsucc (i : Nat) (h : i ≤ 4611686018427387904) : wrap64 ((i : Int) + 1) = ((i + 1 : Nat) : Int) := by unfold wrap64; omega
theorem wpred (i : Nat) (h : i ≤ 4611686018427387904) : wrap64 (((i + 1 : Nat) : Int) - 1) = (i : Int) := by unfold wrap64; omega
theorem rdOf_bit (l : List Bool) (i : Nat) : rdOf false l (i : Int) = bit l i := by simp [rdOf, bit]
theorem at_bit (l : List Bool) (i : Nat) : spigotref01_at.f l (i : Int) = some (bit l i) := by
  unfold spigotref01_at.f
  by_cases h : i < l.length
  · rw [if_pos (by omega), if_pos (by omega), rdOf_bit]
  · rw [if_neg (by omega), bit_ge (by omega)]
theorem mx_nat (a b : Nat) : mx (a : Int) (b : Int) = ((max a b : Nat) : Int) := by unfold mx; split <;> omega

theorem trim_l0 (l : List Bool) (hl : l.length ≤ 70368744177664) (n : Nat) : ∀ k : Nat, n ≤ l.length → n < k → spigotref01_trim.l0 k l (n : Int) = some (nbits (val (l.take n))) := by
  induction n with
  | zero =>
    intro k _ hk
    obtain ⟨k, rfl⟩ : ∃ m, k = m + 1 := ⟨k - 1, by omega⟩
    simp only [spigotref01_trim.l0]
    rw [if_neg (by omega), if_pos (by omega), if_pos (by omega)]
    simp [val, bits_zero]
  | succ n ih =>
    intro k hn hk
    obtain ⟨k, rfl⟩ : ∃ m, k = m + 1 := ⟨k - 1, by omega⟩
    have e : wrap64 (((n + 1 : Nat) : Int) - 1) = (n : Int) := by rw [w64 (by omega) (by omega)]; omega
    simp only [spigotref01_trim.l0]
    rw [if_pos (by omega), e, if_pos (by omega), if_pos (by omega), rdOf_bit]
    by_cases hb : bit l n = true
    · rw [if_pos hb, if_pos (by omega), if_pos (by omega)]
      have hT : Tr (l.take (n + 1)) := by
        unfold Tr
        rw [List.take_succ_eq_append_getElem (by omega), List.getLast?_append]
        rw [bit_lt (by omega)] at hb
        simp [hb]
      rw [bits_val hT]; rfl
    · rw [if_neg hb, ih k (by omega) (by omega), val_take_succ]
      have : bit l n = false := by simpa using hb
      simp [this]
theorem trim_ev (l : List Bool) (hl : l.length ≤ 70368744177664) : Ev (fun k => spigotref01_trim.f k l) (nbits (val l)) :=
  ⟨l.length + 1, fun k hk => by
    show spigotref01_trim.l0 k l _ = _
    rw [trim_l0 l hl l.length k (by omega) (by omega), List.take_length]⟩


/-- The digit, and what is carried, of a sum: as numbers. -/
def maj (x y c : Bool) : Bool := if x then (if y then true else c) else (if c then y else false)
theorem digit_sum (x y c : Bool) : ((x != y) != c).toNat + 2 * (maj x y c).toNat = x.toNat + y.toNat + c.toNat := by
  cases x <;> cases y <;> cases c <;> rfl
theorem maj_ifs {α : Type} (x y c : Bool) (F : Bool → Bool → α) : (if x = true then (if y = true then (if c = true then F true true else F false true) else (if c = true then F false true else F true false)) else (if y = true then (if c = true then F false y else F true false) else (if c = true then F true y else F false false))) = F ((x != y) != c) (maj x y c) := by
  cases x <;> cases y <;> cases c <;> rfl
theorem plus_l0 (a b : List Bool) (m : Nat) (hm : max a.length b.length = m) (hb : m ≤ 35184372088832) (d : Nat) : ∀ (k i : Nat) (out : List Bool) (c : Bool),
    (i ≤ m ∨ (i = m + 1 ∧ c = false)) → out.length = i → val out + c.toNat * 2 ^ i = val (a.take i) + val (b.take i) →
    (m + 1 - i = d) → m + 10 + 3 * d < k →
    spigotref01_plus.l0 k a b out c (i : Int) = some (nbits (val a + val b)) := by
  have hstop : ∀ (k i : Nat) (out : List Bool), m ≤ i → i ≤ m + 1 → out.length = i → val out = val (a.take i) + val (b.take i) → m + 10 < k →
      spigotref01_plus.l0 k a b out false (i : Int) = some (nbits (val a + val b)) := by
    intro k i out h1 h2 ho hv hk
    obtain ⟨k, rfl⟩ : ∃ m, k = m + 1 := ⟨k - 1, by omega⟩
    obtain ⟨k, rfl⟩ : ∃ m, k = m + 1 := ⟨k - 1, by omega⟩
    rw [val_take_all (by omega), val_take_all (by omega)] at hv
    have key : spigotref01_plus.j1 (k + 1) a b out false (i : Int) false = some (nbits (val a + val b)) := by
      simp only [spigotref01_plus.j1, Bool.false_eq_true, if_false]
      have ht := trim_l0 out (by omega) out.length k (by omega) (by omega)
      unfold spigotref01_trim.f
      rw [ht, List.take_length, hv]; rfl
    simp only [spigotref01_plus.l0]
    by_cases hab : (a.length : Int) < (b.length : Int)
    · rw [if_pos hab, if_neg (by omega)]; exact key
    · rw [if_neg hab, if_neg (by omega)]; exact key
  induction d with
  | zero =>
    intro k i out c hi ho hv hd hk
    rcases hi with h | ⟨h1, rfl⟩
    · omega
    · exact hstop k i out (by omega) (by omega) ho (by simpa using hv) (by omega)
  | succ d ih =>
    intro k i out c hi ho hv hd hk
    by_cases hgo : i < m ∨ c = true
    · obtain ⟨k, rfl⟩ : ∃ m, k = m + 1 := ⟨k - 1, by omega⟩
      obtain ⟨k, rfl⟩ : ∃ m, k = m + 1 := ⟨k - 1, by omega⟩
      have hlim : out.length < 140737488355328 := by omega
      have hrec : spigotref01_plus.l0 k a b (out ++ [((bit a i != bit b i) != c)]) (maj (bit a i) (bit b i) c) ((i + 1 : Nat) : Int) = some (nbits (val a + val b)) := by
        refine ih k (i + 1) _ _ ?_ (by simp [ho]) ?_ (by omega) (by omega)
        · by_cases hlt : i < m
          · left; omega
          · right
            refine ⟨by omega, ?_⟩
            rw [bit_ge (by omega), bit_ge (by omega)]; cases c <;> rfl
        · rw [val_snoc, val_take_succ, val_take_succ, ho, Nat.pow_succ]
          have := digit_sum (bit a i) (bit b i) c
          clear ih hstop hd hk hlim hb
          generalize 2 ^ i = p at *
          generalize ((bit a i != bit b i) != c).toNat = s at *
          generalize (maj (bit a i) (bit b i) c).toNat = m at *
          generalize (bit a i).toNat = x at *
          generalize (bit b i).toNat = y at *
          generalize c.toNat = z at *
          have e : (s + 2 * m) * p = (x + y + z) * p := by rw [this]
          grind
      have key : spigotref01_plus.j1 (k + 1) a b out c (i : Int) true = some (nbits (val a + val b)) := by
        simp only [spigotref01_plus.j1, at_bit, Option.bind_some, if_true, wsucc i (by omega), if_pos hlim]
        exact (maj_ifs (bit a i) (bit b i) c (fun s z => spigotref01_plus.l0 k a b (out ++ [s]) z ((i + 1 : Nat) : Int))).trans hrec
      have key2 : (if (i : Int) < (m : Int) then spigotref01_plus.j1 (k + 1) a b out c (i : Int) true else spigotref01_plus.j1 (k + 1) a b out c (i : Int) c) = some (nbits (val a + val b)) := by
        by_cases hlt : i < m
        · rw [if_pos (by omega)]; exact key
        · rw [if_neg (by omega)]
          have : c = true := by rcases hgo with h | h; · omega
                                · exact h
          subst this; exact key
      simp only [spigotref01_plus.l0]
      by_cases hab : (a.length : Int) < (b.length : Int)
      · have e : (b.length : Int) = (m : Int) := by omega
        rw [if_pos hab, e]; exact key2
      · have e : (a.length : Int) = (m : Int) := by omega
        rw [if_neg hab, e]; exact key2
    · have hc : c = false := by cases c <;> simp_all
      subst hc
      exact hstop k i out (by simp at hgo; omega) (by omega) ho (by simpa using hv) (by omega)
theorem plus_ev (a b : List Bool) (ha : a.length ≤ 35184372088832) (hb : b.length ≤ 35184372088832) : Ev (fun k => spigotref01_plus.f k a b) (nbits (val a + val b)) :=
  ⟨max a.length b.length + 10 + 3 * (max a.length b.length + 1) + 1, fun k hk => by
    show spigotref01_plus.l0 k a b [] false _ = _
    exact plus_l0 a b _ rfl (by omega) (max a.length b.length + 1) k 0 [] false (by omega) rfl (by simp [val]) (by omega) (by omega)⟩

theorem cmp_l0 (a b : List Bool) (n : Nat) : ∀ k : Nat, n ≤ 4611686018427387904 → n < k → val (a.drop n) = val (b.drop n) →
    spigotref01_cmp.l0 k a b ((n : Int) - 1) = some (if val a < val b then -1 else if val a = val b then 0 else 1) := by
  induction n with
  | zero =>
    intro k _ hk h
    obtain ⟨k, rfl⟩ : ∃ m, k = m + 1 := ⟨k - 1, by omega⟩
    simp only [spigotref01_cmp.l0]
    rw [if_neg (by omega)]
    simp at h
    simp [h]
  | succ n ih =>
    intro k hn hk h
    obtain ⟨k, rfl⟩ : ∃ m, k = m + 1 := ⟨k - 1, by omega⟩
    have e : (((n + 1 : Nat) : Int) - 1) = (n : Int) := by omega
    have ha := val_split a n
    have hb := val_split b n
    have ha2 := val_drop a n
    have hb2 := val_drop b n
    have la := val_lt (a.take n)
    have lb := val_lt (b.take n)
    have la' : val (a.take n) < 2 ^ n := Nat.lt_of_lt_of_le la (Nat.pow_le_pow_right (by omega) (List.length_take_le _ _))
    have lb' : val (b.take n) < 2 ^ n := Nat.lt_of_lt_of_le lb (Nat.pow_le_pow_right (by omega) (List.length_take_le _ _))
    simp only [spigotref01_cmp.l0, e, at_bit, Option.bind_some]
    rw [if_pos (by omega)]
    clear la lb
    by_cases hx : bit a n = bit b n
    · rw [if_neg (by simp [hx])]
      have e2 : wrap64 ((n : Int) - 1) = (n : Int) - 1 := w64 (by omega) (by omega)
      rw [e2]
      clear e2 e
      exact ih k (by omega) (by omega) (by rw [ha2, hb2, h, hx])
    · rw [if_pos (by simpa using hx)]
      rw [h] at ha2
      generalize val (a.take n) = x at *
      generalize val (b.take n) = y at *
      generalize val (b.drop (n + 1)) = z at *
      rw [ha2] at ha
      rw [hb2] at hb
      rw [ha, hb]
      clear ih ha hb ha2 hb2 h e
      generalize 2 ^ n = p at *
      cases hA : bit a n <;> cases hB : bit b n <;> simp only [hA, hB] at hx ⊢
      · exact absurd trivial hx
      · have hl : x + p * (false.toNat + 2 * z) < y + p * (true.toNat + 2 * z) := by simp; grind
        rw [if_pos hl]; rfl
      · have hl : y + p * (false.toNat + 2 * z) < x + p * (true.toNat + 2 * z) := by simp; grind
        have h1 := Nat.not_lt.2 (Nat.le_of_lt hl)
        have h2 := (Nat.ne_of_lt hl).symm
        rw [if_neg h1, if_neg h2]; rfl
      · exact absurd trivial hx
/-- What is borrowed. -/
def bor (x y c : Bool) : Bool := if x then (if y then c else false) else (if y then true else (if c then true else false))
theorem digit_diff (x y c : Bool) : (((x != y) != c).toNat : Int) - 2 * (bor x y c).toNat = (x.toNat : Int) - y.toNat - c.toNat := by
  cases x <;> cases y <;> cases c <;> rfl
theorem bor_ifs {α : Type} (x y c : Bool) (F : Bool → Bool → α) : (if x = true then (if y = true then (if c = true then F true c else F false c) else (if c = true then F false false else F true false)) else (if y = true then (if c = true then F false true else F true true) else (if c = true then F true true else F false false))) = F ((x != y) != c) (bor x y c) := by
  cases x <;> cases y <;> cases c <;> rfl
theorem minus_l0 (a b : List Bool) (hle : val b ≤ val a) (hb : a.length ≤ 35184372088832) (d : Nat) : ∀ (k i : Nat) (out : List Bool) (c : Bool),
    i ≤ a.length → out.length = i → (val out : Int) - c.toNat * 2 ^ i = val (a.take i) - val (b.take i) →
    (a.length - i = d) → a.length + 10 + 3 * d < k →
    spigotref01_minus.l0 k a b out c (i : Int) = some (nbits (val a - val b)) := by
  induction d with
  | zero =>
    intro k i out c hi ho hv hd hk
    obtain ⟨k, rfl⟩ : ∃ m, k = m + 1 := ⟨k - 1, by omega⟩
    have hia : i = a.length := by omega
    rw [val_take_all (by omega)] at hv
    have hbt : val (b.take i) = val b := by
      have h1 := val_split b i
      have h2 := val_lt a
      rw [← hia] at h2
      by_cases hz : val (b.drop i) = 0
      · rw [hz] at h1; simpa using h1.symm
      · have : 2 ^ i * 1 ≤ 2 ^ i * val (b.drop i) := Nat.mul_le_mul_left _ (by omega)
        omega
    have ho2 := val_lt out
    rw [ho] at ho2
    have hout : val out = val a - val b := by
      rw [hbt] at hv
      have hp : ((2 : Int) ^ i) = ((2 ^ i : Nat) : Int) := by simp
      rw [hp] at hv
      generalize (2 : Nat) ^ i = p at *
      cases c <;> simp at hv <;> omega
    simp only [spigotref01_minus.l0]
    have ht := trim_l0 out (by omega) out.length k (by omega) (by omega)
    rw [if_neg (by omega)]
    unfold spigotref01_trim.f
    rw [ht, List.take_length, hout]; rfl
  | succ d ih =>
    intro k i out c hi ho hv hd hk
    obtain ⟨k, rfl⟩ : ∃ m, k = m + 1 := ⟨k - 1, by omega⟩
    have hlim : out.length < 140737488355328 := by omega
    have hrec : spigotref01_minus.l0 k a b (out ++ [((bit a i != bit b i) != c)]) (bor (bit a i) (bit b i) c) ((i + 1 : Nat) : Int) = some (nbits (val a - val b)) := by
      refine ih k (i + 1) _ _ (by omega) (by simp [ho]) ?_ (by omega) (by omega)
      rw [val_snoc, val_take_succ, val_take_succ, ho]
      have := digit_diff (bit a i) (bit b i) c
      clear ih hd hk hlim hb
      generalize ((bit a i != bit b i) != c).toNat = s at *
      generalize (bor (bit a i) (bit b i) c).toNat = m at *
      generalize (bit a i).toNat = x at *
      generalize (bit b i).toNat = y at *
      generalize c.toNat = z at *
      have e : ((s : Int) - 2 * m) * 2 ^ i = (x - y - z) * 2 ^ i := by rw [this]
      push_cast
      rw [Int.pow_succ]
      grind
    simp only [spigotref01_minus.l0, at_bit, Option.bind_some, rdOf_bit, wsucc i (by omega), if_pos hlim]
    rw [if_pos (by omega), if_pos (by omega)]
    exact (bor_ifs (bit a i) (bit b i) c (fun s z => spigotref01_minus.l0 k a b (out ++ [s]) z ((i + 1 : Nat) : Int))).trans hrec
theorem minus_ev (a b : List Bool) (hle : val b ≤ val a) (ha : a.length ≤ 35184372088832) : Ev (fun k => spigotref01_minus.f k a b) (nbits (val a - val b)) :=
  ⟨a.length + 10 + 3 * (a.length) + 1, fun k hk => by
    show spigotref01_minus.l0 k a b [] false _ = _
    exact minus_l0 a b hle ha a.length k 0 [] false (by omega) rfl (by simp [val]) (by omega) (by omega)⟩

theorem u64w {n : Int} (h0 : 0 ≤ n) (h1 : n ≤ 18446744073709551615) : IntKind.u64.wrap n = n := by rw [IntKind.wrap_u64]; omega
theorem of_l0 (a : Int) (n : Nat) : ∀ (k : Nat) (out : List Bool), n < 18446744073709551616 → out.length + (nbits n).length ≤ 1000 → (nbits n).length < k →
    spigotref01_Of.l0 k a (n : Int) out = some (decide (a < 0), out ++ nbits n) := by
  induction n using Nat.strongRecOn with
  | _ n ih =>
    intro k out hn ho hk
    obtain ⟨k, rfl⟩ : ∃ m, k = m + 1 := ⟨k - 1, by omega⟩
    simp only [spigotref01_Of.l0]
    by_cases h : n = 0
    · subst h
      rw [if_neg (by omega)]; simp [bits_zero]
    · rw [bits_pos h, List.length_cons] at ho hk
      have e1 : IntKind.u64.wrap (Int.tdiv (n : Int) 2) = ((n / 2 : Nat) : Int) := by
        rw [Int.tdiv_eq_ediv_of_nonneg (by omega), u64w (by omega) (by omega)]; omega
      have e2 : (Int.tmod (n : Int) 2 == 1) = (n % 2 == 1) := by
        rw [Int.tmod_eq_emod_of_nonneg (by omega), Bool.eq_iff_iff]; simp; omega
      rw [if_pos (by omega), if_pos (by omega), e1, e2]
      clear e1 e2
      rw [ih (n / 2) (by omega) k _ (by omega) (by simp; omega) (by omega), bits_pos h]
      simp
theorem of_ev (a : Int) (h0 : -9223372036854775808 ≤ a) (h1 : a ≤ 9223372036854775807) : Ev (fun k => spigotref01_Of.f k a) (decide (a < 0), nbits a.natAbs) := by
  have hb : (nbits a.natAbs).length ≤ 64 := bits_len_le (by omega)
  refine ⟨100, fun k hk => ?_⟩
  obtain ⟨k, rfl⟩ : ∃ m, k = m + 1 := ⟨k - 1, by omega⟩
  have key : spigotref01_Of.l0 k a (a.natAbs : Int) [] = some (decide (a < 0), nbits a.natAbs) := by
    have := of_l0 a a.natAbs k [] (by omega) (by simp; omega) (by omega)
    simpa using this
  show spigotref01_Of.f (k + 1) a = _
  unfold spigotref01_Of.f
  by_cases h : a < 0
  · have e : IntKind.u64.wrap (-(IntKind.u64.wrap a)) = (a.natAbs : Int) := by rw [IntKind.wrap_u64, IntKind.wrap_u64]; omega
    rw [if_pos h, e]; simp only [spigotref01_Of.j0]; exact key
  · have e : IntKind.u64.wrap a = (a.natAbs : Int) := by rw [IntKind.wrap_u64]; omega
    rw [if_neg h, e]; simp only [spigotref01_Of.j0]; exact key

/-- What a sign and nbits tell as a number of 64 bits. -/
def int64 (s : Bool) (m : Nat) : Int × Bool := if s = true then (wrap64 (IntKind.u64.wrap (-(m : Int))), decide ((m : Int) ≤ 9223372036854775808)) else (wrap64 (m : Int), decide ((m : Int) < 9223372036854775808))
theorem int_l0 (s : Bool) (l : List Bool) (hl : l.length ≤ 64) (n : Nat) : ∀ k : Nat, n ≤ l.length → n < k →
    spigotref01_Int.l0 k (val (l.drop n) : Int) ((n : Int) - 1) s l = some (int64 s (val l)) := by
  induction n with
  | zero =>
    intro k _ hk
    obtain ⟨k, rfl⟩ : ∃ m, k = m + 1 := ⟨k - 1, by omega⟩
    simp only [spigotref01_Int.l0]
    rw [if_neg (by omega), List.drop_zero]
    unfold int64
    cases s <;> rfl
  | succ n ih =>
    intro k hn hk
    obtain ⟨k, rfl⟩ : ∃ m, k = m + 1 := ⟨k - 1, by omega⟩
    have e : (((n + 1 : Nat) : Int) - 1) = (n : Int) := by omega
    have hd := val_drop l n
    have hlt : val (l.drop n) < 18446744073709551616 := by
      have h1 := val_lt (l.drop n)
      have h2 : 2 ^ (l.drop n).length ≤ 2 ^ 64 := Nat.pow_le_pow_right (by omega) (by rw [List.length_drop]; omega)
      omega
    have e1 : wrap64 ((n : Int) - 1) = (n : Int) - 1 := w64 (by omega) (by omega)
    simp only [spigotref01_Int.l0, e, rdOf_bit]
    rw [if_pos (by omega), if_pos (by omega), if_pos (by omega), e1]
    clear e e1
    have hr := ih k (by omega) (by omega)
    clear ih
    by_cases hb : bit l n = true
    · rw [if_pos hb]
      rw [hb] at hd
      have e2 : IntKind.u64.wrap ((IntKind.u64.wrap (2 * (val (l.drop (n + 1)) : Int))) + 1) = (val (l.drop n) : Int) := by
        rw [IntKind.wrap_u64, IntKind.wrap_u64, hd]; rw [hd] at hlt; simp at hlt ⊢; omega
      rw [e2]; exact hr
    · rw [if_neg hb]
      have hb : bit l n = false := by simpa using hb
      rw [hb] at hd
      have e2 : (IntKind.u64.wrap (2 * (val (l.drop (n + 1)) : Int))) = (val (l.drop n) : Int) := by
        rw [IntKind.wrap_u64, hd]; rw [hd] at hlt; simp at hlt ⊢; omega
      rw [e2]; exact hr
theorem int_ev (s : Bool) (l : List Bool) (hl : l.length ≤ 35184372088832) : Ev (fun k => spigotref01_Int.f k s l) (if l.length > 64 then (0, false) else int64 s (val l)) := by
  refine ⟨l.length + 1, fun k hk => ?_⟩
  show spigotref01_Int.f k s l = _
  unfold spigotref01_Int.f
  by_cases h : l.length > 64
  · rw [if_pos (by omega), if_pos h]
  · rw [if_neg (by omega), if_neg h, w64 (by omega) (by omega)]
    have := int_l0 s l (by omega) l.length k (by omega) (by omega)
    rw [List.drop_of_length_le (by omega)] at this
    exact this
/-- A whole number as the reference has it: its sign, its bits. -/
def enc (z : Int) : Bool × List Bool := (decide (z < 0), nbits z.natAbs)
/-- A number of 64 nbits, or that it is none. -/
def tell (z : Int) : Int × Int := if -9223372036854775808 ≤ z ∧ z ≤ 9223372036854775807 then (z, 0) else (0, 10)
def fits (z : Int) : Bool := decide (-9223372036854775808 ≤ z ∧ z ≤ 9223372036854775807)
theorem int64_enc (z : Int) (h : z.natAbs < 18446744073709551616) : (int64 (decide (z < 0)) z.natAbs).2 = fits z ∧ (fits z = true → (int64 (decide (z < 0)) z.natAbs).1 = z) := by
  unfold int64 fits
  by_cases hz : z < 0
  · simp only [hz, decide_true, if_true]
    constructor
    · rw [Bool.eq_iff_iff]; simp; omega
    · intro h2
      simp at h2
      rw [IntKind.wrap_u64]; unfold wrap64; omega
  · simp only [hz, decide_false, Bool.false_eq_true, if_false]
    constructor
    · rw [Bool.eq_iff_iff]; simp; omega
    · intro h2
      simp at h2
      unfold wrap64; omega
theorem told_ev (z : Int) (hl : (nbits z.natAbs).length ≤ 35184372088832) : Ev (fun k => spigotref01_Told.f k (enc z).1 (enc z).2) (tell z) := by
  obtain ⟨K, hK⟩ := int_ev (enc z).1 (enc z).2 hl
  refine ⟨K, fun k hk => ?_⟩
  show spigotref01_Told.f k _ _ = _
  unfold spigotref01_Told.f
  rw [show spigotref01_Int.f k (enc z).1 (enc z).2 = _ from hK k hk, Option.bind_some]
  by_cases h : (enc z).2.length > 64
  · rw [if_pos h]
    have hbig : 2 ^ 64 ≤ z.natAbs := by
      have := @bits_len_le z.natAbs 64
      have h' : (nbits z.natAbs).length > 64 := h
      by_cases h2 : z.natAbs < 2 ^ 64
      · have := this h2; omega
      · omega
    unfold tell
    rw [if_neg (show ¬ (-9223372036854775808 ≤ z ∧ z ≤ 9223372036854775807) by omega)]; rfl
  · rw [if_neg h]
    have hlt : z.natAbs < 18446744073709551616 := by
      have h1 := val_lt (nbits z.natAbs)
      rw [val_bits] at h1
      have h2 : 2 ^ (nbits z.natAbs).length ≤ 2 ^ 64 := Nat.pow_le_pow_right (by omega) (by have h' : ¬ (nbits z.natAbs).length > 64 := h; omega)
      omega
    obtain ⟨h1, h2⟩ := int64_enc z hlt
    have e : val (enc z).2 = z.natAbs := val_bits _
    rw [e]
    show (if (int64 (decide (z < 0)) z.natAbs).2 = true then _ else _) = _
    unfold tell
    cases hf : fits z with
    | true =>
      rw [h1, hf, if_pos rfl]
      unfold fits at hf
      rw [if_pos (by simpa using hf)]
      show some ((int64 (decide (z < 0)) z.natAbs).1, (0 : Int)) = _
      rw [h2 (by unfold fits; exact hf)]
    | false =>
      rw [h1, hf, if_neg (by simp)]
      unfold fits at hf
      rw [if_neg (by simpa using hf)]

theorem len_pos (n : Nat) : (((nbits n).length : Int) > 0) ↔ 0 < n := by
  by_cases h : n = 0
  · rw [h, bits_zero]; simp
  · have : (nbits n) ≠ [] := by rw [Ne, bits_eq_nil]; exact h
    have := List.length_pos_iff.2 this
    omega
theorem pos_ifs (n : Nat) : (if ((nbits n).length : Int) > 0 then (some (true, nbits n) : Option (Bool × List Bool)) else some (false, nbits n)) = some (decide (0 < n), nbits n) := by
  by_cases h : 0 < n
  · rw [if_pos ((len_pos n).2 h), decide_eq_true h]
  · rw [if_neg (fun q => h ((len_pos n).1 q)), decide_eq_false h]
theorem sign_ifs (s1 s2 : Bool) (n : Nat) : (if (s1 != s2) = true then (if ((nbits n).length : Int) > 0 then (some (true, nbits n) : Option (Bool × List Bool)) else some (false, nbits n)) else some (false, nbits n)) = some ((if (s1 != s2) = true then decide (0 < n) else false), nbits n) := by
  rw [pos_ifs]
  cases s1 <;> cases s2 <;> rfl
theorem mul_l0 (s1 s2 : Bool) (a b : List Bool) (ha : a.length ≤ 1099511627776) (hb : b.length ≤ 1099511627776) (K : Nat)
    (hK : ∀ (x y : List Bool), x.length ≤ 35184372088832 → y.length ≤ 35184372088832 → ∀ k, x.length + y.length + 10 + 3 * (x.length + y.length) + K ≤ k → spigotref01_plus.f k x y = some (nbits (val x + val y)))
    (d : Nat) : ∀ (k i : Nat), i ≤ b.length → b.length - i = d → 5 * (a.length + b.length) * 4 + 20 + K + d < k →
    spigotref01_Mul.l0 k (nbits (val a * val (b.take i))) (List.replicate i false ++ a) (i : Int) s1 a s2 b =
      some ((if (s1 != s2) = true then decide (0 < val a * val b) else false), nbits (val a * val b)) := by
  induction d with
  | zero =>
    intro k i hi hd hk
    obtain ⟨k, rfl⟩ : ∃ m, k = m + 1 := ⟨k - 1, by omega⟩
    simp only [spigotref01_Mul.l0]
    rw [if_neg (by omega), val_take_all (by omega)]
    exact sign_ifs s1 s2 (val a * val b)
  | succ d ih =>
    intro k i hi hd hk
    obtain ⟨k, rfl⟩ : ∃ m, k = m + 1 := ⟨k - 1, by omega⟩
    have hlen : (List.replicate i false ++ a).length = i + a.length := by simp
    have hout : (nbits (val a * val (b.take i))).length ≤ a.length + b.length := by
      refine bits_len_le ?_
      rw [Nat.pow_add]
      have h1 := val_lt a
      have h2 := val_lt (b.take i)
      have h3 : 2 ^ (b.take i).length ≤ 2 ^ b.length := Nat.pow_le_pow_right (by omega) (by rw [List.length_take]; omega)
      exact Nat.mul_lt_mul'' h1 (Nat.lt_of_lt_of_le h2 h3)
    have hsh : ([false] ++ (List.replicate i false ++ a)) = List.replicate (i + 1) false ++ a := by rw [List.replicate_succ]; rfl
    have hlim : [false].length + (List.replicate i false ++ a).length < 140737488355328 := by rw [hlen]; simp; omega
    have hr := ih k (i + 1) (by omega) (by omega) (by omega)
    have hv := val_take_succ b i
    simp only [spigotref01_Mul.l0, rdOf_bit, wsucc i (by omega), Option.bind_some, hsh]
    rw [if_pos (by omega), if_pos (by omega)]
    by_cases hbit : bit b i = true
    · rw [if_pos hbit, hK _ _ (by omega) (by omega) k (by omega), Option.bind_some, if_pos hlim]
      rw [hbit] at hv
      have e : val (nbits (val a * val (b.take i))) + val (List.replicate i false ++ a) = val a * val (b.take (i + 1)) := by
        rw [val_bits, val_append, val_zeros, hv, List.length_replicate]; simp; grind
      rw [e]; exact hr
    · rw [if_neg hbit, if_pos hlim]
      have hbit : bit b i = false := by simpa using hbit
      rw [hbit] at hv
      have e : val a * val (b.take (i + 1)) = val a * val (b.take i) := by rw [hv]; simp
      rw [← e]; exact hr
theorem plus_at (x y : List Bool) (hx : x.length ≤ 35184372088832) (hy : y.length ≤ 35184372088832) (k : Nat) (hk : x.length + y.length + 10 + 3 * (x.length + y.length) + 20 ≤ k) :
    spigotref01_plus.f k x y = some (nbits (val x + val y)) := by
  show spigotref01_plus.l0 k x y [] false _ = _
  exact plus_l0 x y _ rfl (by omega) (max x.length y.length + 1) k 0 [] false (by omega) rfl (by simp [val]) (by omega) (by omega)
theorem enc_mul (a b : Int) : enc (a * b) = ((if (decide (a < 0) != decide (b < 0)) = true then decide (0 < a.natAbs * b.natAbs) else false), nbits (a.natAbs * b.natAbs)) := by
  unfold enc
  rw [Int.natAbs_mul]
  congr 1
  rw [Bool.eq_iff_iff]
  rcases Int.lt_trichotomy a 0 with h | h | h <;> rcases Int.lt_trichotomy b 0 with h2 | h2 | h2
  · have := Int.mul_pos_of_neg_of_neg h h2
    simp [h, h2]; omega
  · subst h2; simp
  · have := Int.mul_neg_of_neg_of_pos h h2
    have h4 : ¬ b < 0 := by omega
    have h5 : 0 < a.natAbs * b.natAbs := Nat.mul_pos (by omega) (by omega)
    simp only [h, h4, decide_true, decide_false, this, h5]; simp
  · subst h; simp
  · subst h; simp
  · subst h; simp
  · have := Int.mul_neg_of_pos_of_neg h h2
    have h4 : ¬ a < 0 := by omega
    have h5 : 0 < a.natAbs * b.natAbs := Nat.mul_pos (by omega) (by omega)
    simp only [h2, h4, decide_true, decide_false, this, h5]; simp
  · subst h2; simp
  · have := Int.mul_pos h h2
    have h4 : ¬ a < 0 := by omega
    have h5 : ¬ b < 0 := by omega
    have h6 : ¬ a * b < 0 := by omega
    simp [h4, h5, h6]
theorem mul_ev (a b : Int) (ha : (nbits a.natAbs).length ≤ 1099511627776) (hb : (nbits b.natAbs).length ≤ 1099511627776) :
    Ev (fun k => spigotref01_Mul.f k (enc a).1 (enc a).2 (enc b).1 (enc b).2) (enc (a * b)) := by
  refine ⟨20 * ((nbits a.natAbs).length + (nbits b.natAbs).length) + 100 + (nbits b.natAbs).length, fun k hk => ?_⟩
  show spigotref01_Mul.f k _ _ _ _ = _
  unfold spigotref01_Mul.f enc
  rw [if_pos (by simp; omega)]
  have := mul_l0 (decide (a < 0)) (decide (b < 0)) (nbits a.natAbs) (nbits b.natAbs) ha hb 20 (fun x y hx hy k hk => plus_at x y hx hy k hk) (nbits b.natAbs).length k 0 (by omega) (by omega) (by omega)
  simp only [List.take_zero, val, Nat.mul_zero, bits_zero, List.replicate_zero, List.nil_append, val_bits] at this
  rw [List.nil_append]
  have e := enc_mul a b
  unfold enc at e
  rw [e]
  exact this

theorem trim_at (x : List Bool) (hx : x.length ≤ 70368744177664) (k : Nat) (hk : x.length < k) : spigotref01_trim.f k x = some (nbits (val x)) := by
  show spigotref01_trim.l0 k x _ = _
  rw [trim_l0 x hx x.length k (by omega) (by omega), List.take_length]
theorem cmp_at (a b : List Bool) (ha : a.length ≤ 35184372088832) (hb : b.length ≤ 35184372088832) (k : Nat) (hk : max a.length b.length < k) :
    spigotref01_cmp.f k a b = some (if val a < val b then -1 else if val a = val b then 0 else 1) := by
  unfold spigotref01_cmp.f
  by_cases h : (a.length : Int) < (b.length : Int)
  · rw [if_pos h, w64 (by omega) (by omega)]
    exact cmp_l0 a b b.length k (by omega) (by omega) (by rw [List.drop_of_length_le (by omega), List.drop_of_length_le (by omega)])
  · rw [if_neg h, w64 (by omega) (by omega)]
    exact cmp_l0 a b a.length k (by omega) (by omega) (by rw [List.drop_of_length_le (by omega), List.drop_of_length_le (by omega)])
theorem minus_at (a b : List Bool) (hle : val b ≤ val a) (ha : a.length ≤ 35184372088832) (k : Nat) (hk : 4 * a.length + 20 < k) : spigotref01_minus.f k a b = some (nbits (val a - val b)) := by
  show spigotref01_minus.l0 k a b [] false _ = _
  exact minus_l0 a b hle ha a.length k 0 [] false (by omega) rfl (by simp [val]) (by omega) (by omega)
/-- The whole number next below, and next above, a fraction. -/
def flo (a c : Int) : Int := if c < 0 then (-a) / (-c) else a / c
def cei (a c : Int) : Int := -(flo (-a) c)
def frac (a c : Int) (up : Bool) : Int := if up then cei a c else flo a c

theorem neg_ediv (A C : Nat) (hC : 0 < C) : (-(A : Int)) / (C : Int) = if A % C = 0 then -((A / C : Nat) : Int) else -((A / C : Nat) : Int) - 1 := by
  have hdm := Nat.div_add_mod A C
  have hlt := Nat.mod_lt A hC
  by_cases h : A % C = 0
  · rw [if_pos h]
    refine ((Int.ediv_emod_unique (r := 0) (by omega)).2 ⟨?_, by omega, by omega⟩).1
    rw [h] at hdm
    generalize A / C = q at *
    have : (A : Int) = C * q := by rw [← hdm]; simp
    rw [this]; grind
  · rw [if_neg h]
    refine ((Int.ediv_emod_unique (r := (C : Int) - (A % C : Nat)) (by omega)).2 ⟨?_, by omega, by omega⟩).1
    generalize A / C = q at *
    generalize A % C = r at *
    have : (A : Int) = C * q + r := by rw [← hdm]; simp
    rw [this]; grind
theorem flo_eq (a c : Int) (hc : c ≠ 0) : flo a c = if (decide (a < 0) != decide (c < 0)) = true then (if a.natAbs % c.natAbs = 0 then -((a.natAbs / c.natAbs : Nat) : Int) else -((a.natAbs / c.natAbs : Nat) : Int) - 1) else ((a.natAbs / c.natAbs : Nat) : Int) := by
  have hC : 0 < c.natAbs := by omega
  have key := neg_ediv a.natAbs c.natAbs hC
  unfold flo
  by_cases h1 : a < 0 <;> by_cases h2 : c < 0
  · have e1 : -a = (a.natAbs : Int) := by omega
    have e2 : -c = (c.natAbs : Int) := by omega
    rw [if_pos h2, e1, e2]; simp only [h1, h2]; simp
  · have e1 : a = -(a.natAbs : Int) := by omega
    have e2 : c = (c.natAbs : Int) := by omega
    rw [if_neg h2]; simp only [h1, h2]; rw [if_pos (by rfl), ← key, ← e1, ← e2]
  · have e1 : -a = -(a.natAbs : Int) := by omega
    have e2 : -c = (c.natAbs : Int) := by omega
    rw [if_pos h2]; simp only [h1, h2]; rw [if_pos (by rfl), ← key, ← e1, ← e2]
  · have e1 : a = (a.natAbs : Int) := by omega
    have e2 : c = (c.natAbs : Int) := by omega
    rw [if_neg h2]; simp only [h1, h2]; rw [if_neg (by simp)]
    rw [e1, e2]; simp
theorem cei_eq (a c : Int) (hc : c ≠ 0) : cei a c = if (decide (a < 0) != decide (c < 0)) = true then -((a.natAbs / c.natAbs : Nat) : Int) else (if a.natAbs % c.natAbs = 0 then ((a.natAbs / c.natAbs : Nat) : Int) else ((a.natAbs / c.natAbs : Nat) : Int) + 1) := by
  unfold cei
  rw [flo_eq (-a) c hc, Int.natAbs_neg]
  by_cases h0 : a = 0
  · subst h0; simp
  · by_cases h1 : a < 0 <;> by_cases h2 : c < 0
    · have : ¬ (-a < 0) := by omega
      simp only [h1, h2, this]; simp; split <;> omega
    · have : ¬ (-a < 0) := by omega
      simp only [h1, h2, this]; simp
    · have : (-a < 0) := by omega
      simp only [h1, h2, this]; simp
    · have : (-a < 0) := by omega
      simp only [h1, h2, this]; simp; split <;> omega
theorem enc_signed (s : Bool) (m : Nat) (z : Int) (h : z = if s = true then -(m : Int) else (m : Int)) : enc z = (if s = true then decide (0 < m) else false, nbits m) := by
  unfold enc
  cases s
  · simp at h
    subst h
    simp
  · simp at h
    subst h
    simp
theorem frac_enc (a c : Int) (up : Bool) (hc : c ≠ 0) : enc (frac a c up) = (if (decide (a < 0) != decide (c < 0)) = true then decide (0 < (if a.natAbs % c.natAbs = 0 then a.natAbs / c.natAbs else if (up != (decide (a < 0) != decide (c < 0))) = true then a.natAbs / c.natAbs + 1 else a.natAbs / c.natAbs)) else false,
    nbits (if a.natAbs % c.natAbs = 0 then a.natAbs / c.natAbs else if (up != (decide (a < 0) != decide (c < 0))) = true then a.natAbs / c.natAbs + 1 else a.natAbs / c.natAbs)) := by
  refine enc_signed _ _ _ ?_
  unfold frac
  rw [flo_eq a c hc, cei_eq a c hc]
  generalize (decide (a < 0) != decide (c < 0)) = s
  generalize a.natAbs / c.natAbs = q
  cases up <;> cases s <;> simp <;> (split <;> simp) <;> omega
end Go.Proofs.Ythnmpnilcdnimaa.RL
