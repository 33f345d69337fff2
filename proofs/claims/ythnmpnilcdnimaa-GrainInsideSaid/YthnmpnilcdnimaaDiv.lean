/- What math/bits.Div64 tells: the quotient and the rest. -/
import Derived.Test.YthnmpnilcdnimaaRx
import Derived.Test.YthnmpnilcdnimaaBits
import Derived.Laws.Bits64b
set_option linter.unusedVariables false
set_option linter.unusedSimpArgs false
namespace Go.Proofs.Ythnmpnilcdnimaa.RL
open Go Go.RowKit Go.Proofs.YthnmpnilcdnimaaW.PrintWords Go.Proofs.YthnmpnilcdnimaaW.PrintMore Bl Go.Proofs.Ythnmpnilcdnimaa.R Go.Proofs.Ythnmpnilcdnimaa.Hand

/-- One guess of a digit: where it stands still, and where it is lowered, over the true one. -/
theorem guess_ok {b yn1 yn0 u u1 q r : Int} (h : q * yn1 + r = u) (hc : q * yn0 ≤ b * r + u1) : q * (yn1 * b + yn0) ≤ u * b + u1 := by
  have e : q * (yn1 * b + yn0) = u * b - b * r + q * yn0 := by subst h; grind
  omega
theorem guess_big {b yn1 yn0 u u1 q r : Int} (h : q * yn1 + r = u) (hc : b * r + u1 < q * yn0) : u * b + u1 < q * (yn1 * b + yn0) := by
  have e : q * (yn1 * b + yn0) = u * b - b * r + q * yn0 := by subst h; grind
  omega
theorem quo_le {n y q Q : Int} (hy : 0 < y) (h1 : q * y ≤ n) (hQ2 : n < (Q + 1) * y) : q ≤ Q := by
  by_cases h : q < Q + 1
  · omega
  · have : (Q + 1) * y ≤ q * y := Int.mul_le_mul_of_nonneg_right (by omega) (by omega)
    omega
theorem quo_gt {n y q Q : Int} (hy : 0 < y) (h1 : n < q * y) (hQ : Q * y ≤ n) : Q < q := by
  by_cases h : Q < q
  · exact h
  · have : q * y ≤ Q * y := Int.mul_le_mul_of_nonneg_right (by omega) (by omega)
    omega

structure Setup (Y yn1 yn0 u u1 Q : Int) : Prop where
  y : Y = yn1 * 4294967296 + yn0
  n0 : 0 ≤ yn0
  n0' : yn0 < 4294967296
  n1 : 2147483648 ≤ yn1
  n1' : yn1 < 4294967296
  u0 : 0 ≤ u
  u0' : u < Y
  d0 : 0 ≤ u1
  d0' : u1 < 4294967296
  q0 : Q * Y ≤ u * 4294967296 + u1
  q1 : u * 4294967296 + u1 < (Q + 1) * Y

theorem Setup.Q_lt {Y yn1 yn0 u u1 Q : Int} (S : Setup Y yn1 yn0 u u1 Q) : Q < 4294967296 := by
  have hy := S.y; have := S.n1; have := S.n0; have := S.u0'; have := S.d0'; have := S.q0
  by_cases h : Q < 4294967296
  · exact h
  · have : 4294967296 * Y ≤ Q * Y := Int.mul_le_mul_of_nonneg_right (by omega) (by omega)
    omega
theorem Setup.Q_ge {Y yn1 yn0 u u1 Q : Int} (S : Setup Y yn1 yn0 u u1 Q) : 0 ≤ Q := by
  have hy := S.y; have := S.n1; have := S.n0; have := S.u0; have := S.d0; have := S.q1
  by_cases h : 0 ≤ Q
  · exact h
  · have : (Q + 1) * Y ≤ 0 * Y := Int.mul_le_mul_of_nonneg_right (by omega) (by omega)
    omega
/-- What holds of a guess. -/
structure Guess (yn1 u Q q r : Int) : Prop where
  e : q * yn1 + r = u
  r0 : 0 ≤ r
  r1 : r < 4294967296
  ge : Q ≤ q
  le : q ≤ 4294967297

/-- The test says lower it: then the guess was too great. -/
theorem Setup.lower {Y yn1 yn0 u u1 Q q r : Int} (S : Setup Y yn1 yn0 u u1 Q) (G : Guess yn1 u Q q r) (h : q ≥ 4294967296 ∨ q * yn0 > 4294967296 * r + u1) : Q ≤ q - 1 := by
  have hQ := S.Q_lt
  rcases h with h | h
  · omega
  · have h2 := guess_big G.e h
    have hy := S.y; have := S.n1; have := S.n0
    rw [← hy] at h2
    have := quo_gt (by omega) h2 S.q0
    omega
/-- It says leave it: then it was right. -/
theorem Setup.leave {Y yn1 yn0 u u1 Q q r : Int} (S : Setup Y yn1 yn0 u u1 Q) (he : q * yn1 + r = u) (hge : Q ≤ q) (h : q * yn0 ≤ 4294967296 * r + u1) : q = Q := by
  have h2 := guess_ok he h
  have hy := S.y; have := S.n1; have := S.n0
  rw [← hy] at h2
  have := quo_le (by omega) h2 S.q1
  omega
/-- It was lowered and what is left needs no further look: then it is right. -/
theorem Setup.over {Y yn1 yn0 u u1 Q q r : Int} (S : Setup Y yn1 yn0 u u1 Q) (he : q * yn1 + r = u) (hge : Q ≤ q) (hle : q ≤ 4294967296) (hr : 4294967296 ≤ r) : q = Q := by
  refine S.leave he hge ?_
  have := S.n0; have := S.n0'; have := S.d0; have := S.Q_ge
  have h1 : q * yn0 ≤ 4294967296 * yn0 := Int.mul_le_mul_of_nonneg_right hle (by omega)
  omega
theorem u64i {n : Int} (h0 : 0 ≤ n) (h1 : n ≤ 18446744073709551615) : IntKind.u64.wrap n = n := by rw [IntKind.wrap_u64]; omega

/-- The test of a round, as the code has it, where the guess is below 2^32. -/
theorem Setup.test {Y yn1 yn0 u u1 Q q r : Int} (S : Setup Y yn1 yn0 u u1 Q) (G : Guess yn1 u Q q r) (hq : q < 4294967296) :
    (IntKind.u64.wrap (q * yn0) > IntKind.u64.wrap (IntKind.u64.wrap (4294967296 * r) + u1)) ↔ q * yn0 > 4294967296 * r + u1 := by
  have := S.n0; have := S.n0'; have := S.d0; have := S.d0'; have := S.Q_ge; have := G.r0; have := G.r1; have := G.ge
  have h1 : q * yn0 ≤ 4294967296 * yn0 := Int.mul_le_mul_of_nonneg_right (by omega) (by omega)
  have h2 : 0 ≤ q * yn0 := Int.mul_nonneg (by omega) (by omega)
  rw [u64i h2 (by omega), u64i (n := 4294967296 * r) (by omega) (by omega), u64i (by omega) (by omega)]

theorem Guess.next {yn1 u Q q r : Int} (G : Guess yn1 u Q q r) (h : Q ≤ q - 1) : (q - 1) * yn1 + (r + yn1) = u := by
  rw [← G.e]; grind

theorem l0_to (s x14 : Int) {Y yn1 yn0 u u1 Q : Int} (S : Setup Y yn1 yn0 u u1 Q) (n : Nat) : ∀ (k : Nat) (q r : Int), Guess yn1 u Q q r → 4294967296 - r ≤ n * 2147483648 → 2 * n + 2 ≤ k →
    ∃ k', k ≤ k' + 2 * n + 2 ∧ bits_Div64.l0 k Y s yn1 yn0 u u1 x14 q r = bits_Div64.j2 k' Y s yn1 yn0 u u1 x14 Q := by
  induction n with
  | zero => intro k q r G h _; have := G.r1; omega
  | succ n ih =>
    intro k q r G h hk
    obtain ⟨k, rfl⟩ : ∃ m, k = m + 1 := ⟨k - 1, by omega⟩
    obtain ⟨k, rfl⟩ : ∃ m, k = m + 1 := ⟨k - 1, by omega⟩
    have b1 := S.n1; have b2 := S.n1'; have b3 := G.r0; have b4 := G.r1; have b5 := G.ge; have b6 := G.le; have b7 := S.Q_ge; have b8 := S.Q_lt
    have low : Q ≤ q - 1 → ∃ k', k + 1 + 1 ≤ k' + 2 * (n + 1) + 2 ∧ bits_Div64.j1 (k + 1) Y s yn1 yn0 u u1 x14 q r true = bits_Div64.j2 k' Y s yn1 yn0 u u1 x14 Q := by
      intro hl
      have he := G.next hl
      have e1 : IntKind.u64.wrap (r + yn1) = r + yn1 := u64i (by omega) (by omega)
      have e2 : IntKind.u64.wrap (q - 1) = q - 1 := u64i (by omega) (by omega)
      simp only [bits_Div64.j1, if_true, e1, e2]
      clear e1 e2
      by_cases hb : r + yn1 ≥ 4294967296
      · rw [if_pos hb, S.over he hl (by omega) hb]
        exact ⟨k, by omega, rfl⟩
      · rw [if_neg hb]
        obtain ⟨k', h1, h2⟩ := ih k (q - 1) (r + yn1) ⟨he, by omega, by omega, hl, by omega⟩ (by omega) (by omega)
        exact ⟨k', by omega, h2⟩
    simp only [bits_Div64.l0]
    by_cases hq : q ≥ 4294967296
    · rw [if_pos hq]
      exact low (S.lower G (.inl hq))
    · rw [if_neg hq]
      have ht := S.test G (by omega)
      by_cases hc : q * yn0 > 4294967296 * r + u1
      · rw [decide_eq_true (ht.2 hc)]
        exact low (S.lower G (.inr hc))
      · rw [decide_eq_false (fun h => hc (ht.1 h))]
        simp only [bits_Div64.j1, Bool.false_eq_true, if_false]
        rw [S.leave G.e G.ge (by omega)]
        exact ⟨k, by omega, rfl⟩
theorem l1_to (s x15 : Int) (hs : 0 ≤ s) {Y yn1 yn0 u u1 Q : Int} (S : Setup Y yn1 yn0 u u1 Q) (n : Nat) : ∀ (k : Nat) (q r : Int), Guess yn1 u Q q r → 4294967296 - r ≤ n * 2147483648 → 2 * n + 2 ≤ k →
    bits_Div64.l1 k Y s yn1 yn0 u1 x15 r u q = some (IntKind.u64.wrap (IntKind.u64.wrap (x15 * 4294967296) + Q), shr .u64 (IntKind.u64.wrap (IntKind.u64.wrap (IntKind.u64.wrap (u * 4294967296) + u1) - IntKind.u64.wrap (Q * Y))) s) := by
  induction n with
  | zero => intro k q r G h _; have := G.r1; omega
  | succ n ih =>
    intro k q r G h hk
    obtain ⟨k, rfl⟩ : ∃ m, k = m + 1 := ⟨k - 1, by omega⟩
    obtain ⟨k, rfl⟩ : ∃ m, k = m + 1 := ⟨k - 1, by omega⟩
    have b1 := S.n1; have b2 := S.n1'; have b3 := G.r0; have b4 := G.r1; have b5 := G.ge; have b6 := G.le; have b7 := S.Q_ge; have b8 := S.Q_lt
    have low : Q ≤ q - 1 → bits_Div64.j4 (k + 1) Y s yn1 yn0 u1 x15 r u q true = some (IntKind.u64.wrap (IntKind.u64.wrap (x15 * 4294967296) + Q), shr .u64 (IntKind.u64.wrap (IntKind.u64.wrap (IntKind.u64.wrap (u * 4294967296) + u1) - IntKind.u64.wrap (Q * Y))) s) := by
      intro hl
      have he := G.next hl
      have e1 : IntKind.u64.wrap (r + yn1) = r + yn1 := u64i (by omega) (by omega)
      have e2 : IntKind.u64.wrap (q - 1) = q - 1 := u64i (by omega) (by omega)
      simp only [bits_Div64.j4, if_true, e1, e2]
      clear e1 e2
      by_cases hb : r + yn1 ≥ 4294967296
      · rw [if_pos hb, S.over he hl (by omega) hb, if_pos hs]
      · rw [if_neg hb]
        exact ih k (q - 1) (r + yn1) ⟨he, by omega, by omega, hl, by omega⟩ (by omega) (by omega)
    simp only [bits_Div64.l1]
    by_cases hq : q ≥ 4294967296
    · rw [if_pos hq]
      exact low (S.lower G (.inl hq))
    · rw [if_neg hq]
      have ht := S.test G (by omega)
      by_cases hc : q * yn0 > 4294967296 * r + u1
      · rw [decide_eq_true (ht.2 hc)]
        exact low (S.lower G (.inr hc))
      · rw [decide_eq_false (fun h => hc (ht.1 h))]
        simp only [bits_Div64.j4, Bool.false_eq_true, if_false]
        rw [S.leave G.e G.ge (by omega), if_pos hs]
/-- The first guess. -/
theorem Setup.first {Y yn1 yn0 u u1 Q : Int} (S : Setup Y yn1 yn0 u u1 Q) : Guess yn1 u Q (u / yn1) (u - u / yn1 * yn1) := by
  have b1 := S.n1; have b2 := S.n1'; have b3 := S.u0; have b4 := S.u0'; have b5 := S.y; have b6 := S.n0; have b7 := S.n0'; have b8 := S.d0'; have b9 := S.q0
  have h1 := Int.emod_add_mul_ediv u yn1
  have h2 := Int.emod_nonneg u (show yn1 ≠ 0 by omega)
  have h3 := Int.emod_lt_of_pos u (show 0 < yn1 by omega)
  have h4 : u - u / yn1 * yn1 = u % yn1 := by rw [Int.mul_comm]; omega
  rw [h4]
  refine ⟨by rw [Int.mul_comm]; omega, h2, by omega, ?_, ?_⟩
  · -- the true digit is no more than the guess: Q * yn1 ≤ u
    have hQ0 := S.Q_ge
    have e : Q * Y = Q * yn1 * 4294967296 + Q * yn0 := by rw [b5]; grind
    have : 0 ≤ Q * yn0 := Int.mul_nonneg hQ0 b6
    have hq : Q * yn1 ≤ u := by omega
    exact (Int.le_ediv_iff_mul_le (by omega)).2 hq
  · have : u < 4294967298 * yn1 := by omega
    have := (Int.ediv_lt_iff_lt_mul (show 0 < yn1 by omega)).2 this
    omega

theorem mask32 {x : Int} (h0 : 0 ≤ x) (h1 : x < 18446744073709551616) : Go.bits .and .u64 x 4294967295 = x % 4294967296 := by
  obtain ⟨a, rfl⟩ := Int.eq_ofNat_of_zero_le h0
  have h := bits_and_u64_nat a 4294967295 (by omega) (by omega)
  have e : a &&& 4294967295 = a % 4294967296 := Nat.and_two_pow_sub_one_eq_mod a 32
  rw [e] at h
  exact h
theorem or_add {a b : Int} (s : Nat) (ha : 0 ≤ a) (hb : 0 ≤ b) (hb2 : b < 2 ^ s) (h : a * 2 ^ s + b < 18446744073709551616) : Go.bits .or .u64 (a * 2 ^ s) b = a * 2 ^ s + b := by
  obtain ⟨a, rfl⟩ := Int.eq_ofNat_of_zero_le ha
  obtain ⟨b, rfl⟩ := Int.eq_ofNat_of_zero_le hb
  have e1 : ((a : Int) * 2 ^ s) = ((2 ^ s * a : Nat) : Int) := by simp; grind
  rw [e1] at h ⊢
  have hb' : b < 2 ^ s := by exact_mod_cast hb2
  rw [bits_or_u64_nat (2 ^ s * a) b (by omega) (by omega), ← Nat.two_pow_add_eq_or_of_lt hb']
  simp
theorem shl_is {x : Int} {s : Nat} (hs : s ≤ 64) : shl .u64 x (s : Int) = (x * 2 ^ s) % 18446744073709551616 := by
  unfold shl
  rw [IntKind.wrap_u64, Int.toNat_natCast]
  have : IntKind.u64.bits = 64 := rfl
  rw [this, Nat.min_eq_left hs]
theorem shr_is {x : Int} {s : Nat} (hs : s ≤ 64) : shr .u64 x (s : Int) = x / 2 ^ s := by
  unfold shr
  rw [Int.toNat_natCast]
  have : IntKind.u64.bits = 64 := rfl
  rw [this, Nat.min_eq_left hs]
/-- The two digits together are the quotient. -/
theorem j2_to (s : Nat) (hs : s ≤ 64) {Y yn1 yn0 u u1 Q u0 : Int} (S : Setup Y yn1 yn0 u u1 Q) (h0 : 0 ≤ u0) (h0' : u0 < 4294967296) (hY : Y < 18446744073709551616) (k : Nat) (hk : 10 ≤ k) :
    bits_Div64.j2 k Y s yn1 yn0 u u1 u0 Q = some ((u * 18446744073709551616 + u1 * 4294967296 + u0) / Y, (u * 18446744073709551616 + u1 * 4294967296 + u0) % Y / 2 ^ s) := by
  obtain ⟨k, rfl⟩ : ∃ m, k = m + 1 := ⟨k - 1, by omega⟩
  have b1 := S.n1; have b2 := S.n1'; have b3 := S.u0; have b4 := S.u0'; have b5 := S.y; have b6 := S.n0; have b7 := S.n0'; have b8 := S.d0'; have b9 := S.q0; have b10 := S.q1; have b11 := S.d0; have b12 := S.Q_ge; have b13 := S.Q_lt
  have hYp : 0 < Y := by omega
  have b10' : u * 4294967296 + u1 < Q * Y + Y := by have : (Q + 1) * Y = Q * Y + Y := by grind
                                                    omega
  obtain ⟨V, hV⟩ : ∃ V, V = u * 4294967296 + u1 - Q * Y := ⟨_, rfl⟩
  have hV0 : 0 ≤ V := by omega
  have hV1 : V < Y := by omega
  have e1 : IntKind.u64.wrap ((IntKind.u64.wrap ((IntKind.u64.wrap (u * 4294967296)) + u1)) - (IntKind.u64.wrap (Q * Y))) = V := by
    rw [IntKind.wrap_u64, IntKind.wrap_u64, IntKind.wrap_u64, IntKind.wrap_u64]
    generalize Q * Y = z at *
    omega
  have e2 : IntKind.u64.wrap (Int.tdiv V yn1) = V / yn1 := by
    rw [Int.tdiv_eq_ediv_of_nonneg hV0]
    have h1 : 0 ≤ V / yn1 := Int.ediv_nonneg hV0 (by omega)
    have h2 : V / yn1 ≤ V := Int.ediv_le_self _ hV0
    exact u64i h1 (by omega)
  -- the second digit
  obtain ⟨Q0, hQ0⟩ : ∃ Q0, Q0 = (V * 4294967296 + u0) / Y := ⟨_, rfl⟩
  have hdm := Int.emod_add_mul_ediv (V * 4294967296 + u0) Y
  have hm0 := Int.emod_nonneg (V * 4294967296 + u0) (show Y ≠ 0 by omega)
  have hm1 := Int.emod_lt_of_pos (V * 4294967296 + u0) hYp
  rw [← hQ0, Int.mul_comm Y Q0] at hdm
  have hs1 : (Q0 + 1) * Y = Q0 * Y + Y := by grind
  have S2 : Setup Y yn1 yn0 V u0 Q0 := ⟨b5, b6, b7, b1, b2, hV0, hV1, h0, h0', by omega, by omega⟩
  have hG := S2.first
  have e3 : IntKind.u64.wrap (V - IntKind.u64.wrap (V / yn1 * yn1)) = V - V / yn1 * yn1 := by
    have h1 : 0 ≤ V / yn1 * yn1 := Int.mul_nonneg (Int.ediv_nonneg hV0 (by omega)) (by omega)
    have h2 := hG.r0
    rw [u64i h1 (by omega), u64i h2 (by omega)]
  simp only [bits_Div64.j2, e1, e2, e3]
  rw [if_neg (by omega)]
  clear e1 e2 e3
  have := l1_to (s : Int) Q (by omega) S2 2 k (V / yn1) (V - V / yn1 * yn1) hG (by have := hG.r0; omega) (by omega)
  rw [this, shr_is hs]
  have c1 := S2.Q_lt
  have c0 := S2.Q_ge
  -- what is left
  have e4 : IntKind.u64.wrap (IntKind.u64.wrap (IntKind.u64.wrap (V * 4294967296) + u0) - IntKind.u64.wrap (Q0 * Y)) = (V * 4294967296 + u0) % Y := by
    rw [IntKind.wrap_u64, IntKind.wrap_u64, IntKind.wrap_u64, IntKind.wrap_u64]
    generalize (V * 4294967296 + u0) % Y = m at *
    generalize Q0 * Y = z at *
    omega
  have e5 : IntKind.u64.wrap (IntKind.u64.wrap (Q * 4294967296) + Q0) = Q * 4294967296 + Q0 := by
    rw [u64i (n := Q * 4294967296) (by omega) (by omega), u64i (by omega) (by omega)]
  rw [e4, e5]
  have hN : u * 18446744073709551616 + u1 * 4294967296 + u0 = (Q * 4294967296 + Q0) * Y + (V * 4294967296 + u0) % Y := by
    have : (Q * 4294967296 + Q0) * Y = Q * Y * 4294967296 + Q0 * Y := by grind
    rw [this]
    generalize (V * 4294967296 + u0) % Y = m at *
    generalize Q0 * Y = z at *
    generalize Q * Y = z2 at *
    omega
  have huq := (Int.ediv_emod_unique (a := u * 18446744073709551616 + u1 * 4294967296 + u0) (r := (V * 4294967296 + u0) % Y) (q := Q * 4294967296 + Q0) hYp).2 ⟨by rw [hN, Int.mul_comm Y _]; omega, hm0, hm1⟩
  rw [huq.1, huq.2]
theorem div64_ev (hi lo y : Int) (h0 : 0 ≤ hi) (h1 : hi < y) (h2 : y < 18446744073709551616) (l0 : 0 ≤ lo) (l1 : lo < 18446744073709551616) (k : Nat) (hk : 40 ≤ k) :
    bits_Div64.f k hi lo y = some ((hi * 18446744073709551616 + lo) / y, (hi * 18446744073709551616 + lo) % y) := by
  unfold bits_Div64.f
  rw [if_neg (by omega), if_neg (by omega)]
  by_cases hz : hi = 0
  · rw [if_pos hz]
    subst hz
    have hq : 0 ≤ lo / y := Int.ediv_nonneg l0 (by omega)
    have hq2 : lo / y ≤ lo := Int.ediv_le_self _ l0
    rw [Int.tdiv_eq_ediv_of_nonneg l0, Int.tmod_eq_emod_of_nonneg l0, u64i hq (by omega)]
    simp
  · rw [if_neg hz]
    have hyn : y.toNat ≠ 0 := by omega
    have hy64 : y.toNat < 2 ^ 64 := by omega
    have hb0 : Bl.nbits y.toNat ≠ [] := by rw [Ne, Bl.bits_eq_nil]; exact hyn
    have hlen1 : (Bl.nbits y.toNat).length ≤ 64 := Bl.bits_len_le hy64
    have hlen0 : 0 < (Bl.nbits y.toNat).length := List.length_pos_iff.2 hb0
    have hup : y.toNat < 2 ^ (Bl.nbits y.toNat).length := by have := Bl.val_lt (Bl.nbits y.toNat); rwa [Bl.val_bits] at this
    have hlo : 2 ^ ((Bl.nbits y.toNat).length - 1) ≤ y.toNat := by
      by_cases h : y.toNat < 2 ^ ((Bl.nbits y.toNat).length - 1)
      · have := Bl.bits_len_le h; omega
      · omega
    unfold bits_LeadingZeros64.f bl
    rw [if_pos (by omega), Option.bind_some]
    obtain ⟨s, hs⟩ : ∃ s : Nat, s = 64 - (Bl.nbits y.toNat).length := ⟨_, rfl⟩
    have es : (64 : Int) - ((Bl.nbits y.toNat).length : Int) = (s : Int) := by omega
    rw [es]
    have hs64 : s < 64 := by omega
    generalize (Bl.nbits y.toNat).length = L at *
    have e0 : IntKind.u64.wrap (s : Int) = (s : Int) := u64i (by omega) (by omega)
    have e1 : IntKind.u64.wrap (64 - (s : Int)) = ((64 - s : Nat) : Int) := by rw [u64i (by omega) (by omega)]; omega
    rw [e0, e1]
    clear e0 e1
    rw [if_pos (by omega), if_pos (by omega)]
    -- in natural numbers
    obtain ⟨h, rfl⟩ := Int.eq_ofNat_of_zero_le h0
    obtain ⟨y, rfl⟩ := Int.eq_ofNat_of_zero_le (show 0 ≤ y by omega)
    obtain ⟨l, rfl⟩ := Int.eq_ofNat_of_zero_le l0
    simp only [Int.toNat_natCast] at hup hlo hyn hy64
    have hpP : 2 ^ s * 2 ^ (64 - s) = 18446744073709551616 := by rw [← Nat.pow_add, show s + (64 - s) = 64 by omega]
    have hYlt : y * 2 ^ s < 18446744073709551616 := by
      have := Nat.mul_lt_mul_of_pos_right hup (Nat.two_pow_pos s)
      rw [← Nat.pow_add, show L + s = 64 by omega] at this; exact this
    have hYge : 9223372036854775808 ≤ y * 2 ^ s := by
      have := Nat.mul_le_mul_right (2 ^ s) hlo
      rw [← Nat.pow_add, show L - 1 + s = 63 by omega] at this; exact this
    have hp0 : 0 < 2 ^ s := Nat.two_pow_pos s
    have hP0 : 0 < 2 ^ (64 - s) := Nat.two_pow_pos _
    have hlP : l / 2 ^ (64 - s) < 2 ^ s := Nat.div_lt_of_lt_mul (by rw [Nat.mul_comm, hpP]; omega)
    have hu : h * 2 ^ s + l / 2 ^ (64 - s) < y * 2 ^ s := by
      have : (h + 1) * 2 ^ s ≤ y * 2 ^ s := Nat.mul_le_mul_right _ (by omega)
      have e : (h + 1) * 2 ^ s = h * 2 ^ s + 2 ^ s := by grind
      omega
    have hlow : l * 2 ^ s = l / 2 ^ (64 - s) * 18446744073709551616 + (l * 2 ^ s) % 18446744073709551616 := by
      have h1 : l * 2 ^ s / 18446744073709551616 = l / 2 ^ (64 - s) := by
        rw [← hpP, Nat.mul_comm l, Nat.mul_div_mul_left _ _ hp0]
      have := Nat.div_add_mod (l * 2 ^ s) 18446744073709551616
      rw [h1] at this; omega
    have c1 : shl .u64 (y : Int) (s : Int) = ((y * 2 ^ s : Nat) : Int) := by
      rw [shl_is (by omega)]
      have : ((y : Int) * 2 ^ s) = ((y * 2 ^ s : Nat) : Int) := by simp
      omega
    have c2 : shl .u64 (h : Int) (s : Int) = (h : Int) * 2 ^ s := by
      rw [shl_is (by omega)]
      have : ((h : Int) * 2 ^ s) = ((h * 2 ^ s : Nat) : Int) := by simp
      omega
    have c3 : shl .u64 (l : Int) (s : Int) = ((l * 2 ^ s % 18446744073709551616 : Nat) : Int) := by rw [shl_is (by omega)]; simp
    have c4 : shr .u64 (l : Int) ((64 - s : Nat) : Int) = ((l / 2 ^ (64 - s) : Nat) : Int) := by rw [shr_is (by omega)]; simp
    have c5 : Go.bits .or .u64 ((h : Int) * 2 ^ s) ((l / 2 ^ (64 - s) : Nat) : Int) = ((h * 2 ^ s + l / 2 ^ (64 - s) : Nat) : Int) := by
      have e : ((h * 2 ^ s : Nat) : Int) = (h : Int) * 2 ^ s := by simp
      rw [or_add s (by omega) (by omega) (by exact_mod_cast hlP) (by rw [← e]; omega), ← e]; omega
    rw [c1, c2, c3, c4, c5]
    clear c1 c2 c3 c4 c5
    rw [mask32 (by omega) (by omega), mask32 (by omega) (by omega)]
    generalize hun : h * 2 ^ s + l / 2 ^ (64 - s) = u at *
    generalize hw : l * 2 ^ s % 18446744073709551616 = w at *
    generalize hYY : y * 2 ^ s = Y at *
    have hw1 : w < 18446744073709551616 := by rw [← hw]; exact Nat.mod_lt _ (by omega)
    rw [if_neg (by omega)]
    obtain ⟨Q, hQ⟩ : ∃ Q : Int, Q = ((u : Int) * 4294967296 + (w : Int) / 4294967296) / (Y : Int) := ⟨_, rfl⟩
    have hdm := Int.emod_add_mul_ediv ((u : Int) * 4294967296 + (w : Int) / 4294967296) (Y : Int)
    have hm0 := Int.emod_nonneg ((u : Int) * 4294967296 + (w : Int) / 4294967296) (show (Y : Int) ≠ 0 by omega)
    have hm1 := Int.emod_lt_of_pos ((u : Int) * 4294967296 + (w : Int) / 4294967296) (show 0 < (Y : Int) by omega)
    rw [← hQ, Int.mul_comm (Y : Int) Q] at hdm
    have hs1 : (Q + 1) * (Y : Int) = Q * Y + Y := by grind
    have S : Setup (Y : Int) ((Y : Int) / 4294967296) ((Y : Int) % 4294967296) u ((w : Int) / 4294967296) Q :=
      ⟨by omega, by omega, by omega, by omega, by omega, by omega, by omega, by omega, by omega, by omega, by omega⟩
    have hG := S.first
    have hq0 : 0 ≤ (u : Int) / ((Y : Int) / 4294967296) := Int.ediv_nonneg (by omega) (by omega)
    have hq1 : (u : Int) / ((Y : Int) / 4294967296) ≤ u := Int.ediv_le_self _ (by omega)
    have hq2 : 0 ≤ (u : Int) / ((Y : Int) / 4294967296) * ((Y : Int) / 4294967296) := Int.mul_nonneg hq0 (by omega)
    have hr := hG.r0
    rw [Int.tdiv_eq_ediv_of_nonneg (by omega), u64i hq0 (by omega), u64i hq2 (by omega), u64i (n := (u : Int) - _) hr (by omega)]
    obtain ⟨k', hk', he⟩ := l0_to (s : Int) ((w : Int) % 4294967296) S 2 k _ _ hG (by omega) (by omega)
    rw [he, j2_to s (by omega) S (by omega) (by omega) (by omega) k' (by omega)]
    -- back to the numbers themselves
    have hN : (u : Int) * 18446744073709551616 + (w : Int) / 4294967296 * 4294967296 + (w : Int) % 4294967296 = (((h * 18446744073709551616 + l) * 2 ^ s : Nat) : Int) := by
      have e : (h * 18446744073709551616 + l) * 2 ^ s = h * 2 ^ s * 18446744073709551616 + l * 2 ^ s := by grind
      omega
    have hD : (Y : Int) = ((y * 2 ^ s : Nat) : Int) := by rw [hYY]
    have hlast : ((h : Int) * 18446744073709551616 + l) = ((h * 18446744073709551616 + l : Nat) : Int) := by simp
    rw [hN, hD, hlast]
    have q1 : (h * 18446744073709551616 + l) * 2 ^ s / (y * 2 ^ s) = (h * 18446744073709551616 + l) / y := Nat.mul_div_mul_right _ _ hp0
    have q2 : (h * 18446744073709551616 + l) * 2 ^ s % (y * 2 ^ s) / 2 ^ s = (h * 18446744073709551616 + l) % y := by
      rw [Nat.mul_mod_mul_right, Nat.mul_div_cancel _ hp0]
    have k1 : (((h * 18446744073709551616 + l : Nat) : Int) / (y : Int)) = (((h * 18446744073709551616 + l) / y : Nat) : Int) := by simp
    have k2 : (((h * 18446744073709551616 + l : Nat) : Int) % (y : Int)) = (((h * 18446744073709551616 + l) % y : Nat) : Int) := by simp
    rw [k1, k2, ← q1, ← q2]
    simp
end Go.Proofs.Ythnmpnilcdnimaa.RL
