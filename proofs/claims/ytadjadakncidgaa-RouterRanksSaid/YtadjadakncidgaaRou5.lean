/- router: what is asked, steps, and Split as a plain function with its contract. -/
import Derived.Test.YtadjadakncidgaaRou4
set_option linter.unusedVariables false
set_option linter.unusedSimpArgs false
namespace Go.Proofs.Ytadjadakncidgaa.Hand
open Go Go.RowKit Go.Proofs.YtadjadakncidgaaW.PrintWords Go.Proofs.YtadjadakncidgaaW.PrintMore Go.Proofs.Ytadjadakncidgaa.RL Go.Proofs.Ytadjadakncidgaa.PL Go.Proofs.Ytadjadakncidgaa.St Go.Proofs.Ytadjadakncidgaa.U
def okO (x : Off) : Prop := (1 ≤ x.f1 ∧ x.f1 ≤ 1099511627776) ∧ (0 ≤ x.f2 ∧ x.f2 ≤ 10000) ∧ 0 ≤ x.f3 ∧ x.f3 ≤ 1099511627776
instance (x : Off) : Decidable (okO x) := by unfold okO; infer_instance
/-- What isn't right of what is to be split. -/
def askV (q lot : Int) (l : List Off) : Int := if (0 ≤ q ∧ q ≤ 1099511627776) ∧ 1 ≤ lot ∧ lot ≤ 1099511627776 then (if ∀ x ∈ l, okO x then (if 8 < l.length then 3 else 0) else 2) else 2
theorem rwithin_is (n a b : Int) : router_within.f n a b = some (decide (a ≤ n ∧ n ≤ b)) := by
  unfold router_within.f
  by_cases h : n ≥ a
  · rw [if_pos h]; congr 1; rw [decide_eq_decide]; omega
  · rw [if_neg h]; congr 1; rw [eq_comm, decide_eq_false_iff_not]; omega
theorem rd_off (l : List Off) (m : Nat) (h : m < l.length) : rd_T35 l (m : Int) = l[m] := by unfold rd_T35; simp [h]
theorem asked_l0 (l : List Off) (hl : l.length ≤ 4611686018427387904) : ∀ (k m : Nat), m ≤ l.length → l.length - m < k →
    router_asked.l0 k l l (l.length : Int) (m : Int) = some (if ∀ x ∈ l.drop m, okO x then (if 8 < l.length then 3 else 0) else 2) := by
  have hv : (if (l.length : Int) > 8 then some (3 : Int) else some 0) = some (if 8 < l.length then 3 else 0) := by
    by_cases h8 : 8 < l.length
    · rw [if_pos (by omega), if_pos h8]
    · rw [if_neg (by omega), if_neg h8]
  generalize (if 8 < l.length then (3 : Int) else 0) = v at *
  intro k
  induction k with
  | zero => intro m _ h; omega
  | succ k ih =>
    intro m hm hk
    unfold router_asked.l0
    by_cases h : m < l.length
    · rw [if_pos (by omega), if_pos (by omega), if_pos (by omega), rd_off l m h, List.drop_eq_getElem_cons h]
      simp only [rwithin_is, Option.bind_some, decide_eq_true_eq]
      have hs : wrap64 ((m : Int) + 1) = ((m + 1 : Nat) : Int) := wsucc m (by omega)
      have hr := ih (m + 1) (by omega) (by omega)
      rw [hs, hr]
      by_cases h1 : 1 ≤ l[m].f1 ∧ l[m].f1 ≤ 1099511627776
      · rw [if_pos h1]
        by_cases h2 : 0 ≤ l[m].f2 ∧ l[m].f2 ≤ 10000
        · rw [if_pos h2]
          by_cases h3 : 0 ≤ l[m].f3 ∧ l[m].f3 ≤ 1099511627776
          · rw [if_pos h3]
            have h4 : okO l[m] := ⟨h1, h2, h3⟩
            congr 1
            by_cases h5 : ∀ x ∈ l.drop (m + 1), okO x
            · rw [if_pos h5, if_pos (by intro x hx; rcases List.mem_cons.1 hx with rfl | hx; exact h4; exact h5 x hx)]
            · rw [if_neg h5, if_neg (fun q => h5 fun x hx => q x (List.mem_cons_of_mem _ hx))]
          · rw [if_neg h3, if_neg (fun q => h3 (q _ List.mem_cons_self).2.2)]
        · rw [if_neg h2, if_neg (fun q => h2 (q _ List.mem_cons_self).2.1)]
      · rw [if_neg h1, if_neg (fun q => h1 (q _ List.mem_cons_self).1)]
    · rw [if_neg (by omega), hv, List.drop_of_length_le (by omega), if_pos (by simp)]
theorem asked_is (q lot : Int) (l : List Off) (hl : l.length ≤ 4611686018427387904) (k : Nat) (hk : l.length + 2 ≤ k) : router_asked.f k q lot l = some (askV q lot l) := by
  obtain ⟨k, rfl⟩ : ∃ j, k = j + 1 := ⟨k - 1, by omega⟩
  unfold router_asked.f askV
  simp only [rwithin_is, Option.bind_some, decide_eq_true_eq]
  have h0 := asked_l0 l hl k 0 (Nat.zero_le _) (by omega)
  rw [List.drop_zero] at h0
  by_cases h1 : 0 ≤ q ∧ q ≤ 1099511627776
  · rw [if_pos h1]
    by_cases h2 : 1 ≤ lot ∧ lot ≤ 1099511627776
    · rw [if_pos ⟨h1, h2⟩, decide_eq_true h2]
      simp only [router_asked.j0, Bool.not_true, Bool.false_eq_true, if_false]
      exact h0
    · rw [if_neg (fun h => h2 h.2), decide_eq_false h2]
      simp only [router_asked.j0, Bool.not_false, if_true]
  · rw [if_neg h1, if_neg (fun h => h1 h.1)]
    simp only [router_asked.j0, if_true]
/-- The greatest number that two are whole numbers of. -/
def gcdI (a b : Int) : Int := (Nat.gcd a.toNat b.toNat : Int)
/-- The least number on two steps, or that there is none. -/
def stepV (a b : Int) : Int × Int := if a < 1 ∨ b < 1 then (0, 2) else tell (a / gcdI a b * b)
theorem gcd_step (X Y : Nat) : Nat.gcd X Y = Nat.gcd Y (X % Y) := by rw [Nat.gcd_comm X Y, Nat.gcd_rec Y X, Nat.gcd_comm]
theorem gcdI_b {a b : Int} (ha : 1 ≤ a) : 1 ≤ gcdI a b ∧ gcdI a b ≤ a := by
  unfold gcdI
  have h1 := Nat.gcd_pos_of_pos_left b.toNat (show 0 < a.toNat by omega)
  have h2 := Nat.gcd_le_left b.toNat (show 0 < a.toNat by omega)
  omega
theorem step_l0 (a b : Int) : ∀ (k X Y : Nat), 0 < X → Y < k → router_Step.l0 k a b (X : Int) (Y : Int) = (checked_Mul.f (wrap64 (Int.tdiv a (Nat.gcd X Y : Int))) b).bind fun bt => some (bt.1, bt.2) := by
  intro k
  induction k with
  | zero => intro X Y _ h; omega
  | succ k ih =>
    intro X Y hX hY
    unfold router_Step.l0
    by_cases h : 0 < Y
    · have hlt : X % Y < Y := Nat.mod_lt _ h
      rw [if_pos (by omega), if_neg (by omega), show Int.tmod (X : Int) (Y : Int) = ((X % Y : Nat) : Int) from rfl, ih Y (X % Y) h (by omega), ← gcd_step]
    · obtain rfl : Y = 0 := by omega
      rw [if_neg (by simp), if_neg (by omega), Nat.gcd_zero_right]
theorem step_is (a b : Int) (ha : in64 a) (hb : in64 b) (k : Nat) (hk : 9223372036854775810 ≤ k) : router_Step.f k a b = some (stepV a b) := by
  obtain ⟨k, rfl⟩ : ∃ j, k = j + 1 := ⟨k - 1, by omega⟩
  unfold router_Step.f stepV
  by_cases h1 : a < 1
  · rw [if_pos h1, if_pos (.inl h1)]; simp [router_Step.j0]
  · rw [if_neg h1]
    by_cases h2 : b < 1
    · rw [if_pos (.inr h2), decide_eq_true h2]; simp [router_Step.j0]
    · rw [if_neg (fun h => h.elim h1 h2), decide_eq_false h2]
      simp only [router_Step.j0, Bool.false_eq_true, if_false]
      obtain ⟨A, rfl⟩ := Int.eq_ofNat_of_zero_le (show 0 ≤ a by omega)
      obtain ⟨B, rfl⟩ := Int.eq_ofNat_of_zero_le (show 0 ≤ b by omega)
      have hb2 := hb.2
      rw [step_l0 _ _ k A B (by omega) (by omega)]
      have hg := gcdI_b (a := (A : Int)) (b := (B : Int)) (by omega)
      have e : gcdI (A : Int) (B : Int) = (Nat.gcd A B : Int) := by unfold gcdI; simp
      rw [e] at hg ⊢
      have hd0 : 0 ≤ (A : Int) / (Nat.gcd A B : Int) := Int.ediv_nonneg (by omega) (by omega)
      have hd1 : (A : Int) / (Nat.gcd A B : Int) ≤ A := Int.ediv_le_self _ (by omega)
      have ha2 := ha.2
      rw [Int.tdiv_eq_ediv_of_nonneg (by omega), w64 (by omega) (by omega), mul_is _ _ (by unfold in64; omega) hb, Option.bind_some]
/-- An offer's step; 0: it gets nothing. -/
def stepO (lot : Int) (x : Off) : Int := if (stepV lot x.f1).2 = 0 ∧ (stepV lot x.f1).1 ≤ 1099511627776 ∧ x.f4 = true then (stepV lot x.f1).1 else 0
theorem steps_l0 (lot : Int) (hlot : in64 lot) (l : List Off) (h64 : ∀ x ∈ l, in64 x.f1) (hl : l.length ≤ 1000000) : ∀ (k m : Nat) (acc : List Int), m ≤ l.length → acc.length + (l.length - m) ≤ 1000000 → 9223372036854775820 + (l.length - m) ≤ k →
    router_steps.l0 k lot acc l (l.length : Int) (m : Int) = some (acc ++ (l.drop m).map (stepO lot)) := by
  intro k
  induction k with
  | zero => intro m acc _ _ h; omega
  | succ k ih =>
    intro m acc hm ha hk
    unfold router_steps.l0
    by_cases h : m < l.length
    · have hx := h64 l[m] (List.getElem_mem h)
      have hs : wrap64 ((m : Int) + 1) = ((m + 1 : Nat) : Int) := wsucc m (by omega)
      have ih1 := fun v => ih (m + 1) (acc ++ [v]) (by omega) (by simp; omega) (by omega)
      rw [if_pos (by omega), if_pos (by omega), if_pos (by omega), rd_off l m h, step_is lot _ hlot hx k (by omega), Option.bind_some, List.drop_eq_getElem_cons h, hs]
      simp only [ih1]
      simp only [show (acc.length < 17592186044416) = True from eq_true (by omega), if_true]
      unfold stepO
      by_cases h1 : (stepV lot l[m].f1).2 = 0
      · rw [if_pos h1]
        by_cases h2 : (stepV lot l[m].f1).1 > 1099511627776
        · rw [if_pos h2, List.map_cons, if_neg (fun q => by omega)]; simp
        · rw [if_neg h2]
          by_cases h3 : l[m].f4 = true
          · rw [if_pos h3, List.map_cons, if_pos ⟨h1, by omega, h3⟩]; simp
          · rw [if_neg h3, List.map_cons, if_neg (fun q => h3 q.2.2)]; simp
      · rw [if_neg h1, List.map_cons, if_neg (fun q => h1 q.1)]; simp
    · rw [if_neg (by omega), List.drop_of_length_le (by omega)]; simp
theorem steps_is (lot : Int) (hlot : in64 lot) (l : List Off) (h64 : ∀ x ∈ l, in64 x.f1) (hl : l.length ≤ 1000000) (k : Nat) (hk : 9223372036854775820 + l.length ≤ k) : router_steps.f k lot l = some (l.map (stepO lot)) := by
  unfold router_steps.f
  have := steps_l0 lot hlot l h64 hl k 0 [] (Nat.zero_le _) (by simp; omega) (by omega)
  simpa using this
theorem stepV_nn (a b : Int) : 0 ≤ (stepV a b).1 := by
  unfold stepV
  split
  · simp
  · rename_i h
    have hg := gcdI_b (a := a) (b := b) (by omega)
    have hd : 0 ≤ a / gcdI a b := Int.ediv_nonneg (by omega) (by omega)
    have hm : 0 ≤ a / gcdI a b * b := Int.mul_nonneg hd (by omega)
    unfold tell
    split
    · exact hm
    · simp
theorem stepO_b (lot : Int) (x : Off) : 0 ≤ stepO lot x ∧ stepO lot x ≤ 1099511627776 := by
  unfold stepO
  have := stepV_nn lot x.f1
  split
  · rename_i h; omega
  · omega
/-- What Split answers: the pieces, an error's number. -/
def splitV (q lot : Int) (l : List Off) : List Pie × Int := if askV q lot l = 0 then (splitS (isortB ahd l) ((isortB ahd l).map (stepO lot)) q, 0) else ([], askV q lot l)
theorem askV_no {q lot : Int} {l : List Off} (h : askV q lot l = 0) : ((0 ≤ q ∧ q ≤ 1099511627776) ∧ 1 ≤ lot ∧ lot ≤ 1099511627776) ∧ (∀ x ∈ l, okO x) ∧ l.length ≤ 8 := by
  unfold askV at h
  split at h
  · rename_i h1
    split at h
    · rename_i h2
      split at h
      · omega
      · rename_i h3; exact ⟨h1, h2, by omega⟩
    · omega
  · omega
def router_Split.f (a0 a1 : Int) (l2 : List Off) : Option (List Pie × Int) := if l2.length ≤ 1000000 then some (splitV a0 a1 l2) else none
set_option maxHeartbeats 1000000 in
theorem split_no (k : Nat) (q lot e1 : Int) (A : Option Addr) (c : Nat) (l : List Off) (w : World) (hl : Kd.C k35 w A l.length l) (hc : l.length ≤ c) (hask : router_asked.f k q lot l = some e1) (he : e1 ≠ 0) :
    Calls Try.prog 14 #[.int .i64 q, .int .i64 lot, .slice A l.length c] w fun e w' => e = .returned (.tuple #[.slice none 0 0, .int .i64 e1]) ∧ Below w.heap.size w w' := by
  have h1 := router_asked.calls k q lot A c l e1 w hl hc hask
  have H1 := Lib.hid h1
  have he' : (e1 == 0) = false := by simpa using he
  clear h1 hl hask
  generalize l.length = n at *
  go_enter Try.func14, Try.ntmps14
  go_wp2_with fail
  refine (H1.out).mono ?_
  rintro e w1 ⟨rfl, b1⟩
  go_wp2_with fail
  go_ret2
  exact ⟨rfl, b1⟩
theorem router_Split.calls (a0 : Int) (a1 : Int) (A2 : Option Addr) (c2 : Nat) (l2 : List Off) (r1 : List Pie) (r2 : Int) (w : World) (hr2 : Kd.C k35 w A2 l2.length l2) (hc2 : l2.length ≤ c2) (h : router_Split.f a0 a1 l2 = some (r1, r2)) :
    Calls Try.prog 14 #[.int .i64 a0, .int .i64 a1, .slice A2 l2.length c2] w fun e w' => ∃ v0_ : Value, e = .returned (.tuple #[v0_, .int .i64 r2]) ∧ Kd.R k45 45 w' w.heap.size (fun _ => True) v0_ r1 ∧ Below w.heap.size w w' := by
  unfold router_Split.f at h
  split at h
  case isFalse => cases h
  case isTrue hlen =>
    have h := Option.some.inj h
    unfold splitV at h
    have hask := asked_is a0 a1 l2 (by omega) (l2.length + 2) (Nat.le_refl _)
    by_cases he : askV a0 a1 l2 = 0
    · rw [if_pos he] at h
      cases h
      obtain ⟨⟨hq, hlot⟩, hok, h8⟩ := askV_no he
      have hask2 := asked_is a0 a1 l2 (by omega) (9223372036854775820 + 8 + l2.length) (by omega)
      rw [he] at hask2
      have hmem : ∀ x ∈ isortB ahd l2, okO x := fun x hx => hok x ((isortB_perm ahd l2).mem_iff.1 hx)
      have hlen2 : (isortB ahd l2).length = l2.length := isortB_length ahd l2
      have hst := steps_is a1 (by unfold in64; omega) (isortB ahd l2) (fun x hx => by have := (hmem x hx).1; unfold in64; omega) (by omega) (9223372036854775820 + 8 + l2.length) (by omega)
      have hgz : ∀ i : Nat, (offD (isortB ahd l2) i) ∈ isortB ahd l2 ∨ offD (isortB ahd l2) i = z35 := by
        intro i
        unfold offD
        by_cases hi : i < (isortB ahd l2).length
        · left; rw [List.getD_eq_getElem?_getD, List.getElem?_eq_getElem hi]; exact List.getElem_mem hi
        · right; rw [List.getD_eq_getElem?_getD, List.getElem?_eq_none (by omega)]; rfl
      refine split_walk _ a0 a1 A2 c2 l2 _ w hr2 hc2 ?_ hask2 hst h8 (by rw [List.length_map, hlen2]) ?_ hq ?_
      · intro hA
        by_cases hz : l2.length = 0
        · exact hz
        · obtain ⟨ad, e, _⟩ := hr2.2.2 (by omega)
          rw [hA] at e; cases e
      · intro i
        by_cases hi : i < (isortB ahd l2).length
        · have e : ((isortB ahd l2).map (stepO a1)).getD i 0 = stepO a1 (isortB ahd l2)[i] := by simp [hi]
          rw [e]; exact stepO_b _ _
        · have e : ((isortB ahd l2).map (stepO a1)).getD i 0 = 0 := by simp [Nat.le_of_not_lt hi]
          rw [e]; omega
      · intro i
        rcases hgz i with h | h
        · exact (hmem _ h).2.2
        · rw [h]; decide
    · rw [if_neg he] at h
      cases h
      refine (split_no _ a0 a1 _ A2 c2 l2 w hr2 hc2 hask he).mono ?_
      rintro e w' ⟨rfl, hb⟩
      exact ⟨_, rfl, Kd.R_nil _ _ _ _ _, hb⟩
end Go.Proofs.Ytadjadakncidgaa.Hand
