/- Texts laid together by join.py: AlB AlT AlE. -/
import Derived.Test.YtknmojjccfhchaaAlP
import Derived.Test.YtknmojjccfhchaaAlG
import Derived.Test.YtknmojjccfhchaaUx13
/- What is true of a sharing out, plainly. -/
set_option linter.unusedVariables false
set_option linter.unusedSimpArgs false
namespace Go.Proofs.Ytknmojjccfhchaa.Hand
open Go Go.RowKit Go.Lib Go.Sort Go.Proofs.YtknmojjccfhchaaW.PrintWords Go.Proofs.YtknmojjccfhchaaW.PrintMore Go.Proofs.Ytknmojjccfhchaa.RL Go.Proofs.Ytknmojjccfhchaa.PL Go.Proofs.Ytknmojjccfhchaa.St
theorem fold_at (t : List Nat) : t.Nodup → ∀ (G : List Int) (i : Nat), i < G.length → (t.foldl (fun G i => G.set i (G.getD i 0 + 1)) G).getD i 0 = G.getD i 0 + (if i ∈ t then 1 else 0) := by
  induction t with
  | nil => intro _ G i _; simp
  | cons j t ih =>
    intro hn G i hi
    rw [List.nodup_cons] at hn
    rw [List.foldl_cons, ih hn.2 _ i (by rw [List.length_set]; exact hi)]
    by_cases e : i = j
    · subst e
      rw [if_neg hn.1, if_pos (by simp), List.getD_eq_getElem?_getD, List.getElem?_set_self hi]
      simp
    · rw [List.getD_eq_getElem?_getD, List.getElem?_set_ne (Ne.symm e), ← List.getD_eq_getElem?_getD]
      by_cases h : i ∈ t
      · rw [if_pos h, if_pos (by simp [h])]
      · rw [if_neg h, if_neg (by simp [h, e])]
theorem ord_nodup (r : List Int) : (ordS r).Nodup := (ord_perm r).nodup_iff.2 List.nodup_range
/-- What is left over: as many as the rests make. -/
theorem left_is {q : Int} {l : List Int} (hq : 0 ≤ q) (hb : ∀ x ∈ l, 0 ≤ x) (hs : 1 ≤ l.sum) : 0 ≤ q - (gotS q l.sum l).sum ∧ (q - (gotS q l.sum l).sum) * l.sum = (restS q l.sum l).sum ∧ q - (gotS q l.sum l).sum ≤ l.length := by
  obtain ⟨h1, h2, h3, h4⟩ := got_sum (all := l.sum) hq hs l hb
  have e : (q - (gotS q l.sum l).sum) * l.sum = (restS q l.sum l).sum := by rw [Int.sub_mul]; omega
  refine ⟨?_, e, ?_⟩
  · by_cases h : 0 ≤ q - (gotS q l.sum l).sum
    · exact h
    · have := Int.mul_lt_mul_of_pos_right (show q - (gotS q l.sum l).sum < 0 by omega) (show 0 < l.sum by omega)
      omega
  · refine Int.le_of_mul_le_mul_right (a := l.sum) ?_ (by omega)
    rw [e]
    refine Int.le_trans h4 ?_
    exact Int.mul_le_mul_of_nonneg_left (by omega) (by omega)
theorem got_len (q all : Int) (l : List Int) : (gotS q all l).length = l.length ∧ (restS q all l).length = l.length := by simp [gotS, restS]
theorem take_pos {α : Type} {l : List α} {x : α} {k : Nat} (h : x ∈ l.take k) : ∃ t, t < k ∧ ∃ ht : t < l.length, l[t] = x := by
  obtain ⟨t, ht, rfl⟩ := List.getElem_of_mem h
  rw [List.length_take] at ht
  exact ⟨t, by omega, by omega, by rw [List.getElem_take]⟩
end Go.Proofs.Ytknmojjccfhchaa.Hand

/- The greatest rest that has no more yet, again and again: the stable order, plainly. -/
set_option linter.unusedVariables false
set_option linter.unusedSimpArgs false
namespace Go.Proofs.Ytknmojjccfhchaa.Hand
open Go Go.RowKit Go.Lib Go.Sort Go.Proofs.YtknmojjccfhchaaW.PrintWords Go.Proofs.YtknmojjccfhchaaW.PrintMore Go.Proofs.Ytknmojjccfhchaa.RL Go.Proofs.Ytknmojjccfhchaa.PL Go.Proofs.Ytknmojjccfhchaa.St
/-- i stands ahead of k. -/
def lexR (r : List Int) (i k : Nat) : Prop := r.getD k 0 < r.getD i 0 ∨ (r.getD k 0 = r.getD i 0 ∧ i < k)
theorem ins_lex (r : List Int) (x : Nat) (l : List Nat) : (∀ y ∈ l, y < x) → l.Pairwise (lexR r) → (insB (ltR r) x l).Pairwise (lexR r) := by
  refine snoc_ind (p := fun l => (∀ y ∈ l, y < x) → l.Pairwise (lexR r) → (insB (ltR r) x l).Pairwise (lexR r)) (fun _ _ => by simp [insB_nil]) ?_ l
  intro l y ih h1 h2
  rw [List.pairwise_append] at h2
  rw [insB_snoc]
  by_cases e : ltR r x y = true
  · rw [if_pos e, List.pairwise_append]
    refine ⟨ih (fun z hz => h1 z (by simp [hz])) h2.1, by simp, fun z hz w hw => ?_⟩
    obtain rfl : w = y := by simpa using hw
    unfold ltR at e
    simp only [decide_eq_true_eq] at e
    rcases (insB_mem _ x z l).1 hz with rfl | hz
    · exact .inl e
    · exact h2.2.2 z hz _ (by simp)
  · rw [if_neg e, show l ++ [y, x] = (l ++ [y]) ++ [x] by simp, List.pairwise_append]
    unfold ltR at e
    simp only [decide_eq_true_eq] at e
    refine ⟨by rw [List.pairwise_append]; exact h2, by simp, fun z hz w hw => ?_⟩
    obtain rfl : w = x := by simpa using hw
    have hyx := h1 y (by simp)
    have hly : lexR r y w := by unfold lexR; omega
    rcases List.mem_append.1 hz with hz | hz
    · have hzy := h2.2.2 z hz y (by simp)
      have hzx := h1 z (by simp [hz])
      unfold lexR at *
      omega
    · obtain rfl : z = y := by simpa using hz
      exact hly
theorem ord_lex (r : List Int) : (ordS r).Pairwise (lexR r) := by
  have h : ∀ n, (isortB (ltR r) (List.range n)).Pairwise (lexR r) := by
    intro n
    induction n with
    | zero => exact List.Pairwise.nil
    | succ n ih =>
      rw [List.range_succ, isortB_snoc]
      exact ins_lex r n _ (fun y hy => List.mem_range.1 ((isortB_perm _ _).mem_iff.1 hy)) ih
  exact h _
/-- The first of the greatest rests among the first j that have no more yet. -/
def pickN (r : List Int) (m : List Bool) : Nat → Int
  | 0 => -1
  | j + 1 => if m.getD j false = false ∧ (pickN r m j < 0 ∨ r.getD (pickN r m j).toNat 0 < r.getD j 0) then (j : Int) else pickN r m j
theorem pick_is (r : List Int) (m : List Bool) : ∀ j, (pickN r m j = -1 ∧ ∀ i, i < j → m.getD i false = true) ∨ ∃ p : Nat, p < j ∧ pickN r m j = p ∧ m.getD p false = false ∧ (∀ i, i < j → m.getD i false = false → r.getD i 0 ≤ r.getD p 0) ∧ (∀ i, i < p → m.getD i false = false → r.getD i 0 < r.getD p 0) := by
  intro j
  induction j with
  | zero => exact .inl ⟨rfl, fun i hi => absurd hi (Nat.not_lt_zero _)⟩
  | succ j ih =>
    unfold pickN
    by_cases c : m.getD j false = false ∧ (pickN r m j < 0 ∨ r.getD (pickN r m j).toNat 0 < r.getD j 0)
    · rw [if_pos c]
      right
      refine ⟨j, by omega, rfl, c.1, fun i hi hm => ?_, fun i hi hm => ?_⟩
      · by_cases e : i = j
        · subst e; exact Int.le_refl _
        · rcases ih with ⟨_, h2⟩ | ⟨p, hp, h2, h3, h4, h5⟩
          · rw [h2 i (by omega)] at hm; cases hm
          · have := h4 i (by omega) hm
            rcases c.2 with h | h
            · omega
            · rw [h2, Int.toNat_natCast] at h; omega
      · rcases ih with ⟨_, h2⟩ | ⟨p, hp, h2, h3, h4, h5⟩
        · rw [h2 i (by omega)] at hm; cases hm
        · have := h4 i (by omega) hm
          rcases c.2 with h | h
          · omega
          · rw [h2, Int.toNat_natCast] at h; omega
    · rw [if_neg c]
      rcases ih with ⟨h1, h2⟩ | ⟨p, hp, h2, h3, h4, h5⟩
      · left
        refine ⟨h1, fun i hi => ?_⟩
        by_cases e : i = j
        · subst e
          cases hm : m.getD i false with
          | true => rfl
          | false => exact absurd ⟨hm, .inl (by omega)⟩ c
        · exact h2 i (by omega)
      · right
        refine ⟨p, by omega, h2, h3, fun i hi hm => ?_, h5⟩
        by_cases e : i = j
        · subst e
          rcases Int.lt_or_le (r.getD p 0) (r.getD i 0) with h | h
          · exact absurd ⟨hm, .inr (by rw [h2, Int.toNat_natCast]; exact h)⟩ c
          · exact h
        · exact h4 i (by omega) hm
/-- Who has one more behind t rounds. -/
def moreS (r : List Int) (t : Nat) : List Bool := (List.range r.length).map (fun i => decide (i ∈ (ordS r).take t))
theorem more_len (r : List Int) (t : Nat) : (moreS r t).length = r.length := by simp [moreS]
theorem more_at (r : List Int) (t i : Nat) (hi : i < r.length) : (moreS r t).getD i false = decide (i ∈ (ordS r).take t) := by
  unfold moreS
  rw [List.getD_eq_getElem?_getD, List.getElem?_map, List.getElem?_range hi]
  rfl
theorem more_zero (r : List Int) : moreS r 0 = List.replicate r.length false := by
  apply List.ext_getElem
  · simp [moreS]
  · intro i h1 h2
    simp [moreS]
theorem ord_mem (r : List Int) (t : Nat) (ht : t < r.length) : (ordS r)[t]? = some ((ordS r).getD t 0) := by
  rw [List.getD_eq_getElem?_getD, List.getElem?_eq_getElem (by rw [ord_len]; exact ht)]; rfl
theorem more_step (r : List Int) (t : Nat) (ht : t < r.length) : (moreS r t).set ((ordS r).getD t 0) true = moreS r (t + 1) := by
  apply List.ext_getElem
  · simp [moreS]
  · intro i h1 h2
    have hi : i < r.length := by rw [more_len] at h2; exact h2
    have htk : (ordS r).take (t + 1) = (ordS r).take t ++ [(ordS r).getD t 0] := by
      rw [List.take_succ_eq_append_getElem (by rw [ord_len]; exact ht)]
      congr 1
      rw [List.getD_eq_getElem?_getD, List.getElem?_eq_getElem (by rw [ord_len]; exact ht)]; rfl
    rw [List.getElem_set]
    simp only [moreS, List.getElem_map, List.getElem_range, htk]
    by_cases e : (ordS r).getD t 0 = i
    · rw [if_pos e]; simp [← e]
    · rw [if_neg e]
      apply decide_eq_decide.2
      constructor
      · intro h; exact List.mem_append_left _ h
      · intro h
        rcases List.mem_append.1 h with h | h
        · exact h
        · exact absurd (List.mem_singleton.1 h).symm e
/-- What is picked in round t is who stands at place t. -/
theorem pick_ord (r : List Int) (t : Nat) (ht : t < r.length) : pickN r (moreS r t) r.length = ((ordS r).getD t 0 : Nat) := by
  have hot := ord_lt r t ht
  have hto := ord_mem r t ht
  have hlt : t < (ordS r).length := by rw [ord_len]; exact ht
  have hoe : (ordS r)[t] = (ordS r).getD t 0 := by rw [List.getD_eq_getElem?_getD, List.getElem?_eq_getElem hlt]; rfl
  have hnt : (moreS r t).getD ((ordS r).getD t 0) false = false := by
    rw [more_at r t _ hot, decide_eq_false_iff_not]
    intro h
    obtain ⟨s, h1, h2, h3⟩ := take_pos h
    rw [← hoe] at h3
    exact List.pairwise_iff_getElem.1 (ord_nodup r) s t h2 hlt h1 h3
  rcases pick_is r (moreS r t) r.length with ⟨_, h2⟩ | ⟨p, hp, h2, h3, h4, h5⟩
  · rw [h2 _ hot] at hnt; cases hnt
  · rw [h2]
    by_cases e : p = (ordS r).getD t 0
    · rw [e]
    · exfalso
      have hpm : p ∈ ordS r := (ord_perm r).mem_iff.2 (List.mem_range.2 hp)
      obtain ⟨s, hs, hsp⟩ := List.getElem_of_mem hpm
      rw [more_at r t p hp, decide_eq_false_iff_not] at h3
      have hst : t < s := by
        rcases Nat.lt_trichotomy s t with h | h | h
        · exact absurd (by rw [← hsp]; exact List.mem_take_iff_getElem.2 ⟨s, by omega, rfl⟩) h3
        · subst h; rw [hoe] at hsp; exact absurd hsp.symm e
        · exact h
      have hl := List.pairwise_iff_getElem.1 (ord_lex r) t s hlt hs hst
      rw [hoe, hsp] at hl
      have a1 := h4 _ hot hnt
      rcases hl with hl | ⟨hl1, hl2⟩
      · omega
      · have := h5 _ hl2 hnt
        omega
/-- One more for each that has more: what the order gives. -/
theorem more_bump (G r : List Int) (t : Nat) (hG : G.length = r.length) (i : Nat) (hi : i < r.length) : (bump G (ordS r) t).getD i 0 = G.getD i 0 + (if (moreS r t).getD i false = true then 1 else 0) := by
  unfold bump
  rw [fold_at _ ((ord_nodup _).sublist (List.take_sublist _ _)) _ i (by omega), more_at r t i hi]
  simp only [decide_eq_true_eq]
end Go.Proofs.Ytknmojjccfhchaa.Hand

/- The document's split of a quantity, plainly: it is the stable one. -/
set_option linter.unusedVariables false
set_option linter.unusedSimpArgs false
namespace Go.Proofs.Ytknmojjccfhchaa.Hand
open Go Go.RowKit Go.Proofs.Ytknmojjccfhchaa.U Go.Proofs.YtknmojjccfhchaaW.PrintWords Go.Proofs.YtknmojjccfhchaaW.PrintMore Go.Proofs.Ytknmojjccfhchaa.RL Go.Proofs.Ytknmojjccfhchaa.PL
/- Split. -/
theorem rdOf_nat (m : List Bool) (i : Nat) : rdOf false m (i : Int) = m.getD i false := by unfold rdOf; rw [Int.toNat_natCast]
/-- What a split is made of. -/
structure SplitF (q all : Int) (l : List Int) : Prop where
  hn : 0 < l.length
  hm : l.length ≤ 64
  hq : 0 ≤ q ∧ q ≤ 9223372036854775807
  hall : 1 ≤ all ∧ all ≤ 70368744177664
  sum : all = l.sum
  pos : ∀ x ∈ l, 0 ≤ x
theorem SplitF.at {q all : Int} {l : List Int} (F : SplitF q all l) (i : Nat) (hi : i < l.length) : 0 ≤ l.getD i 0 ∧ l.getD i 0 ≤ all := by
  have hmem : l.getD i 0 ∈ l := by rw [List.getD_eq_getElem?_getD, List.getElem?_eq_getElem hi]; exact List.getElem_mem hi
  exact ⟨F.pos _ hmem, by rw [F.sum]; exact mem_le_sum l F.pos _ hmem⟩
theorem SplitF.got {q all : Int} {l : List Int} (F : SplitF q all l) : (∀ x ∈ gotS q all l, 0 ≤ x) ∧ (gotS q all l).sum ≤ q ∧ q - (gotS q all l).sum ≤ l.length := by
  have hs := F.hall
  have h := left_is (l := l) F.hq.1 F.pos (by rw [← F.sum]; exact hs.1)
  rw [← F.sum] at h
  refine ⟨fun x hx => ?_, by omega, h.2.2⟩
  obtain ⟨y, hy, rfl⟩ := List.mem_map.1 hx
  exact Int.ediv_nonneg (Int.mul_nonneg F.hq.1 (F.pos y hy)) (by omega)
/-- How far one is below its fair part: its rest. -/
theorem SplitF.over {q all : Int} {l : List Int} (F : SplitF q all l) (i : Nat) (hi : i < l.length) : spigotref36_over.f q (rd l (i : Int)) (rd (gotS q all l) (i : Int)) all = some (enc ((restS q all l).getD i 0)) ∧ small ((restS q all l).getD i 0) := by
  obtain ⟨h0, h1⟩ := F.at i hi
  have hall := F.hall
  obtain ⟨g1, g2⟩ := got_at q all l i hi
  have hmem : (gotS q all l).getD i 0 ∈ gotS q all l := by rw [List.getD_eq_getElem?_getD, List.getElem?_eq_getElem (by rw [(got_len q all l).1]; exact hi)]; exact List.getElem_mem _
  have hle := mem_le_sum _ F.got.1 _ hmem
  have hge := F.got.1 _ hmem
  have hgs := F.got.2.1
  have hq := F.hq
  have := over_is q (l.getD i 0) ((gotS q all l).getD i 0) all F.hq ⟨h0, by omega⟩ ⟨hge, by omega⟩ ⟨by omega, hall.2⟩
  rw [getD_rd, getD_rd, g2]
  have hde : q * l.getD i 0 - q * l.getD i 0 / all * all = q * l.getD i 0 % all := by
    have := Int.ediv_mul_add_emod (q * l.getD i 0) all
    omega
  rw [g1, hde] at this
  rw [g1]; exact this
theorem split_l3 (l G F : List Int) (m : List Bool) (hG : G.length = l.length) (hF : F.length = l.length) (hmn : m.length = l.length) (hn : l.length ≤ 64) (hstep : ∀ i, i < l.length → F.getD i 0 = G.getD i 0 + (if m.getD i false = true then 1 else 0)) (hr : ∀ i, i < l.length → m.getD i false = true → -9223372036854775808 ≤ G.getD i 0 ∧ G.getD i 0 + 1 ≤ 9223372036854775807) (d : Nat) :
    ∀ i : Nat, i ≤ l.length → l.length - i = d → Ev fun k => spigotref36_Split.l3 k l (F.take i ++ G.drop i) m (i : Int) = some F := by
  induction d with
  | zero =>
    intro i hi hd
    refine (Ev.now (p := fun _ => True) fun _ => trivial).succ fun k _ => ?_
    simp only [spigotref36_Split.l3]
    rw [if_neg (by omega), List.take_of_length_le (by omega), List.drop_eq_nil_of_le (by omega), List.append_nil]
  | succ d ih =>
    intro i hi hd
    refine (ih (i + 1) (by omega) (by omega)).succ fun k hk => ?_
    have hil : i < l.length := by omega
    have hlen : (F.take i).length = i := by rw [List.length_take]; omega
    have htl : (F.take i ++ G.drop i).length = l.length := by rw [List.length_append, hlen, List.length_drop]; omega
    have hat : rd (F.take i ++ G.drop i) (i : Int) = G.getD i 0 := by
      rw [getD_rd, List.getD_eq_getElem?_getD, List.getElem?_append_right (by omega), hlen, Nat.sub_self, List.getElem?_drop, Nat.add_zero, List.getD_eq_getElem?_getD]
    have hset : ∀ v, v = F.getD i 0 → (F.take i ++ G.drop i).set i v = F.take (i + 1) ++ G.drop (i + 1) := fun v hv => by
      rw [List.set_append_right _ _ (by omega), hlen, Nat.sub_self, List.drop_eq_getElem_cons (show i < G.length by omega), List.set_cons_zero, List.take_succ_eq_append_getElem (show i < F.length by omega), List.append_assoc, hv, List.getD_eq_getElem?_getD, List.getElem?_eq_getElem (show i < F.length by omega)]
      rfl
    have hsame : F.getD i 0 = G.getD i 0 → F.take i ++ G.drop i = F.take (i + 1) ++ G.drop (i + 1) := fun h => by
      rw [← hset (F.getD i 0) rfl]
      have e : (F.take i ++ G.drop i).getD i 0 = F.getD i 0 := by rw [h, ← hat, getD_rd]
      apply List.ext_getElem
      · simp
      · intro j h1 h2
        rw [List.getElem_set]
        by_cases e' : i = j
        · subst e'
          rw [if_pos rfl, ← e, List.getD_eq_getElem?_getD, List.getElem?_eq_getElem h1]; rfl
        · rw [if_neg e']
    have hs := hstep i hil
    simp only [spigotref36_Split.l3]
    rw [if_pos (by omega), if_pos (by omega), if_pos (by omega), rdOf_nat]
    by_cases c : m.getD i false = true
    · rw [if_pos c] at hs
      have hb := hr i hil c
      rw [if_pos c, if_pos (by omega), hat, Int.toNat_natCast, w64 (by omega) (by omega), hset _ hs.symm, wrap_n (by omega)]
      exact hk
    · rw [if_neg c, Int.add_zero] at hs
      rw [if_neg c, hsame hs, wrap_n (by omega)]
      exact hk
theorem split_l2 {q all : Int} {l : List Int} (F : SplitF q all l) (t : Nat) (ht : t < l.length) (left : Int) (res : List Int) (hnx : Ev fun k => spigotref36_Split.l1 k q l all (gotS q all l) (moreS (restS q all l) (t + 1)) (wrap64 (left - 1)) = some res) (d : Nat) :
    ∀ i : Nat, i ≤ l.length → l.length - i = d → Ev fun k => spigotref36_Split.l2 k q l all (gotS q all l) (moreS (restS q all l) t) left (pickN (restS q all l) (moreS (restS q all l) t) i) (i : Int) = some res := by
  have hrl := (got_len q all l).2
  have hgl := (got_len q all l).1
  have hml : (moreS (restS q all l) t).length = l.length := by rw [more_len, hrl]
  have hm := F.hm
  induction d with
  | zero =>
    intro i hi hd
    refine hnx.succ fun k hk => ?_
    obtain rfl : i = l.length := by omega
    have hp := pick_ord (restS q all l) t (by rw [hrl]; exact ht)
    have ho := ord_lt (restS q all l) t (by rw [hrl]; exact ht)
    rw [hrl] at hp ho
    simp only [spigotref36_Split.l2]
    rw [if_neg (by omega), hp, if_pos (by omega), if_pos (by omega), Int.toNat_natCast, more_step (restS q all l) t (by rw [hrl]; exact ht)]
    exact hk
  | succ d ih =>
    intro i hi hd
    refine (ih (i + 1) (by omega) (by omega)).succ fun k hk => ?_
    have hil : i < l.length := by omega
    rw [← wrap_n (by omega)] at hk
    simp only [spigotref36_Split.l2]
    rw [if_pos (by omega), if_pos (by omega), if_pos (by omega), rdOf_nat]
    generalize hM : moreS (restS q all l) t = M at *
    unfold pickN at hk
    by_cases c : M.getD i false = true
    · rw [if_pos c]
      rw [if_neg (by rw [c]; simp)] at hk
      exact hk
    · rw [if_neg c]
      have cf : M.getD i false = false := by simpa using c
      by_cases c2 : pickN (restS q all l) M i < 0
      · rw [if_pos c2]
        rw [if_pos ⟨cf, .inl c2⟩] at hk
        exact hk
      · rw [if_neg c2]
        rcases pick_is (restS q all l) M i with ⟨h1, _⟩ | ⟨p, hp, h2, _⟩
        · omega
        · rw [h2] at hk ⊢
          have hpl : p < l.length := by omega
          rw [if_pos (by omega), if_pos (by omega), if_pos (by omega), (F.over p hpl).1, Option.bind_some, if_pos (by omega), (F.over i hil).1, Option.bind_some, below_is _ _ (F.over p hpl).2 (F.over i hil).2, Option.bind_some]
          by_cases c3 : (restS q all l).getD p 0 < (restS q all l).getD i 0
          · rw [if_pos (decide_eq_true c3)]
            rw [if_pos ⟨cf, .inr (by rw [Int.toNat_natCast]; exact c3)⟩] at hk
            exact hk
          · rw [if_neg (by rw [decide_eq_true_eq]; exact c3)]
            rw [if_neg (by rintro ⟨_, h | h⟩
                           · omega
                           · rw [Int.toNat_natCast] at h; exact c3 h)] at hk
            exact hk
theorem split_l1 {q all : Int} {l : List Int} (F : SplitF q all l) (d : Nat) :
    ∀ t : Nat, (t : Int) ≤ q - (gotS q all l).sum → (q - (gotS q all l).sum).toNat - t = d → Ev fun k => spigotref36_Split.l1 k q l all (gotS q all l) (moreS (restS q all l) t) (q - (gotS q all l).sum - t) = some (bump (gotS q all l) (ordS (restS q all l)) (q - (gotS q all l).sum).toNat) := by
  have hg := F.got
  have hgl := got_len q all l
  have hq := F.hq
  induction d with
  | zero =>
    intro t ht hd
    have e : t = (q - (gotS q all l).sum).toNat := by omega
    rw [← e]
    have h3 := split_l3 l (gotS q all l) (bump (gotS q all l) (ordS (restS q all l)) t) (moreS (restS q all l) t) hgl.1 (by rw [bump_len]; exact hgl.1) (by rw [more_len]; exact hgl.2) F.hm (fun i hi => more_bump _ _ t (by rw [hgl.1, hgl.2]) i (by rw [hgl.2]; exact hi)) (fun i hi hmi => by
      have hmem : (gotS q all l).getD i 0 ∈ gotS q all l := by rw [List.getD_eq_getElem?_getD, List.getElem?_eq_getElem (by rw [hgl.1]; exact hi)]; exact List.getElem_mem _
      have h1 := hg.1 _ hmem
      have h2 := mem_le_sum _ hg.1 _ hmem
      have htp : 0 < t := by
        rcases Nat.eq_zero_or_pos t with h | h
        · rw [h, more_at _ 0 i (by rw [hgl.2]; exact hi)] at hmi; simp at hmi
        · exact h
      omega) l.length 0 (Nat.zero_le _) rfl
    refine h3.succ fun k hk => ?_
    simp only [spigotref36_Split.l1]
    rw [if_neg (by omega)]
    simpa using hk
  | succ d ih =>
    intro t ht hd
    have hn := ih (t + 1) (by omega) (by omega)
    rw [show q - (gotS q all l).sum - ((t + 1 : Nat) : Int) = wrap64 (q - (gotS q all l).sum - t - 1) by
      have := sum_nn _ hg.1
      rw [w64 (by omega) (by omega)]; omega] at hn
    have h2 := split_l2 F t (by omega) _ _ hn l.length 0 (Nat.zero_le _) rfl
    refine h2.succ fun k hk => ?_
    simp only [spigotref36_Split.l1]
    rw [if_pos (by omega)]
    exact hk
theorem split_l0 {q all : Int} {l : List Int} (F : SplitF q all l) (d : Nat) :
    ∀ i : Nat, i ≤ l.length → l.length - i = d → Ev fun k => spigotref36_Split.l0 k q l all ((gotS q all l).take i) (i : Int) = some (bump (gotS q all l) (ordS (restS q all l)) (q - (gotS q all l).sum).toNat) := by
  have hg := F.got
  have hgl := got_len q all l
  have hq := F.hq
  have hm := F.hm
  induction d with
  | zero =>
    intro i hi hd
    obtain rfl : i = l.length := by omega
    have h1 := split_l1 F _ 0 (by omega) rfl
    have h2 := rsum_is (gotS q all l) (by rw [hgl.1]; omega) hg.1 (by omega)
    have hnn := sum_nn _ hg.1
    refine (h1.both h2).succ fun k ⟨a, b⟩ => ?_
    simp only [spigotref36_Split.l0]
    rw [if_neg (by omega), if_pos (by omega), if_pos (by omega), List.take_of_length_le (by rw [hgl.1]; omega), b, Option.bind_some, Int.toNat_natCast, w64 (by omega) (by omega)]
    rw [more_zero, hgl.2] at a
    simpa using a
  | succ d ih =>
    intro i hi hd
    refine (ih (i + 1) (by omega) (by omega)).succ fun k hk => ?_
    have hil : i < l.length := by omega
    have e : (gotS q all l).take (i + 1) = (gotS q all l).take i ++ [q * l.getD i 0 / all] := by
      rw [List.take_succ_eq_append_getElem (by rw [hgl.1]; exact hil)]
      congr 1
      rw [← (got_at q all l i hil).1, List.getD_eq_getElem?_getD, List.getElem?_eq_getElem (by rw [hgl.1]; exact hil)]; rfl
    simp only [spigotref36_Split.l0]
    rw [if_pos (by omega), if_pos (by omega), getD_rd, rfair_is q _ all F.hq (F.at i hil) F.hall, Option.bind_some, if_pos (by rw [List.length_take]; omega), ← e, wrap_n (by omega)]
    exact hk
theorem rsplit_is {q : Int} {l : List Int} (F : SplitF q l.sum l) : Ev fun k => spigotref36_Split.f k q l = some (splitS q l) := by
  have hm := F.hm
  have hall := F.hall
  have h1 := split_l0 F l.length 0 (Nat.zero_le _) rfl
  have h2 := rsum_is l (by omega) F.pos (by omega)
  refine (h1.both h2).imp fun k ⟨a, b⟩ => ?_
  unfold spigotref36_Split.f splitS
  rw [b, Option.bind_some]
  simpa using a
end Go.Proofs.Ytknmojjccfhchaa.Hand

