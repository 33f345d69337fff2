/- Texts laid together by join.py: RouK Rou8 WalkRouterRanks. -/
import Derived.Test.YtadjadakncidgaaRouPl
import Derived.Test.YtadjadakncidgaaUx8
import Derived.Test.YtadjadakncidgaaUx9
import Derived.Test.YtadjadakncidgaaRou2
import Derived.Test.YtadjadakncidgaaKot
import Derived.Test.YtadjadakncidgaaRou5
import Derived.Deep.QuietTactic
import Derived.BigQuiet
import Derived.Test.YtadjadakncidgaaUx11
/- The document's order of offers, plainly; a row of the statement's as offers. -/
set_option linter.unusedVariables false
set_option linter.unusedSimpArgs false
namespace Go.Proofs.Ytadjadakncidgaa.Hand
open Go Go.RowKit Go.Proofs.YtadjadakncidgaaW.PrintWords Go.Proofs.YtadjadakncidgaaW.PrintMore Go.Proofs.Ytadjadakncidgaa.RL Go.Proofs.Ytadjadakncidgaa.PL Go.Proofs.Ytadjadakncidgaa.St Go.Proofs.Ytadjadakncidgaa.U
theorem rd_ofd (l : List Off) (m : Nat) (h : m < l.length) : rd_T36 (l.map cvO) (m : Int) = cvO l[m] := by unfold rd_T36; simp [h]
theorem rahead_is (x y : Off) : spigotref23_ahead.f (cvO x).f0 (cvO x).f1 (cvO x).f2 (cvO x).f3 (cvO x).f4 (cvO y).f0 (cvO y).f1 (cvO y).f2 (cvO y).f3 (cvO y).f4 = some (ahd x y) := by
  show spigotref23_ahead.f x.f0 x.f1 x.f2 x.f3 x.f4 y.f0 y.f1 y.f2 y.f3 y.f4 = _
  unfold spigotref23_ahead.f ahd ltOf cfO lessI
  by_cases h1 : x.f2 = y.f2
  · rw [if_pos h1]
    have e1 : (if x.f2 < y.f2 then (-1 : Int) else if y.f2 < x.f2 then 1 else 0) = 0 := by rw [if_neg (by omega), if_neg (by omega)]
    rw [if_pos e1]
    by_cases h2 : x.f3 = y.f3
    · have e2 : (if y.f3 < x.f3 then (-1 : Int) else if x.f3 < y.f3 then 1 else 0) = 0 := by rw [if_neg (by omega), if_neg (by omega)]
      rw [if_pos h2, if_pos e2]
      congr 1
      rw [decide_eq_decide]
      split <;> (try split) <;> omega
    · have e2 : ¬ (if y.f3 < x.f3 then (-1 : Int) else if x.f3 < y.f3 then 1 else 0) = 0 := by split <;> (try split) <;> omega
      rw [if_neg h2, if_neg e2]
      congr 1
      rw [decide_eq_decide]
      split <;> (try split) <;> omega
  · have e1 : ¬ (if x.f2 < y.f2 then (-1 : Int) else if y.f2 < x.f2 then 1 else 0) = 0 := by split <;> (try split) <;> omega
    rw [if_neg h1, if_neg e1]
    congr 1
    rw [decide_eq_decide]
    split <;> (try split) <;> omega
/-- The document's way to put one in: from the end, ahead of all that it stands ahead of. -/
theorem rrank_l1 (l : List Off) (hl : l.length ≤ 1000) (i : Nat) (hi : i < l.length) (S : List Off) (r : List Ofd) (K : Nat) : ∀ (P : List Off), (∀ s ∈ S, ahd l[i] s = true) → P.length + S.length ≤ 1000 →
    (∀ k, K ≤ k → spigotref23_Rank.l0 k (l.map cvO) ((insB ahd l[i] (P ++ S)).map cvO) ((i + 1 : Nat) : Int) = some r) →
    ∀ k, K + P.length + 1 ≤ k → spigotref23_Rank.l1 k (l.map cvO) ((P ++ S).map cvO) (i : Int) (P.length : Int) = some r := by
  intro P
  revert S
  refine snoc_ind (p := fun P => ∀ (S : List Off), (∀ s ∈ S, ahd l[i] s = true) → P.length + S.length ≤ 1000 → (∀ k, K ≤ k → spigotref23_Rank.l0 k (l.map cvO) ((insB ahd l[i] (P ++ S)).map cvO) ((i + 1 : Nat) : Int) = some r) → ∀ k, K + P.length + 1 ≤ k → spigotref23_Rank.l1 k (l.map cvO) ((P ++ S).map cvO) (i : Int) (P.length : Int) = some r) ?_ ?_ P
  · intro S hS hlen hc k hk
    obtain ⟨k, rfl⟩ : ∃ j, k = j + 1 := ⟨k - 1, by simp at hk; omega⟩
    have hc := hc k (by simp at hk; omega)
    rw [insB_left ahd l[i] [] S hS, insB_nil] at hc
    simp only [spigotref23_Rank.l1, List.length_nil, List.nil_append, Option.bind_some]
    have hw : wrap64 ((i : Int) + 1) = ((i + 1 : Nat) : Int) := wsucc i (by omega)
    simp only [List.length_nil, List.nil_append] at hlen
    rw [if_neg (by omega), if_pos (by omega), if_pos (by rw [List.length_map]; omega), if_pos (by simp), if_pos (by omega), if_pos (by rw [List.length_map]; omega), if_pos (by simp), rd_ofd l i hi]
    have e : ([] : List Ofd) ++ [(⟨(cvO l[i]).f0, (cvO l[i]).f1, (cvO l[i]).f2, (cvO l[i]).f3, (cvO l[i]).f4⟩ : Ofd)] ++ (S.map cvO).drop 0 = ([l[i]] ++ S).map cvO := by simp [cvO]
    rw [if_pos (by simp; omega), hw]
    simpa [cvO] using hc
  · intro P y ih S hS hlen hc k hk
    obtain ⟨k, rfl⟩ : ∃ j, k = j + 1 := ⟨k - 1, by simp at hk; omega⟩
    simp only [List.length_append, List.length_cons, List.length_nil, Nat.zero_add] at hlen hk ⊢
    have hp : wrap64 (((P.length + 1 : Nat) : Int) - 1) = (P.length : Int) := by rw [w64 (by omega) (by omega)]; omega
    have hlt : P.length < (P ++ [y] ++ S).length := by simp
    have hy : (P ++ [y] ++ S)[P.length] = y := by simp
    have hw : wrap64 ((i : Int) + 1) = ((i + 1 : Nat) : Int) := wsucc i (by omega)
    simp only [spigotref23_Rank.l1, List.nil_append, Option.bind_some]
    rw [if_pos (by omega), if_pos (by omega), if_pos (by rw [List.length_map]; omega), hp, if_pos (by omega), if_pos (by rw [List.length_map]; simp; omega), rd_ofd l i hi, rd_ofd _ P.length hlt, hy, rahead_is, Option.bind_some]
    cases ha : ahd l[i] y with
    | true =>
      rw [if_pos rfl]
      have := ih (y :: S) (fun s hs => by rcases List.mem_cons.1 hs with rfl | hs; exact ha; exact hS s hs) (by simp; omega) (fun k hk => by have := hc k hk; rwa [show P ++ [y] ++ S = P ++ y :: S by simp] at this) k (by omega)
      rwa [show P ++ y :: S = P ++ [y] ++ S by simp] at this
    | false =>
      rw [if_neg (by simp), if_pos (by omega), if_pos (by rw [List.length_map]; simp; omega), if_pos (by simp; omega), if_pos (by simp; omega), if_pos (by simp; omega), hw]
      have hc := hc k (by omega)
      rw [insB_left ahd l[i] (P ++ [y]) S hS, insB_snoc, if_neg (by rw [ha]; simp)] at hc
      have e1 : (((P.length + 1 : Nat) : Int)).toNat = P.length + 1 := by omega
      have e2 : ((P ++ [y] ++ S).map cvO).take (P.length + 1) = (P ++ [y]).map cvO := by rw [← List.map_take, List.take_left' (by simp)]
      have e3 : ((P ++ [y] ++ S).map cvO).drop (P.length + 1) = S.map cvO := by rw [← List.map_drop, List.drop_left' (by simp)]
      rw [e1, e2, e3]
      simpa [cvO] using hc
theorem rrank_l0 (l : List Off) (hl : l.length ≤ 900) (B : Nat) (hB : l.length + 2 ≤ B) : ∀ (d i : Nat), i + d = l.length → ∀ k, d * B + 1 ≤ k → spigotref23_Rank.l0 k (l.map cvO) ((isortB ahd (l.take i)).map cvO) (i : Int) = some ((isortB ahd l).map cvO) := by
  intro d
  induction d with
  | zero =>
    intro i hi k hk
    obtain ⟨k, rfl⟩ : ∃ j, k = j + 1 := ⟨k - 1, by omega⟩
    simp only [spigotref23_Rank.l0]
    rw [if_neg (by rw [List.length_map]; omega), List.take_of_length_le (by omega)]
  | succ d ih =>
    intro i hi k hk
    obtain ⟨k, rfl⟩ : ∃ j, k = j + 1 := ⟨k - 1, by omega⟩
    have hlt : i < l.length := by omega
    simp only [spigotref23_Rank.l0]
    rw [if_pos (by rw [List.length_map]; omega)]
    have hlen : (isortB ahd (l.take i)).length = i := by rw [isortB_length, List.length_take]; omega
    have hk2 : d * B + 1 + i + 1 ≤ k := by rw [Nat.add_mul] at hk; omega
    have hstep : isortB ahd (l.take (i + 1)) = insB ahd l[i] (isortB ahd (l.take i)) := by rw [List.take_succ_eq_append_getElem hlt, isortB_snoc]
    have := rrank_l1 l (by omega) i hlt [] ((isortB ahd l).map cvO) (d * B + 1) (isortB ahd (l.take i)) (by simp) (by rw [hlen]; simp; omega)
      (fun k hk => by rw [List.append_nil, ← hstep]; exact ih (i + 1) (by omega) k hk) k (by rw [hlen]; exact hk2)
    rw [List.append_nil] at this
    rw [List.length_map]
    exact this
theorem rrank_is (l : List Off) (hl : l.length ≤ 900) (k : Nat) (hk : l.length * (l.length + 2) + 1 ≤ k) : spigotref23_Rank.f k (l.map cvO) = some ((isortB ahd l).map cvO) := by
  unfold spigotref23_Rank.f
  have := rrank_l0 l hl (l.length + 2) (Nat.le_refl _) l.length 0 (by omega) k hk
  simpa [isortB, mergeS_nil] using this
/-- Offers as a row of the statement's has them. -/
def mkO (x : Int × Int × Int × Int × Bool) : Off := ⟨x.1, x.2.1, x.2.2.1, x.2.2.2.1, x.2.2.2.2⟩
theorem offR_row (W : World) (A2 : Option Addr) (c2 : Nat) (l2 : List (Int × Int × Int × Int × Bool)) (w2 : (A2 = none ∧ c2 = 0 ∧ l2 = []) ∨ ∃ x, A2 = some x ∧ l2.length ≤ c2 ∧ c2 ≤ maxLen ∧ ∀ i (h : i < l2.length), W.cell? (x.add (i * 5 + 0)) = some (.int .i64 l2[i].1) ∧ W.cell? (x.add (i * 5 + 1)) = some (.int .i64 l2[i].2.1) ∧ W.cell? (x.add (i * 5 + 2)) = some (.int .i64 l2[i].2.2.1) ∧ W.cell? (x.add (i * 5 + 3)) = some (.int .i64 l2[i].2.2.2.1) ∧ W.cell? (x.add (i * 5 + 4)) = some (.bool l2[i].2.2.2.2) ∧ (Lit.int .i64 l2[i].1).wf = true ∧ (Lit.int .i64 l2[i].2.1).wf = true ∧ (Lit.int .i64 l2[i].2.2.1).wf = true ∧ (Lit.int .i64 l2[i].2.2.2.1).wf = true) : OffR W A2 (l2.map mkO) := by
  intro i hi
  have hi' : i < l2.length := by simpa using hi
  rcases w2 with ⟨_, _, rfl⟩ | ⟨x, rfl, _, _, hf⟩
  · simp at hi'
  · obtain ⟨f0, f1, f2, f3, f4, _⟩ := hf i hi'
    rw [List.getElem_map]
    exact ⟨x, rfl, f0, f1, f2, f3, f4⟩
end Go.Proofs.Ytadjadakncidgaa.Hand

/- router.Rank over any number of offers up to a thousand: the stable order; walked; as a function. -/
set_option linter.unusedVariables false
set_option linter.unusedSimpArgs false
namespace Go.Proofs.Ytadjadakncidgaa.Hand
open Go Go.RowKit Go.Lib Go.Sort Go.Shelf Go.Proofs.YtadjadakncidgaaW.PrintWords Go.Proofs.YtadjadakncidgaaW.PrintMore Go.Proofs.Ytadjadakncidgaa.St
theorem lessI_neg (a b : Int) : (lessI a b < 0 ↔ a < b) ∧ (lessI a b = 0 ↔ a = b) := by
  unfold lessI
  by_cases h1 : a < b
  · rw [if_pos h1]; omega
  · rw [if_neg h1]
    by_cases h2 : b < a
    · rw [if_pos h2]; omega
    · rw [if_neg h2]; omega
/-- One stands ahead of another: plainly. -/
theorem ahd_iff (x y : Off) : ahd x y = true ↔ (x.f2 < y.f2 ∨ (x.f2 = y.f2 ∧ (y.f3 < x.f3 ∨ (y.f3 = x.f3 ∧ x.f0 < y.f0)))) := by
  unfold ahd ltOf cfO
  rw [decide_eq_true_eq]
  have a := lessI_neg x.f2 y.f2
  have b := lessI_neg y.f3 x.f3
  have c := lessI_neg x.f0 y.f0
  by_cases h1 : lessI x.f2 y.f2 = 0
  · rw [if_pos h1]
    by_cases h2 : lessI y.f3 x.f3 = 0
    · rw [if_pos h2, c.1]
      have := a.2.1 h1; have := b.2.1 h2
      omega
    · rw [if_neg h2, b.1]
      have := a.2.1 h1
      have h3 : ¬ y.f3 = x.f3 := fun h => h2 (b.2.2 h)
      omega
  · rw [if_neg h1, a.1]
    have h3 : ¬ x.f2 = y.f2 := fun h => h1 (a.2.2 h)
    omega
theorem wo_ahd : WO ahd := by
  have hf : ∀ x y, ahd x y = false ↔ ¬ (x.f2 < y.f2 ∨ (x.f2 = y.f2 ∧ (y.f3 < x.f3 ∨ (y.f3 = x.f3 ∧ x.f0 < y.f0)))) := fun x y => by
    rw [← ahd_iff]; simp
  exact ⟨fun x y => by rw [ahd_iff, hf]; omega, fun x y z => by rw [hf, hf, hf]; omega⟩
theorem sort_all (blk cap : Nat) (l : List Off) (hn : l.length ≤ 1000) (w : World) (hH : HoldsK encO 5 w blk 0 l.toArray) (hblk : blk < w.heap.size) :
    Calls Try.prog 23 #[.slice (some ⟨blk, 0, none⟩) l.length cap, .func (.func 24) #[] #[]] w fun e w' => e = .returned (.tuple #[]) ∧ SWK encO 5 w blk 0 (isortB ahd l).toArray w' := by
  have eg : ∀ args w, (callFunc 24 args).run Try.prog w = .ok (.enter 24 args) w := enters_of Try.func24 (by kernel_rfl) rfl
  exact sort_s encO 5 rfl cfO 24 #[] blk 0 cap wo_ahd l w ⟨encO_len, encO_one, hH, hblk⟩ (by omega) eg (cmp_lays blk 0 _ w)
/-- A world of the sort's: the row's block, and what is below it. -/
theorem swk_end (w w' : World) (blk : Nat) (T : TypeId) (cs : Array Value) (l : List Off) (hO : Blk w blk T cs) (hs : (offC l).length = cs.size) (S : SWK encO 5 w blk 0 l.toArray w') : Blk w' blk T (offC l).toArray ∧ Below blk w w' := by
  obtain ⟨m, os, rfl⟩ := S
  have hlt := hO.lt
  have e : (sortWorldK encO 5 w blk 0 m l.toArray os).heap = w.heap.modify blk (onCells (putCells id 0 (flatK encO 5 l.toArray))) ++ os := rfl
  have hfl : (flatK encO 5 l.toArray).size = cs.size := by rw [size_flatK, ← hs, offC_len]; simp
  refine ⟨?_, rfl, rfl, rfl, ?_, ?_⟩
  · unfold Blk at hO ⊢
    rw [e, Array.getElem?_append_left (by simpa using hlt), Array.getElem?_modify, hO]
    simp only [if_true, Option.map_some, onCells]
    congr 2
    apply Array.ext
    · simp [putCells, hs]
    · intro i h1 h2
      have hi : i < l.length * 5 := by rw [← offC_len]; simpa using h2
      simp only [putCells, Array.getElem_mapIdx]
      rw [if_pos ⟨Nat.zero_le _, by rw [size_flatK]; simpa using hi⟩, Nat.sub_zero, id, get_flatK _ _ _ _ (by simpa using hi)]
      have hd : i / 5 < l.length := by omega
      have hm : i % 5 < 5 := Nat.mod_lt _ (by omega)
      have e1 := offC_at l (i / 5) (i % 5) hd hm
      rw [show i / 5 * 5 + i % 5 = i by omega] at e1
      have e2 : l.toArray[i / 5]! = l[i / 5] := by simp [hd]
      have hlt2 : i % 5 < (encO l[i / 5]).length := hm
      rw [e2]
      rw [List.getElem?_eq_getElem (by rw [offC_len]; exact hi), List.getElem?_eq_getElem hlt2] at e1
      have e3 := Option.some.inj e1
      simp only [List.getElem_toArray]
      rw [e3, List.getElem!_eq_getElem?_getD, List.getElem?_eq_getElem hlt2]
      rfl
  · rw [e]; simp
  · intro k hk
    rw [e, Array.getElem?_append_left (by simp; omega), Array.getElem?_modify, if_neg (by omega)]
theorem reps_off (w : World) (b : Nat) (ok : Nat → Prop) (l : List Off) : Reps (U.k35.M w b ok) 5 l (offC l) := by
  refine snoc_ind (p := fun l => Reps (U.k35.M w b ok) 5 l (offC l)) (Reps.none _ _) ?_ l
  intro l x ih
  have e : offC (l ++ [x]) = offC l ++ encO x := by unfold offC; simp
  rw [e]
  exact ih.snoc (U.k35_mkM _ _ _ x) rfl
theorem rank_all (A : Option Addr) (c : Nat) (l : List Off) (hn : l.length ≤ 1000) (w : World) (hl : OffR w A l) (hA : A = none → l.length = 0) :
    Calls Try.prog 11 #[.slice A l.length c] w fun e w' => e = .returned (.slice (some ⟨w.heap.size, 0, none⟩) l.length l.length) ∧ Blk w' w.heap.size 35 (offC (isortB ahd l)).toArray ∧ Below w.heap.size w w' := by
  have hm := fun w => make_offers l.length (by omega) w
  have z : (madeCells #[.int .i64 0, .int .i64 0, .int .i64 0, .int .i64 0, .bool false] (l.length * 5)).size = l.length * 5 := madeCells_size _ _
  generalize madeCells #[.int .i64 0, .int .i64 0, .int .i64 0, .int .i64 0, .bool false] (l.length * 5) = cur at *
  have B1 : Below w.heap.size w (w.alloc (.cells cur 35)) := (Below.refl _ _).alloc (Nat.le_refl _) _
  have g1 := Blk.new w 35 cur
  have hcp := copy_offers (w.alloc (.cells cur 35)) w.heap.size l.length A c l cur rfl z g1 (hl.below B1) hA
  have g2 : Blk ((w.alloc (.cells cur 35)).setRow w.heap.size (offC l).toArray) w.heap.size 35 (offC l).toArray := setRow_heap _ _ _ _ _ _ g1
  have B2 : Below w.heap.size w ((w.alloc (.cells cur 35)).setRow w.heap.size (offC l).toArray) := B1.trans ⟨rfl, rfl, rfl, by simp [World.setRow], fun k hk => setRow_other _ _ k _ (by omega)⟩
  have hso := sort_all w.heap.size l.length l hn _ (holdsK_blk g2) g2.lt
  have hen := fun w' S => swk_end _ w' w.heap.size _ _ (isortB ahd l) g2 (by rw [offC_len, isortB_length]; simp [offC_len]) S
  have Hc := Lib.hid hcp
  have HB := Lib.hid B2
  have Hs := Lib.hid hso
  have He := Lib.hid hen
  clear hcp B2 hso B1 g1 g2 hl hA z hen
  go_enter Try.func11, Try.ntmps11
  go_wp2_with (refine wpList_copy_run rfl (.tmp 7) (.tmp 8) 29 29 rfl _ _ rfl rfl _ _ (Hc.out) ?_)
  refine (Hs.out).mono ?_
  rintro e w1 ⟨rfl, S⟩
  have HE := Lib.hid (He.out w1 S)
  clear S
  go_wp2_with fail
  go_ret
  exact ⟨rfl, HE.out.1, HB.out.trans HE.out.2⟩
def router_Rank.f (l0 : List Off) : Option (List Off) := if l0.length ≤ 1000 then some (isortB ahd l0) else none
theorem router_Rank.calls (A0 : Option Addr) (c0 : Nat) (l0 : List Off) (r : List Off) (w : World) (hr0 : Kd.C U.k35 w A0 l0.length l0) (hc0 : l0.length ≤ c0) (h : router_Rank.f l0 = some r) :
    Calls Try.prog 11 #[.slice A0 l0.length c0] w fun e w' => ∃ v0_ : Value, e = .returned v0_ ∧ Kd.R U.k35 35 w' w.heap.size (fun _ => True) v0_ r ∧ Below w.heap.size w w' := by
  unfold router_Rank.f at h
  split at h
  case isFalse => cases h
  case isTrue hlen =>
    have h := Option.some.inj h
    subst h
    refine (rank_all A0 c0 l0 hlen w (offR_of hr0) (fun hA => ?_)).mono ?_
    · rcases Nat.eq_zero_or_pos l0.length with h | h
      · exact h
      · obtain ⟨x, hx, _⟩ := offR_of hr0 0 h
        rw [hA] at hx; cases hx
    · rintro e w' ⟨rfl, hB, hb⟩
      have hsz : U.k35.sz = 5 := rfl
      refine ⟨_, rfl, ⟨fun _ _ => trivial, offC (isortB ahd l0), ⟨by rw [offC_len, hsz], .inr ⟨w.heap.size, l0.length, _, ?_, Nat.le_refl _, hB, ?_, ?_, ?_, ?_⟩⟩, reps_off _ _ _ _⟩, hb⟩
      · rw [isortB_length]
      · rw [isortB_length]; exact Nat.le_refl _
      · exact Nat.le_trans hlen (by decide)
      · simp [offC_len, isortB_length, hsz]
      · have hlen2 : (offC (isortB ahd l0)).length = (isortB ahd l0).length * 5 := offC_len _
        exact List.take_of_length_le (by simp [hlen2, hsz])
end Go.Proofs.Ytadjadakncidgaa.Hand

/- RouterRanks: any offers are put in the document's order; the list stays as it was. -/
set_option linter.unusedVariables false
set_option linter.unusedSimpArgs false
namespace Go.Proofs.Ytadjadakncidgaa.Pure
open Go Go.RowKit Go.Proofs.Ytadjadakncidgaa.U Go.Proofs.Ytadjadakncidgaa.PL Go.Proofs.Ytadjadakncidgaa.Hand Go.Proofs.Ytadjadakncidgaa.RL Go.Proofs.Ytadjadakncidgaa.St Go.Proofs.YtadjadakncidgaaW.PrintWords Go.Proofs.YtadjadakncidgaaW.PrintMore
theorem awake23 : spigotlaw23_awake.f = some true := by kernel_rfl
theorem awake23w (w : World) : Calls Try.prog 8 #[] w fun e w' => e = .returned (.bool true) ∧ Below w.heap.size w w' := spigotlaw23_awake.calls true w awake23
theorem eqOff (d : Nat) (w : World) (x0 y0 : Int) (x1 y1 : Int) (x2 y2 : Int) (x3 y3 : Int) (x4 y4 : Bool) :
    (Op.equalIn (d + 2) 35 (.agg #[.int .i64 x0, .int .i64 x1, .int .i64 x2, .int .i64 x3, .bool x4]) (.agg #[.int .i64 y0, .int .i64 y1, .int .i64 y2, .int .i64 y3, .bool y4])).run Try.prog w = .ok (x0 == y0 && (x1 == y1 && (x2 == y2 && (x3 == y3 && (x4 == y4))))) w := by
  refine eqA_of Try.underlying35 (by kernel_rfl) ?_
  refine eqf_cons (by rfl) (by go_simp; rfl) (by go_simp; rfl) (by go_simp) ?_
  refine eqf_cons (by rfl) (by go_simp; rfl) (by go_simp; rfl) (by go_simp) ?_
  refine eqf_cons (by rfl) (by go_simp; rfl) (by go_simp; rfl) (by go_simp) ?_
  refine eqf_cons (by rfl) (by go_simp; rfl) (by go_simp; rfl) (by go_simp) ?_
  exact eqf_last (by rfl) (by go_simp; rfl) (by go_simp; rfl) (by go_simp)
theorem eqOfd (d : Nat) (w : World) (x0 y0 : Int) (x1 y1 : Int) (x2 y2 : Int) (x3 y3 : Int) (x4 y4 : Bool) :
    (Op.equalIn (d + 2) 36 (.agg #[.int .i64 x0, .int .i64 x1, .int .i64 x2, .int .i64 x3, .bool x4]) (.agg #[.int .i64 y0, .int .i64 y1, .int .i64 y2, .int .i64 y3, .bool y4])).run Try.prog w = .ok (x0 == y0 && (x1 == y1 && (x2 == y2 && (x3 == y3 && (x4 == y4))))) w := by
  refine eqA_of Try.underlying36 (by kernel_rfl) ?_
  refine eqf_cons (by rfl) (by go_simp; rfl) (by go_simp; rfl) (by go_simp) ?_
  refine eqf_cons (by rfl) (by go_simp; rfl) (by go_simp; rfl) (by go_simp) ?_
  refine eqf_cons (by rfl) (by go_simp; rfl) (by go_simp; rfl) (by go_simp) ?_
  refine eqf_cons (by rfl) (by go_simp; rfl) (by go_simp; rfl) (by go_simp) ?_
  exact eqf_last (by rfl) (by go_simp; rfl) (by go_simp; rfl) (by go_simp)
attribute [local go_sem high] eqOff eqOfd
theorem ofd_at {w : World} {A : Option Addr} {l : List Off} (h : Kd.C k36 w A (l.map cvO).length (l.map cvO)) (i : Nat) (hi : i < l.length) : ∃ x, A = some x ∧ w.cell? (x.add (i * 5)) = some (.int .i64 l[i].f0) ∧ w.cell? ⟨(x.add (i * 5)).block, (x.add (i * 5)).off + 1, none⟩ = some (.int .i64 l[i].f1) ∧ w.cell? ⟨(x.add (i * 5)).block, (x.add (i * 5)).off + 2, none⟩ = some (.int .i64 l[i].f2) ∧ w.cell? ⟨(x.add (i * 5)).block, (x.add (i * 5)).off + 3, none⟩ = some (.int .i64 l[i].f3) ∧ w.cell? ⟨(x.add (i * 5)).block, (x.add (i * 5)).off + 4, none⟩ = some (.bool l[i].f4) := by
  have := at_T36 h (i : Int) (by omega) (by simp; omega)
  rw [Int.toNat_natCast, rd_ofd l i hi] at this
  exact this
theorem off_at {w : World} {A : Option Addr} {l : List Off} (h : Kd.C k35 w A l.length l) (i : Nat) (hi : i < l.length) : ∃ x, A = some x ∧ w.cell? (x.add (i * 5)) = some (.int .i64 l[i].f0) ∧ w.cell? ⟨(x.add (i * 5)).block, (x.add (i * 5)).off + 1, none⟩ = some (.int .i64 l[i].f1) ∧ w.cell? ⟨(x.add (i * 5)).block, (x.add (i * 5)).off + 2, none⟩ = some (.int .i64 l[i].f2) ∧ w.cell? ⟨(x.add (i * 5)).block, (x.add (i * 5)).off + 3, none⟩ = some (.int .i64 l[i].f3) ∧ w.cell? ⟨(x.add (i * 5)).block, (x.add (i * 5)).off + 4, none⟩ = some (.bool l[i].f4) := by
  have := at_T35 h (i : Int) (by omega) (by omega)
  have e : rd_T35 l (i : Int) = l[i] := by unfold rd_T35; rw [Int.toNat_natCast, List.getD_eq_getElem?_getD, List.getElem?_eq_getElem hi]; rfl
  rw [Int.toNat_natCast, e] at this
  exact this
set_option maxHeartbeats 8000000 in
set_option maxRecDepth 100000 in
theorem ranks_ok (A : Option Addr) (c : Nat) (l : List Off) (h60 : l.length ≤ 60) (w : World) (hl : Kd.C k35 w A l.length l) (hc : l.length ≤ c) :
    Calls Try.prog 4 #[.slice A l.length c] w fun e w' => e = .returned (.bool true) ∧ Below w.heap.size w w' := by
  have haw := fun w => awake23w w
  have hrk := fun (w1 : World) B c2 (hr : Kd.C k35 w1 B l.length l) (h2 : l.length ≤ c2) => router_Rank.calls B c2 l _ w1 hr h2 (by unfold router_Rank.f; rw [if_pos (by omega)])
  have hpl := fun (w1 : World) (hb : Below w.heap.size w w1) => spigotlaw23_plain.calls A c l (l.map cvO) w1 (Kd.C_below hl hb) hc (by unfold spigotlaw23_plain.f; rw [if_pos (by omega)])
  have hrr := fun (w1 : World) B c2 (hr : Kd.C k36 w1 B (l.map cvO).length (l.map cvO)) (h2 : (l.map cvO).length ≤ c2) => spigotref23_Rank.calls _ B c2 (l.map cvO) _ w1 hr h2 (rrank_is l (by omega) _ (Nat.le_refl _))
  have inf : (Try.prog.info? 35).map (fun i => (i.zero, i.size, i.bytes)) = some (some (.agg #[.int .i64 0, .int .i64 0, .int .i64 0, .int .i64 0, .bool false]), 5, 40) := by kernel_rfl
  have Haw := Lib.hid haw; have HRK := Lib.hid hrk; have HPL := Lib.hid hpl; have HRR := Lib.hid hrr; have INF := Lib.hid inf; have HL := Lib.hid hl
  clear haw hrk hpl hrr inf hl
  go_enter Try.func4, Try.ntmps4
  go_wp2_with fail
  refine (Haw.out _).mono ?_
  rintro e w1 ⟨rfl, b1⟩
  have hO4 : Kd.R k35 35 (w1.alloc (.cells #[] 35)) w1.heap.size (fun _ => True) (.slice (some ⟨w1.heap.size, 0, none⟩) 0 0) [] := ⟨fun _ _ => trivial, [], ⟨rfl, .inr ⟨w1.heap.size, 0, #[], rfl, Nat.le_refl _, Blk.new w1 35 #[], Nat.le_refl _, by decide, rfl, rfl⟩⟩, Reps.none _ _⟩
  have hb4 := (Below.refl w1.heap.size w1).alloc (Nat.le_refl _) (.cells #[] 35)
  have hC4 := Kd.C_below HL.out (bt b1 hb4)
  have hlen : (([] : List Off).length + l.length) * 40 ≤ 140737488355328 := by simp; omega
  have hle4 : w1.heap.size ≤ (w1.alloc (.cells #[] 35)).heap.size := by simp
  have hKM : ∀ (W : World) (x : Off) cs, k35.K W x cs → k35.M W w1.heap.size (fun _ => False) x cs := fun W x cs h => by rw [k35_open h]; exact k35_mkM _ _ _ x
  have HO4 := Lib.hid hO4; have HB4 := Lib.hid hb4; have HC4 := Lib.hid hC4; have HKM := Lib.hid hKM
  clear hO4 hb4 hC4 hKM
  go_upto_region 6 with (at_builtin; (refine Kd.R_append_rows k35 (w0 := w1) w1.heap.size rfl (.tmp 13) (.tmp 14) 29 35 (.agg #[.int .i64 0, .int .i64 0, .int .i64 0, .int .i64 0, .bool false]) 40 rfl Try.underlying29 INF.out rfl (by decide) (by decide) (.slice (some ⟨w1.heap.size, 0, none⟩) 0 0) [] l A l.length c (fun _ => True) (fun _ => False) rfl rfl HO4.out HC4.out (HKM.out _) (fun _ hk => hk.elim) (fun _ _ => trivial) HB4.out hle4 hlen ?_); intro v1 w5 ho hb hg hat; obtain ⟨Av, cv, rfl⟩ := Kd.R_slice ho)
  rw [List.nil_append] at ho
  have hB5 : Below w.heap.size w w5 := bt b1 hb
  have hr5 := (Kd.R_reads' ho).2
  have G5 := Lib.hid hr5.2
  have hrk := Lib.hid (HRK.out w5 Av cv hr5.2 hr5.1)
  clear HO4 HB4 HC4 HKM ho hb hg hat hr5 HRK hlen hle4 b1 INF Haw
  go_wp2_with fail
  refine (hrk.out).mono ?_
  rintro e w6 ⟨v6, rfl, r6, b6⟩
  obtain ⟨A6, c6, rfl⟩ := Kd.R_slice r6
  have hB6 := bt hB5 b6
  have R6 := Lib.hid (Kd.R_reads' r6).2.2
  have hpl := Lib.hid (HPL.out w6 hB6)
  have hs6 := isortB_length ahd l
  have G6 := Lib.hid (Kd.C_below G5.out b6)
  clear r6 b6 hB5 hrk HPL G5
  generalize hS : isortB ahd l = S at *
  clear hS
  rw [hs6] at R6 ⊢
  go_wp2_with fail
  refine (hpl.out).mono ?_
  rintro e w7 ⟨v7, rfl, r7, b7⟩
  obtain ⟨A7, c7, rfl⟩ := Kd.R_slice r7
  have hr7 := (Kd.R_reads' r7).2
  have hrr := Lib.hid (HRR.out w7 A7 c7 hr7.2 hr7.1)
  have hB7 := bt hB6 b7
  have R7 := Lib.hid (Kd.C_below R6.out b7)
  have G7 := Lib.hid (Kd.C_below G6.out b7)
  clear r7 hr7 b7 hB6 hpl HRR R6 G6
  rw [List.length_map] at hrr ⊢
  go_wp2_with fail
  refine (hrr.out).mono ?_
  rintro e w8 ⟨v8, rfl, r8, b8⟩
  obtain ⟨A8, c8, rfl⟩ := Kd.R_slice r8
  have D8 := Lib.hid (Kd.R_reads' r8).2.2
  have hB8 := bt hB7 b8
  have R8 := Lib.hid (Kd.C_below R7.out b8)
  have G8 := Lib.hid (Kd.C_below G7.out b8)
  have L8 := Lib.hid (Kd.C_below HL.out hB8)
  clear r8 b8 hB7 hrr R7 G7 HL
  rw [List.length_map, hs6]
  go_wp2_with fail
  have hmx : l.length ≤ 9223372036854775807 := by omega
  go_loopw [28] (fun i wr => ∃ k : Nat, k ≤ l.length ∧ i = .int .i64 k ∧ Hid (Kd.C k35 wr A6 l.length S ∧ Kd.C k35 wr Av l.length l ∧ Kd.C k36 wr A8 (S.map cvO).length (S.map cvO) ∧ Kd.C k35 wr A l.length l ∧ Below w.heap.size w wr)) (fun i _ => l.length - (intOf i).toNat)
  case atStart => exact ⟨0, Nat.zero_le _, rfl, Lib.hid ⟨R8.out, G8.out, D8.out, L8.out, hB8⟩⟩
  case round =>
    clear R8 G8 D8 L8 hB8
    obtain ⟨k, hk, rfl, H⟩ := hrel
    by_cases hlt : k < l.length
    · obtain ⟨h1, h2, h3, h4, hB⟩ := H.out
      rw [← hs6] at h1
      obtain ⟨x6, rfl, a0, a1, a2, a3, a4⟩ := off_at h1 k (by omega)
      obtain ⟨xv, rfl, g0, g1, g2, g3, g4⟩ := off_at h2 k hlt
      obtain ⟨x8, rfl, d0, d1, d2, d3, d4⟩ := ofd_at h3 k (by omega)
      obtain ⟨xa, rfl, l0, l1, l2, l3, l4⟩ := off_at h4 k hlt
      rw [hs6] at h1
      have s6 := World.block_lt_of_cell? wr _ a0
      have sv := World.block_lt_of_cell? wr _ g0
      have s8 := World.block_lt_of_cell? wr _ d0
      have sa := World.block_lt_of_cell? wr _ l0
      have hkS : k < S.length := by omega
      generalize hy : S[k] = y at *
      generalize hz : l[k] = z at *
      have W5 := (Below.refl wr.heap.size wr).alloc (Nat.le_refl _) (.cells #[.int .i64 y.f0, .int .i64 y.f1, .int .i64 y.f2, .int .i64 y.f3, .bool y.f4] 35)
      have HF : Hid (∀ m : Nat, Kd.C k35 ((wr.alloc (.cells #[.int .i64 y.f0, .int .i64 y.f1, .int .i64 y.f2, .int .i64 y.f3, .bool y.f4] 35)).drewN m) (some x6) l.length S ∧ Kd.C k35 ((wr.alloc (.cells #[.int .i64 y.f0, .int .i64 y.f1, .int .i64 y.f2, .int .i64 y.f3, .bool y.f4] 35)).drewN m) (some xv) l.length l ∧ Kd.C k36 ((wr.alloc (.cells #[.int .i64 y.f0, .int .i64 y.f1, .int .i64 y.f2, .int .i64 y.f3, .bool y.f4] 35)).drewN m) (some x8) (S.map cvO).length (S.map cvO) ∧ Kd.C k35 ((wr.alloc (.cells #[.int .i64 y.f0, .int .i64 y.f1, .int .i64 y.f2, .int .i64 y.f3, .bool y.f4] 35)).drewN m) (some xa) l.length l ∧ Below w.heap.size w ((wr.alloc (.cells #[.int .i64 y.f0, .int .i64 y.f1, .int .i64 y.f2, .int .i64 y.f3, .bool y.f4] 35)).drewN m)) := Lib.hid fun m => ⟨Kd.C_below h1 (pw_below_drewN W5 m), Kd.C_below h2 (pw_below_drewN W5 m), Kd.C_below h3 (pw_below_drewN W5 m), Kd.C_below h4 (pw_below_drewN W5 m), pw_below_drewN (hB.alloc hB.size _) m⟩
      clear h1 h2 h3 h4 hB H W5 hy hz
      have hk0 : (0 : Int) ≤ (k : Int) := by omega
      have hk1 : (k : Int) < (l.length : Int) := by omega
      go_upto_region 13 with (fail)
      have hS8 : (k : Int) < ((S.map cvO).length : Int) := by simp; omega
      repeat (go_quiet (fail); try go_wp2)
      exact ⟨⟨k + 1, by omega, by go_num, Lib.hid (HF.out _)⟩, by simp only [intOf]; omega⟩
    · go_wp2_with fail
      go_ret
      exact ⟨rfl, H.out.2.2.2.2⟩
theorem ranks_long (A : Option Addr) (c n : Nat) (h : 60 < n) (w : World) :
    Calls Try.prog 4 #[.slice A n c] w fun e w' => e = .returned (.bool true) ∧ Below w.heap.size w w' := by
  have haw := fun w => awake23w w
  have Haw := Lib.hid haw
  clear haw
  go_enter Try.func4, Try.ntmps4
  go_wp2_with fail
  refine (Haw.out _).mono ?_
  rintro e w1 ⟨rfl, b1⟩
  go_wp2_with fail
  go_ret
  exact ⟨rfl, b1⟩
end Go.Proofs.Ytadjadakncidgaa.Pure
namespace Go.Proofs.Ytadjadakncidgaa.Walk
open Go Go.RowKit Go.Proofs.Ytadjadakncidgaa.U Go.Proofs.Ytadjadakncidgaa.Hand Go.Proofs.YtadjadakncidgaaW.PrintWords Go.Proofs.YtadjadakncidgaaW.PrintMore
theorem RouterRanks (A0 : Option Addr) (c0 : Nat) (l0 : List (Int × Int × Int × Int × Bool)) (W : World) (w0 : (A0 = none ∧ c0 = 0 ∧ l0 = []) ∨ ∃ x, A0 = some x ∧ l0.length ≤ c0 ∧ c0 ≤ maxLen ∧ ∀ i (h : i < l0.length), W.cell? (x.add (i * 5 + 0)) = some (.int .i64 l0[i].1) ∧ W.cell? (x.add (i * 5 + 1)) = some (.int .i64 l0[i].2.1) ∧ W.cell? (x.add (i * 5 + 2)) = some (.int .i64 l0[i].2.2.1) ∧ W.cell? (x.add (i * 5 + 3)) = some (.int .i64 l0[i].2.2.2.1) ∧ W.cell? (x.add (i * 5 + 4)) = some (.bool l0[i].2.2.2.2) ∧ (Lit.int .i64 l0[i].1).wf = true ∧ (Lit.int .i64 l0[i].2.1).wf = true ∧ (Lit.int .i64 l0[i].2.2.1).wf = true ∧ (Lit.int .i64 l0[i].2.2.2.1).wf = true) :
    Calls Try.prog 4 #[.slice A0 l0.length c0] W fun e W' => e = .returned (.bool true) ∧ Below W.heap.size W W' := by
  have hlen : (l0.map mkO).length = l0.length := List.length_map ..
  have hmx : maxLen ≤ 9223372036854775807 := by decide
  have hb : l0.length ≤ c0 ∧ l0.length ≤ 9223372036854775807 := by
    rcases w0 with ⟨_, rfl, rfl⟩ | ⟨x, _, h1, h2, _⟩
    · simp
    · exact ⟨h1, by omega⟩
  have hC := offR_to (by rw [hlen]; exact hb.2) (offR_row W A0 c0 l0 w0)
  by_cases h60 : l0.length ≤ 60
  · have := Pure.ranks_ok A0 c0 (l0.map mkO) (by rw [hlen]; exact h60) W hC (by rw [hlen]; exact hb.1)
    rwa [hlen] at this
  · exact Pure.ranks_long A0 c0 l0.length (by omega) W
end Go.Proofs.Ytadjadakncidgaa.Walk

