/- The document's asks: Valid, Same, kept, walked. -/
import Derived.Test.YtapfidpfjbacgaaSl8
import Derived.WalkLawsBesides
import Derived.Test.YtapfidpfjbacgaaUx0
set_option linter.unusedVariables false
set_option linter.unusedSimpArgs false
namespace Go.Proofs.Ytapfidpfjbacgaa.Hand
open Go Go.RowKit Go.Proofs.YtapfidpfjbacgaaW.PrintWords Go.Proofs.YtapfidpfjbacgaaW.PrintMore Go.Proofs.Ytapfidpfjbacgaa.RL Go.Proofs.Ytapfidpfjbacgaa.PL
theorem runes_rl (s : ByteArray) : ∀ (m i : Nat) (acc : Array Value), (Conv.runesFrom s m i acc).toList = acc.toList ++ (rl s m i).map (fun c => Value.int .i32 (c : Nat))
  | 0, i, acc => by simp [Conv.runesFrom, rl]
  | m + 1, i, acc => by
    simp only [Conv.runesFrom, rl]
    split
    · rw [runes_rl s m]; simp
    · simp
theorem all_no {L : List Nat} {j : Nat} (h : j < L.length) (hm : mayR (L.getD j 0) = false) : L.all mayR = false := by
  rw [Bool.eq_false_iff]
  intro ha
  have := List.all_eq_true.1 ha (L.getD j 0) (by rw [List.getD_eq_getElem?_getD, List.getElem?_eq_getElem h]; exact List.getElem_mem h)
  rw [hm] at this; cases this
theorem all_yes {L : List Nat} (h : ∀ j, j < L.length → mayR (L.getD j 0) = true) : L.all mayR = true := by
  rw [List.all_eq_true]
  intro x hx
  obtain ⟨j, hj, rfl⟩ := List.getElem_of_mem hx
  have := h j hj
  rw [List.getD_eq_getElem?_getD, List.getElem?_eq_getElem hj] at this
  exact this
set_option maxHeartbeats 4000000 in
set_option maxRecDepth 100000 in
theorem dvalid_walk (s : ByteArray) (hs : s.size ≤ 1000) (w : World) :
    Calls Try.prog 54 #[.string s] w fun e w' => e = .returned (.bool (nameV s)) ∧ Below w.heap.size w w' := by
  have hz := size_runesFrom s s.size 0 #[]
  have hrl := runes_rl s s.size 0 #[]
  have hconv := run_runes_of_string (P := Try.prog) w 9 96 21 s Try.underlying9 Try.underlying96 Try.underlying21 (by simp at hz; omega)
  generalize Conv.runesFrom s s.size 0 #[] = R at *
  obtain ⟨v, hv⟩ : ∃ v, v = nameV s := ⟨_, rfl⟩
  rw [← hv]
  unfold nameV at hv
  generalize rl s s.size 0 = L at *
  rw [List.nil_append] at hrl
  obtain ⟨n, hn⟩ : ∃ n, n = L.length := ⟨_, rfl⟩
  obtain ⟨G, hG⟩ : ∃ G : Nat → Nat, G = fun j => L.getD j 0 := ⟨_, rfl⟩
  have hGj : ∀ j, G j = L.getD j 0 := fun j => by rw [hG]
  have hlen : R.size = n := by have := congrArg List.length hrl; rw [hn]; simpa using this
  have hat : ∀ j, j < n → R[j]? = some (.int .i32 ((G j : Nat) : Int)) := by
    intro j hj
    rw [← Array.getElem?_toList, hrl, List.getElem?_map, List.getElem?_eq_getElem (by omega), hGj, List.getD_eq_getElem?_getD, List.getElem?_eq_getElem (by omega)]
    rfl
  have hno : ∀ j, j < n → mayR (G j) = false → v = false := fun j h hm => by rw [hGj] at hm; rw [hv, all_no (by omega) hm, Bool.and_false]
  have hye : 1 ≤ n → n ≤ 20 → (∀ j, j < n → mayR (G j) = true) → v = true := fun h1 h2 h => by rw [hv, all_yes (fun j hj => by rw [← hGj]; exact h j (by omega)), decide_eq_true (by omega), decide_eq_true (by omega)]; rfl
  have hbad : ¬ (1 ≤ n ∧ n ≤ 20) → v = false := by
    intro h
    rw [hv]
    by_cases h1 : 1 ≤ L.length
    · rw [decide_eq_false (show ¬ L.length ≤ 20 by omega), Bool.and_false, Bool.false_and]
    · rw [decide_eq_false h1, Bool.false_and, Bool.false_and]
  clear hrl hv hGj hG hn
  clear L
  rw [hlen] at hconv hz
  simp at hz
  have hn' : n < 1 ∨ 20 < n ∨ (1 ≤ n ∧ n ≤ 20) := by omega
  generalize hcap : grownCap w n 0 21 = cap at *
  obtain ⟨cs, hcs⟩ : ∃ cs : Array Value, cs = R ++ Array.replicate (cap - n) (.int .i32 0) := ⟨_, rfl⟩
  have hB := Blk.new w.drew 21 cs
  have hb0 : Below w.heap.size w (w.drew.alloc (.cells cs 21)) := (below_drew1 (Below.refl _ _)).alloc (Nat.le_refl _) _
  rw [← hcs] at hconv
  have hc : ∀ j : Nat, j < n → cs[j]? = some (.int .i32 ((G j : Nat) : Int)) := by
    intro j hj
    rw [hcs, Array.getElem?_append_left (by omega), hat j hj]
  clear hcs hat hcap
  have HN := Lib.hid hno; have HY := Lib.hid hye; have HB2 := Lib.hid hbad
  clear hno hye hbad hlen
  generalize w.drew.alloc (.cells cs 21) = w1 at *
  rcases hn' with h | h | ⟨h, h2⟩
  · have hv := HB2.out (by omega)
    go_enter Try.func54, Try.ntmps54
    go_wp2_with fail
    go_ret
    exact ⟨by subst hv; rfl, hb0⟩
  · have hv := HB2.out (by omega)
    go_enter Try.func54, Try.ntmps54
    go_wp2_with fail
    go_ret
    exact ⟨by subst hv; rfl, hb0⟩
  · go_enter Try.func54, Try.ntmps54
    go_wp2_with fail
    go_loopw [4] (fun i wr => ∃ j : Nat, j ≤ n ∧ i = .int .i64 j ∧ wr = w1 ∧ Hid (∀ m, m < j → mayR (G m) = true)) (fun v _ => n - (intOf v).toNat)
    case atStart => exact ⟨0, Nat.zero_le _, rfl, rfl, Lib.hid fun m hm => absurd hm (Nat.not_lt_zero _)⟩
    case round =>
      obtain ⟨j, hj, rfl, rfl, HI⟩ := hrel
      by_cases hlt : j < n
      · have x0 : wr.cell? ⟨w.heap.size, j, none⟩ = some (.int .i32 ((G j : Nat) : Int)) := (hB.cell j).trans (hc j hlt)
        have hF : mayR (G j) = false → v = false := HN.out j hlt
        have hT : mayR (G j) = true → ∀ m, m < j + 1 → mayR (G m) = true := by
          intro h m hm
          by_cases he : m = j
          · rw [he]; exact h
          · exact HI.out m (by omega)
        have hm1 : (((G j : Nat) : Int) < 33 ∨ ((G j : Nat) : Int) = 127 ∨ ((G j : Nat) : Int) = 61 ∨ ((G j : Nat) : Int) = 65533) → mayR (G j) = false := by
          intro h
          unfold mayR
          simp only [Bool.and_eq_false_iff, decide_eq_false_iff_not]
          omega
        have hm2 : ¬ (((G j : Nat) : Int) < 33 ∨ ((G j : Nat) : Int) = 127 ∨ ((G j : Nat) : Int) = 61 ∨ ((G j : Nat) : Int) = 65533) → mayR (G j) = true := by
          intro h
          unfold mayR
          simp only [Bool.and_eq_true, decide_eq_true_eq]
          omega
        generalize mayR (G j) = mb at *
        generalize ((G j : Nat) : Int) = c at *
        have HF := Lib.hid hF; have HT := Lib.hid hT; have H1 := Lib.hid hm1; have H2 := Lib.hid hm2
        clear hF hT hm1 hm2 HI HN HY HB2 hc
        by_cases g1 : c < 33
        · have hv := HF.out (H1.out (by omega))
          go_wp2_with fail
          go_ret
          exact ⟨by subst hv; rfl, hb0⟩
        · by_cases g2 : c = 127
          · have hv := HF.out (H1.out (by omega))
            go_wp2_with fail
            go_ret
            exact ⟨by subst hv; rfl, hb0⟩
          · by_cases g3 : c = 61
            · have hv := HF.out (H1.out (by omega))
              go_wp2_with fail
              go_ret
              exact ⟨by subst hv; rfl, hb0⟩
            · by_cases g4 : c = 65533
              · have hv := HF.out (H1.out (by omega))
                go_wp2_with fail
                go_ret
                exact ⟨by subst hv; rfl, hb0⟩
              · have e2 : (c == 127) = false := beq_eq_false_iff_ne.2 g2
                have e3 : (c == 61) = false := beq_eq_false_iff_ne.2 g3
                have e4 : (c == 65533) = false := beq_eq_false_iff_ne.2 g4
                have hn := HT.out (H2.out (by omega))
                have HN2 := Lib.hid hn
                clear hn
                go_wp2_with fail
                exact ⟨⟨j + 1, by omega, by go_num, trivial, HN2⟩, by simp only [intOf]; omega⟩
      · have hv := HY.out h h2 (fun m hm => HI.out m (by omega))
        clear HI HN HY HB2 hc
        go_wp2_with fail
        go_ret
        exact ⟨by subst hv; rfl, hb0⟩
theorem ints_ext {xs ys : List Int} (hn : xs.length = ys.length) (h : ∀ j, j < xs.length → rd xs (j : Int) = rd ys (j : Int)) : xs = ys := by
  apply List.ext_getElem hn
  intro i h1 h2
  have := h i h1
  unfold rd at this
  simp only [Int.toNat_natCast] at this
  rwa [List.getD_eq_getElem?_getD, List.getD_eq_getElem?_getD, List.getElem?_eq_getElem h1, List.getElem?_eq_getElem h2] at this
theorem same_l0 (xs ys : List Int) (hn : xs.length = ys.length) (hm : xs.length ≤ 1000) (d : Nat) : ∀ (k i : Nat), i ≤ xs.length → xs.length - i = d → d < k → (∀ m, m < i → rd xs (m : Int) = rd ys (m : Int)) → U.spigotref03_Same.l0 k xs ys (i : Int) = some (decide (xs = ys)) := by
  induction d with
  | zero =>
    intro k i hi hd hk hall
    obtain ⟨k, rfl⟩ : ∃ m, k = m + 1 := ⟨k - 1, by omega⟩
    simp only [U.spigotref03_Same.l0]
    rw [if_neg (by omega), decide_eq_true (ints_ext hn (fun j hj => hall j (by omega)))]
  | succ d ih =>
    intro k i hi hd hk hall
    obtain ⟨k, rfl⟩ : ∃ m, k = m + 1 := ⟨k - 1, by omega⟩
    simp only [U.spigotref03_Same.l0]
    rw [if_pos (by omega), if_pos (by omega), if_pos (by omega)]
    by_cases h : rd xs (i : Int) = rd ys (i : Int)
    · rw [if_pos h, show wrap64 ((i : Int) + 1) = ((i + 1 : Nat) : Int) from by rw [w64 (by omega) (by omega)]; rfl]
      refine ih k (i + 1) (by omega) (by omega) (by omega) ?_
      intro m hm'
      by_cases he : m = i
      · rw [he]; exact h
      · exact hall m (by omega)
    · rw [if_neg h, decide_eq_false (by rintro rfl; exact h rfl)]
theorem same_is (xs ys : List Int) (hm : xs.length ≤ 1000) : U.spigotref03_Same.f 1002 xs ys = some (decide (xs = ys)) := by
  unfold U.spigotref03_Same.f
  by_cases h : xs.length = ys.length
  · rw [if_pos (by omega)]
    exact same_l0 xs ys h hm _ 1002 0 (by omega) rfl (by omega) (fun m hm => absurd hm (Nat.not_lt_zero _))
  · rw [if_neg (by omega), decide_eq_false (by rintro rfl; exact h rfl)]
theorem same03_walk (A B : Option Addr) (c d : Nat) (xs ys : List Int) (w : World) (hx : Kd.C (Kd.int .i64) w A xs.length xs) (hy : Kd.C (Kd.int .i64) w B ys.length ys) (h1 : xs.length ≤ c) (h2 : ys.length ≤ d) (hm : xs.length ≤ 1000) :
    Calls Try.prog 37 #[.slice A xs.length c, .slice B ys.length d] w fun e w' => e = .returned (.bool (decide (xs = ys))) ∧ Below w.heap.size w w' :=
  (U.spigotref03_Same.calls 1002 A c xs B d ys _ w hx h1 hy h2 (same_is xs ys hm)).mono fun e w' h => ⟨h.1, h.2.below⟩
end Go.Proofs.Ytapfidpfjbacgaa.Hand
