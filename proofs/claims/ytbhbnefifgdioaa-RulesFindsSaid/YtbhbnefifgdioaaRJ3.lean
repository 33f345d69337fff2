/- Texts laid together by join.py: Rul8 Rul9. -/
import Derived.Test.YtbhbnefifgdioaaRJ1
import Derived.WalkLawsBesides
import Derived.Test.YtbhbnefifgdioaaKx1
/- The document's names, exactly (gen_rul8.py). -/
set_option linter.unusedVariables false
set_option linter.unusedSimpArgs false
namespace Go.Proofs.Ytbhbnefifgdioaa.Hand
open Go Go.RowKit Go.Proofs.YtbhbnefifgdioaaW.PrintWords Go.Proofs.YtbhbnefifgdioaaW.PrintMore Go.Proofs.YtbhbnefifgdioaaW.PrintLast Go.Proofs.Ytbhbnefifgdioaa.RL Go.Proofs.Ytbhbnefifgdioaa.PL Go.Proofs.Ytbhbnefifgdioaa.K
theorem runes_rl (s : ByteArray) : ∀ (m i : Nat) (acc : Array Value), (Conv.runesFrom s m i acc).toList = acc.toList ++ (rl s m i).map (fun c => Value.int .i32 (c : Nat))
  | 0, i, acc => by simp [Conv.runesFrom, rl]
  | m + 1, i, acc => by
    simp only [Conv.runesFrom, rl]
    split
    · rw [runes_rl s m]; simp
    · simp
theorem all_no {L : List Nat} {j : Nat} (h : j < L.length) (hm : mayR (L.getD j 0) = false) : L.all mayR = false := by
  rw [Bool.eq_false_iff]
  intro ha
  have := List.all_eq_true.1 ha (L.getD j 0) (by rw [List.getD_eq_getElem?_getD, List.getElem?_eq_getElem h]; exact List.getElem_mem h)
  rw [hm] at this; cases this
theorem all_yes {L : List Nat} (h : ∀ j, j < L.length → mayR (L.getD j 0) = true) : L.all mayR = true := by
  rw [List.all_eq_true]
  intro x hx
  obtain ⟨j, hj, rfl⟩ := List.getElem_of_mem hx
  have := h j hj
  rw [List.getD_eq_getElem?_getD, List.getElem?_eq_getElem hj] at this
  exact this
set_option maxHeartbeats 4000000 in
set_option maxRecDepth 100000 in
theorem dvalid_walk (s : ByteArray) (hs : s.size ≤ 1000) (w : World) :
    Calls Try.prog 44 #[.string s] w fun e w' => e = .returned (.bool (nameV s)) ∧ Below w.heap.size w w' := by
  have hz := size_runesFrom s s.size 0 #[]
  have hrl := runes_rl s s.size 0 #[]
  have hconv := run_runes_of_string (P := Try.prog) w 9 96 21 s Try.underlying9 Try.underlying96 Try.underlying21 (by simp at hz; omega)
  generalize Conv.runesFrom s s.size 0 #[] = R at *
  obtain ⟨v, hv⟩ : ∃ v, v = nameV s := ⟨_, rfl⟩
  rw [← hv]
  unfold nameV at hv
  generalize rl s s.size 0 = L at *
  rw [List.nil_append] at hrl
  obtain ⟨n, hn⟩ : ∃ n, n = L.length := ⟨_, rfl⟩
  obtain ⟨G, hG⟩ : ∃ G : Nat → Nat, G = fun j => L.getD j 0 := ⟨_, rfl⟩
  have hGj : ∀ j, G j = L.getD j 0 := fun j => by rw [hG]
  have hlen : R.size = n := by have := congrArg List.length hrl; rw [hn]; simpa using this
  have hat : ∀ j, j < n → R[j]? = some (.int .i32 ((G j : Nat) : Int)) := by
    intro j hj
    rw [← Array.getElem?_toList, hrl, List.getElem?_map, List.getElem?_eq_getElem (by omega), hGj, List.getD_eq_getElem?_getD, List.getElem?_eq_getElem (by omega)]
    rfl
  have hno : ∀ j, j < n → mayR (G j) = false → v = false := fun j h hm => by rw [hGj] at hm; rw [hv, all_no (by omega) hm, Bool.and_false]
  have hye : 1 ≤ n → n ≤ 20 → (∀ j, j < n → mayR (G j) = true) → v = true := fun h1 h2 h => by rw [hv, all_yes (fun j hj => by rw [← hGj]; exact h j (by omega)), decide_eq_true (by omega), decide_eq_true (by omega)]; rfl
  have hbad : ¬ (1 ≤ n ∧ n ≤ 20) → v = false := by
    intro h
    rw [hv]
    by_cases h1 : 1 ≤ L.length
    · rw [decide_eq_false (show ¬ L.length ≤ 20 by omega), Bool.and_false, Bool.false_and]
    · rw [decide_eq_false h1, Bool.false_and, Bool.false_and]
  clear hrl hv hGj hG hn
  clear L
  rw [hlen] at hconv hz
  simp at hz
  have hn' : n < 1 ∨ 20 < n ∨ (1 ≤ n ∧ n ≤ 20) := by omega
  generalize hcap : grownCap w n 0 21 = cap at *
  obtain ⟨cs, hcs⟩ : ∃ cs : Array Value, cs = R ++ Array.replicate (cap - n) (.int .i32 0) := ⟨_, rfl⟩
  have hB := Blk.new w.drew 21 cs
  have hb0 : Below w.heap.size w (w.drew.alloc (.cells cs 21)) := (below_drew1 (Below.refl _ _)).alloc (Nat.le_refl _) _
  rw [← hcs] at hconv
  have hc : ∀ j : Nat, j < n → cs[j]? = some (.int .i32 ((G j : Nat) : Int)) := by
    intro j hj
    rw [hcs, Array.getElem?_append_left (by omega), hat j hj]
  clear hcs hat hcap
  have HN := Lib.hid hno; have HY := Lib.hid hye; have HB2 := Lib.hid hbad
  clear hno hye hbad hlen
  generalize w.drew.alloc (.cells cs 21) = w1 at *
  rcases hn' with h | h | ⟨h, h2⟩
  · have hv := HB2.out (by omega)
    go_enter Try.func44, Try.ntmps44
    go_wp2_with fail
    go_ret
    exact ⟨by subst hv; rfl, hb0⟩
  · have hv := HB2.out (by omega)
    go_enter Try.func44, Try.ntmps44
    go_wp2_with fail
    go_ret
    exact ⟨by subst hv; rfl, hb0⟩
  · go_enter Try.func44, Try.ntmps44
    go_wp2_with fail
    go_loopw [4] (fun i wr => ∃ j : Nat, j ≤ n ∧ i = .int .i64 j ∧ wr = w1 ∧ Hid (∀ m, m < j → mayR (G m) = true)) (fun v _ => n - (intOf v).toNat)
    case atStart => exact ⟨0, Nat.zero_le _, rfl, rfl, Lib.hid fun m hm => absurd hm (Nat.not_lt_zero _)⟩
    case round =>
      obtain ⟨j, hj, rfl, rfl, HI⟩ := hrel
      by_cases hlt : j < n
      · have x0 : wr.cell? ⟨w.heap.size, j, none⟩ = some (.int .i32 ((G j : Nat) : Int)) := (hB.cell j).trans (hc j hlt)
        have hF : mayR (G j) = false → v = false := HN.out j hlt
        have hT : mayR (G j) = true → ∀ m, m < j + 1 → mayR (G m) = true := by
          intro h m hm
          by_cases he : m = j
          · rw [he]; exact h
          · exact HI.out m (by omega)
        have hm1 : (((G j : Nat) : Int) < 33 ∨ ((G j : Nat) : Int) = 127 ∨ ((G j : Nat) : Int) = 61 ∨ ((G j : Nat) : Int) = 65533) → mayR (G j) = false := by
          intro h
          unfold mayR
          simp only [Bool.and_eq_false_iff, decide_eq_false_iff_not]
          omega
        have hm2 : ¬ (((G j : Nat) : Int) < 33 ∨ ((G j : Nat) : Int) = 127 ∨ ((G j : Nat) : Int) = 61 ∨ ((G j : Nat) : Int) = 65533) → mayR (G j) = true := by
          intro h
          unfold mayR
          simp only [Bool.and_eq_true, decide_eq_true_eq]
          omega
        generalize mayR (G j) = mb at *
        generalize ((G j : Nat) : Int) = c at *
        have HF := Lib.hid hF; have HT := Lib.hid hT; have H1 := Lib.hid hm1; have H2 := Lib.hid hm2
        clear hF hT hm1 hm2 HI HN HY HB2 hc
        by_cases g1 : c < 33
        · have hv := HF.out (H1.out (by omega))
          go_wp2_with fail
          go_ret
          exact ⟨by subst hv; rfl, hb0⟩
        · by_cases g2 : c = 127
          · have hv := HF.out (H1.out (by omega))
            go_wp2_with fail
            go_ret
            exact ⟨by subst hv; rfl, hb0⟩
          · by_cases g3 : c = 61
            · have hv := HF.out (H1.out (by omega))
              go_wp2_with fail
              go_ret
              exact ⟨by subst hv; rfl, hb0⟩
            · by_cases g4 : c = 65533
              · have hv := HF.out (H1.out (by omega))
                go_wp2_with fail
                go_ret
                exact ⟨by subst hv; rfl, hb0⟩
              · have e2 : (c == 127) = false := beq_eq_false_iff_ne.2 g2
                have e3 : (c == 61) = false := beq_eq_false_iff_ne.2 g3
                have e4 : (c == 65533) = false := beq_eq_false_iff_ne.2 g4
                have hn := HT.out (H2.out (by omega))
                have HN2 := Lib.hid hn
                clear hn
                go_wp2_with fail
                exact ⟨⟨j + 1, by omega, by go_num, trivial, HN2⟩, by simp only [intOf]; omega⟩
      · have hv := HY.out h h2 (fun m hm => HI.out m (by omega))
        clear HI HN HY HB2 hc
        go_wp2_with fail
        go_ret
        exact ⟨by subst hv; rfl, hb0⟩
theorem in15 (a lo hi : Int) (w : World) : Calls Try.prog 24 #[.int .i64 a, .int .i64 lo, .int .i64 hi] w fun e w' => e = .returned (.bool (btw a lo hi)) ∧ Below w.heap.size w w' := by
  unfold btw
  go_enter Try.func24, Try.ntmps24
  by_cases h : lo ≤ a
  · go_wp2_with fail
    go_ret
    exact ⟨by simp [h], Below.refl _ _⟩
  · go_wp2_with fail
    go_ret
    exact ⟨by simp; omega, Below.refl _ _⟩
theorem seq_no {u s : ByteArray} (h : u ≠ s) : (u.toList == s.toList) = false := by
  rw [beq_eq_false_iff_ne]
  intro e
  rw [ByteArray.toList_eq, ByteArray.toList_eq] at e
  exact h (by cases u; cases s; congr; exact Array.toList_inj.1 e)
theorem seq_yes (s : ByteArray) : (s.toList == s.toList) = true := beq_self_eq_true _
theorem not_mem_take {xs : List ByteArray} {s : ByteArray} {j : Nat} (h : j < xs.length) (h1 : s ∉ xs.take j) (h2 : xs[j] ≠ s) : s ∉ xs.take (j + 1) := by
  rw [List.take_succ_eq_append_getElem h, List.mem_append]
  rintro (h | h)
  · exact h1 h
  · exact h2 (List.mem_singleton.1 h).symm
theorem mem_take' {xs : List ByteArray} {j k : Nat} (h : j < k) (h2 : k < xs.length) : xs[j]'(by omega) ∈ xs.take k := by
  rw [List.mem_take_iff_getElem]
  exact ⟨j, by omega, rfl⟩
set_option maxHeartbeats 4000000 in
set_option maxRecDepth 100000 in
theorem names15_walk (A : Option Addr) (c n : Nat) (xs : List ByteArray) (m : Int) (w : World) (hn : xs.length = n) (hm : n ≤ 900) (hx : Kd.C Kd.string w A n xs) (hs : ∀ s ∈ xs, s.size ≤ 1000) :
    Calls Try.prog 23 #[.slice A n c, .int .i64 m] w fun e w' => e = .returned (.bool (diffS xs m)) ∧ Below w.heap.size w w' := by
  have HX := Lib.hid hx
  obtain ⟨v, hv⟩ : ∃ v, v = diffS xs m := ⟨_, rfl⟩
  have HV := Lib.hid hv
  rw [← hv]
  clear hx hv
  go_enter Try.func23, Try.ntmps23
  go_wp2_with fail
  go_loopw [5] (fun i wr => ∃ k : Nat, k ≤ n ∧ i = .int .i64 k ∧ Below w.heap.size w wr ∧ Hid ((∀ s ∈ xs.take k, nameV s = true) ∧ (xs.take k).Nodup)) (fun i _ => n - (intOf i).toNat)
  case atStart => exact ⟨0, Nat.zero_le _, rfl, Below.refl _ _, Lib.hid ⟨fun s h => absurd h (by simp), by simp⟩⟩
  case round =>
    obtain ⟨k, hk, rfl, hB, HJ⟩ := hrel
    by_cases hlt : k < n
    · obtain ⟨ad, rfl, hcell⟩ := at_T (Kd.C_below HX.out hB) k hlt hn
      have hkl : k < xs.length := by omega
      have hv := dvalid_walk xs[k] (hs _ (List.getElem_mem _)) wr
      have hno1 : nameV (xs[k]'hkl) = false → v = false := fun q => by rw [HV.out]; exact diff_bad k hkl (Or.inl q)
      have hno2 : xs[k]'hkl ∈ xs.take k → v = false := fun q => by rw [HV.out]; exact diff_bad k hkl (Or.inr q)
      have hgo : nameV (xs[k]'hkl) = true → xs[k]'hkl ∉ xs.take k → (∀ s ∈ xs.take (k + 1), nameV s = true) ∧ (xs.take (k + 1)).Nodup := by
        intro q1 q2
        have e1 : xs.take (k + 1) = xs.take k ++ [xs[k]] := List.take_succ_eq_append_getElem hkl
        rw [e1]
        refine ⟨fun s hs => ?_, ?_⟩
        · rcases List.mem_append.1 hs with h | h
          · exact HJ.out.1 s h
          · rw [List.mem_singleton.1 h]; exact q1
        · rw [List.nodup_append]
          refine ⟨HJ.out.2, by simp, fun a ha b hb => ?_⟩
          rw [List.mem_singleton.1 hb]
          intro e
          rw [e] at ha
          exact q2 ha
      obtain ⟨s, hsk⟩ : ∃ s, s = xs[k]'(by omega) := ⟨_, rfl⟩
      rw [← hsk] at hcell hv hno1 hno2 hgo
      have HW := Lib.hid hv; have HN1 := Lib.hid hno1; have HN2 := Lib.hid hno2; have HG := Lib.hid hgo
      have HS := Lib.hid hsk
      clear hv hsk hno1 hno2 hgo
      go_wp2_with fail
      with_reducible refine HW.out.mono ?_
      rintro e w1 ⟨rfl, hb1⟩
      have hB1 := bt hB hb1
      clear hB hb1 HW hcell
      cases hnv : nameV s with
      | false =>
        have hvf := HN1.out hnv
        go_wp2_with fail
        go_ret
        exact ⟨by subst hvf; rfl, hB1⟩
      | true =>
        go_wp2_with fail
        go_loopw [6] (fun i wq => ∃ j : Nat, j ≤ k ∧ i = .int .i64 j ∧ Below w.heap.size w wq ∧ Hid (s ∉ xs.take j)) (fun i _ => k - (intOf i).toNat)
        case atStart => exact ⟨0, Nat.zero_le _, rfl, hB1, Lib.hid (by simp)⟩
        case round =>
          clear hB1
          obtain ⟨j, hj, rfl, hB, HK⟩ := hrel
          by_cases hlt2 : j < k
          · obtain ⟨ad', e1, c1⟩ := at_T (Kd.C_below HX.out hB) k hlt hn
            obtain rfl : ad = ad' := by injection e1
            obtain ⟨ad', e2, c2⟩ := at_T (Kd.C_below HX.out hB) j (by omega) hn
            obtain rfl : ad = ad' := by injection e2
            rw [← HS.out] at c1
            have hmem : xs[j]'(by omega) ∈ xs.take k := mem_take' hlt2 hkl
            have hnot : xs[j]'(by omega) ≠ s → s ∉ xs.take (j + 1) := fun h => not_mem_take (by omega) HK.out h
            generalize xs[j]'(by omega) = u at c2 hmem hnot
            have HM := Lib.hid hmem; have HNO := Lib.hid hnot
            clear hmem hnot
            by_cases hus : u = s
            · have hvf := HN2.out (by rw [← hus]; exact HM.out)
              subst hus
              have hne := seq_yes u
              go_wp2_with fail
              go_quiet (fail)
              go_wp2_with fail
              go_ret
              exact ⟨by subst hvf; rfl, pw_below_drewN hB _⟩
            · have HN3 := Lib.hid (HNO.out hus)
              have hne := seq_no hus
              clear HM HNO
              go_wp2_with fail
              go_quiet (fail)
              go_wp2_with fail
              exact ⟨⟨j + 1, by omega, by go_num, pw_below_drewN hB _, HN3⟩, by simp only [intOf]; omega⟩
          · obtain rfl : k = j := by omega
            have HG2 := Lib.hid (HG.out hnv HK.out)
            go_wp2_with fail
            go_roundw
            case rel => exact ⟨k + 1, by omega, by go_num, hB, HG2⟩
            case measure => simp only [intOf]; omega
    · obtain rfl : n = k := by omega
      rw [List.take_of_length_le (by omega)] at HJ
      have he : v = btw (n : Int) 1 m := by
        rw [HV.out]; unfold diffS btw
        rw [hn, List.all_eq_true.2 HJ.out.1, decide_eq_true HJ.out.2, Bool.and_true, Bool.and_true]
      have HI := Lib.hid (fun w => in15 (n : Int) 1 m w)
      rw [← he] at HI
      go_wp2_with fail
      with_reducible refine (HI.out _).mono ?_
      rintro e w1 ⟨rfl, hb1⟩
      have hB1 := bt hB hb1
      clear hB hb1 HI he
      go_wp2_with fail
      go_ret
      exact ⟨rfl, hB1⟩
set_option maxHeartbeats 4000000 in
set_option maxRecDepth 100000 in
theorem namesA (A1 A2 A3 : Option Addr) (c1 c2 c3 n1 n2 n3 : Nat) (l : List Acc) (p1 p2 p3 p4 p5 p6 : Int) (w : World) (hn : l.length = n1) (hm : n1 ≤ 900) (hx : Kd.C kA w A1 n1 l) :
    Calls Try.prog 19 #[.agg (setC (.slice A1 n1 c1) (.slice A2 n2 c2) (.slice A3 n3 c3) p1 p2 p3 p4 p5 p6)] w fun e w' => ∃ B d, e = .returned (.slice B n1 d) ∧ Kd.C Kd.string w' B n1 (l.map (·.1)) ∧ Below w.heap.size w w' := by
  have HX := Lib.hid hx
  have hb := Blk.new w 34 (setC (.slice A1 n1 c1) (.slice A2 n2 c2) (.slice A3 n3 c3) p1 p2 p3 p4 p5 p6)
  have hb0 := (Below.refl w.heap.size w).alloc (Nat.le_refl _) (.cells (setC (.slice A1 n1 c1) (.slice A2 n2 c2) (.slice A3 n3 c3) p1 p2 p3 p4 p5 p6) 34)
  have inf : (Try.prog.info? 9).map (fun i => (i.zero, i.size, i.bytes)) = some (some (.string ⟨#[]⟩), 1, 16) := by kernel_rfl
  have INF := Lib.hid inf
  clear hx inf
  go_enter Try.func19, Try.ntmps19
  go_wp2_with fail
  generalize w.alloc (.cells (setC (.slice A1 n1 c1) (.slice A2 n2 c2) (.slice A3 n3 c3) p1 p2 p3 p4 p5 p6) 34) = w1 at *
  go_loopw [3, 4] (fun v i wr => ∃ k : Nat, k ≤ n1 ∧ i = .int .i64 k ∧ Blk wr w.heap.size 34 (setC (.slice A1 n1 c1) (.slice A2 n2 c2) (.slice A3 n3 c3) p1 p2 p3 p4 p5 p6) ∧ Below w.heap.size w wr ∧ Kd.R Kd.string 9 wr w.heap.size (fun _ => True) v ((l.take k).map (·.1))) (fun _ i _ => n1 - (intOf i).toNat)
  case atStart => exact ⟨0, Nat.zero_le _, rfl, hb, hb0, Kd.R_nil _ _ _ _ _⟩
  case round =>
    clear hb hb0
    obtain ⟨k, hk, rfl, hO, hB, hR⟩ := hrel
    have y0 : wr.cell? ⟨w.heap.size, 0, none⟩ = some (.slice A1 n1 c1) := hO.cell 0
    by_cases hlt : k < n1
    · obtain ⟨ad, rfl, hcell⟩ := at_A (Kd.C_below HX.out hB) k hlt
      have hkl : k < l.length := by rw [hn]; exact hlt
      have e1 : l.getD k zA = l[k] := by simp [hkl]
      have hs1 : (l.take (k + 1)).map (·.1) = (l.take k).map (·.1) ++ [l[k].1] := by rw [List.take_succ_eq_append_getElem hkl, List.map_append]; rfl
      rw [e1] at hcell
      have q0 : wr.cell? (ad.add (k * 2)) = some (.string l[k].1) := hcell 0 _ rfl
      clear hcell e1
      generalize l[k].1 = s at *
      have hlb : w.heap.size ≤ wr.heap.size := hB.size
      have htk : ((l.take k).map (·.1)).length ≤ 1000 := by rw [List.length_map, List.length_take]; omega
      have HR := Lib.hid hR; have HO := Lib.hid hO; have HB := Lib.hid hB
      clear hR hO hB
      obtain ⟨Av, cv, rfl⟩ := Kd.R_slice HR.out
      go_wp2_with (at_builtin; (refine Kd.R_append Kd.string (w0 := w) w.heap.size rfl (.tmp 12) (.tmp 19) 50 9 (.string ⟨#[]⟩) 16 rfl Try.underlying50 INF.out rfl (by decide) (by omega) (.slice Av ((l.take k).map (·.1)).length cv) ((l.take k).map (·.1)) s [.string s] (fun _ => True) (fun _ => False) rfl rfl rfl (fun _ hk => hk.elim) (fun _ _ => trivial) HR.out HB.out hlb (by omega) ?_); intro v' w7 ho hb7 hg hat; have h7 := HO.out.same (hg.block _ HO.out.lt (R_ne HR.out HO.out (by decide))); obtain ⟨Aq, cq, rfl⟩ := Kd.R_slice ho)
      rw [← hs1, show ((l.take (k + 1)).map (·.1)).length = k + 1 by rw [List.length_map, List.length_take]; omega] at ho
      go_roundw
      case rel => exact ⟨k + 1, by omega, by go_num, h7, hb7, ho⟩
      case measure => simp only [intOf]; omega
    · obtain rfl : n1 = k := by omega
      rw [List.take_of_length_le (by omega)] at hR
      obtain ⟨B, d, rfl⟩ := Kd.R_slice hR
      have hC := (Kd.R_reads' hR).2.2
      rw [List.length_map, hn] at hC
      rw [List.length_map, hn]
      go_wp2_with fail
      go_ret
      exact ⟨B, d, rfl, hC, hB⟩
set_option maxHeartbeats 4000000 in
set_option maxRecDepth 100000 in
theorem namesS (A1 A2 A3 : Option Addr) (c1 c2 c3 n1 n2 n3 : Nat) (l : List Sym) (p1 p2 p3 p4 p5 p6 : Int) (w : World) (hn : l.length = n2) (hm : n2 ≤ 900) (hx : Kd.C kS w A2 n2 l) :
    Calls Try.prog 20 #[.agg (setC (.slice A1 n1 c1) (.slice A2 n2 c2) (.slice A3 n3 c3) p1 p2 p3 p4 p5 p6)] w fun e w' => ∃ B d, e = .returned (.slice B n2 d) ∧ Kd.C Kd.string w' B n2 (l.map (·.1)) ∧ Below w.heap.size w w' := by
  have HX := Lib.hid hx
  have hb := Blk.new w 34 (setC (.slice A1 n1 c1) (.slice A2 n2 c2) (.slice A3 n3 c3) p1 p2 p3 p4 p5 p6)
  have hb0 := (Below.refl w.heap.size w).alloc (Nat.le_refl _) (.cells (setC (.slice A1 n1 c1) (.slice A2 n2 c2) (.slice A3 n3 c3) p1 p2 p3 p4 p5 p6) 34)
  have inf : (Try.prog.info? 9).map (fun i => (i.zero, i.size, i.bytes)) = some (some (.string ⟨#[]⟩), 1, 16) := by kernel_rfl
  have INF := Lib.hid inf
  clear hx inf
  go_enter Try.func20, Try.ntmps20
  go_wp2_with fail
  generalize w.alloc (.cells (setC (.slice A1 n1 c1) (.slice A2 n2 c2) (.slice A3 n3 c3) p1 p2 p3 p4 p5 p6) 34) = w1 at *
  go_loopw [3, 4] (fun v i wr => ∃ k : Nat, k ≤ n2 ∧ i = .int .i64 k ∧ Blk wr w.heap.size 34 (setC (.slice A1 n1 c1) (.slice A2 n2 c2) (.slice A3 n3 c3) p1 p2 p3 p4 p5 p6) ∧ Below w.heap.size w wr ∧ Kd.R Kd.string 9 wr w.heap.size (fun _ => True) v ((l.take k).map (·.1))) (fun _ i _ => n2 - (intOf i).toNat)
  case atStart => exact ⟨0, Nat.zero_le _, rfl, hb, hb0, Kd.R_nil _ _ _ _ _⟩
  case round =>
    clear hb hb0
    obtain ⟨k, hk, rfl, hO, hB, hR⟩ := hrel
    have y0 : wr.cell? ⟨w.heap.size, 1, none⟩ = some (.slice A2 n2 c2) := hO.cell 1
    by_cases hlt : k < n2
    · obtain ⟨ad, rfl, hcell⟩ := at_S (Kd.C_below HX.out hB) k hlt
      have hkl : k < l.length := by rw [hn]; exact hlt
      have e1 : l.getD k zS = l[k] := by simp [hkl]
      have hs1 : (l.take (k + 1)).map (·.1) = (l.take k).map (·.1) ++ [l[k].1] := by rw [List.take_succ_eq_append_getElem hkl, List.map_append]; rfl
      rw [e1] at hcell
      have q0 : wr.cell? (ad.add (k * 7)) = some (.string l[k].1) := hcell 0 _ rfl
      clear hcell e1
      generalize l[k].1 = s at *
      have hlb : w.heap.size ≤ wr.heap.size := hB.size
      have htk : ((l.take k).map (·.1)).length ≤ 1000 := by rw [List.length_map, List.length_take]; omega
      have HR := Lib.hid hR; have HO := Lib.hid hO; have HB := Lib.hid hB
      clear hR hO hB
      obtain ⟨Av, cv, rfl⟩ := Kd.R_slice HR.out
      go_wp2_with (at_builtin; (refine Kd.R_append Kd.string (w0 := w) w.heap.size rfl (.tmp 12) (.tmp 19) 50 9 (.string ⟨#[]⟩) 16 rfl Try.underlying50 INF.out rfl (by decide) (by omega) (.slice Av ((l.take k).map (·.1)).length cv) ((l.take k).map (·.1)) s [.string s] (fun _ => True) (fun _ => False) rfl rfl rfl (fun _ hk => hk.elim) (fun _ _ => trivial) HR.out HB.out hlb (by omega) ?_); intro v' w7 ho hb7 hg hat; have h7 := HO.out.same (hg.block _ HO.out.lt (R_ne HR.out HO.out (by decide))); obtain ⟨Aq, cq, rfl⟩ := Kd.R_slice ho)
      rw [← hs1, show ((l.take (k + 1)).map (·.1)).length = k + 1 by rw [List.length_map, List.length_take]; omega] at ho
      go_roundw
      case rel => exact ⟨k + 1, by omega, by go_num, h7, hb7, ho⟩
      case measure => simp only [intOf]; omega
    · obtain rfl : n2 = k := by omega
      rw [List.take_of_length_le (by omega)] at hR
      obtain ⟨B, d, rfl⟩ := Kd.R_slice hR
      have hC := (Kd.R_reads' hR).2.2
      rw [List.length_map, hn] at hC
      rw [List.length_map, hn]
      go_wp2_with fail
      go_ret
      exact ⟨B, d, rfl, hC, hB⟩
set_option maxHeartbeats 4000000 in
set_option maxRecDepth 100000 in
theorem namesV (A1 A2 A3 : Option Addr) (c1 c2 c3 n1 n2 n3 : Nat) (l : List Ven) (p1 p2 p3 p4 p5 p6 : Int) (w : World) (hn : l.length = n3) (hm : n3 ≤ 900) (hx : Kd.C kV w A3 n3 l) :
    Calls Try.prog 21 #[.agg (setC (.slice A1 n1 c1) (.slice A2 n2 c2) (.slice A3 n3 c3) p1 p2 p3 p4 p5 p6)] w fun e w' => ∃ B d, e = .returned (.slice B n3 d) ∧ Kd.C Kd.string w' B n3 (l.map (·.1)) ∧ Below w.heap.size w w' := by
  have HX := Lib.hid hx
  have hb := Blk.new w 34 (setC (.slice A1 n1 c1) (.slice A2 n2 c2) (.slice A3 n3 c3) p1 p2 p3 p4 p5 p6)
  have hb0 := (Below.refl w.heap.size w).alloc (Nat.le_refl _) (.cells (setC (.slice A1 n1 c1) (.slice A2 n2 c2) (.slice A3 n3 c3) p1 p2 p3 p4 p5 p6) 34)
  have inf : (Try.prog.info? 9).map (fun i => (i.zero, i.size, i.bytes)) = some (some (.string ⟨#[]⟩), 1, 16) := by kernel_rfl
  have INF := Lib.hid inf
  clear hx inf
  go_enter Try.func21, Try.ntmps21
  go_wp2_with fail
  generalize w.alloc (.cells (setC (.slice A1 n1 c1) (.slice A2 n2 c2) (.slice A3 n3 c3) p1 p2 p3 p4 p5 p6) 34) = w1 at *
  go_loopw [3, 4] (fun v i wr => ∃ k : Nat, k ≤ n3 ∧ i = .int .i64 k ∧ Blk wr w.heap.size 34 (setC (.slice A1 n1 c1) (.slice A2 n2 c2) (.slice A3 n3 c3) p1 p2 p3 p4 p5 p6) ∧ Below w.heap.size w wr ∧ Kd.R Kd.string 9 wr w.heap.size (fun _ => True) v ((l.take k).map (·.1))) (fun _ i _ => n3 - (intOf i).toNat)
  case atStart => exact ⟨0, Nat.zero_le _, rfl, hb, hb0, Kd.R_nil _ _ _ _ _⟩
  case round =>
    clear hb hb0
    obtain ⟨k, hk, rfl, hO, hB, hR⟩ := hrel
    have y0 : wr.cell? ⟨w.heap.size, 2, none⟩ = some (.slice A3 n3 c3) := hO.cell 2
    by_cases hlt : k < n3
    · obtain ⟨ad, rfl, hcell⟩ := at_V (Kd.C_below HX.out hB) k hlt
      have hkl : k < l.length := by rw [hn]; exact hlt
      have e1 : l.getD k zV = l[k] := by simp [hkl]
      have hs1 : (l.take (k + 1)).map (·.1) = (l.take k).map (·.1) ++ [l[k].1] := by rw [List.take_succ_eq_append_getElem hkl, List.map_append]; rfl
      rw [e1] at hcell
      have q0 : wr.cell? (ad.add (k * 5)) = some (.string l[k].1) := hcell 0 _ rfl
      clear hcell e1
      generalize l[k].1 = s at *
      have hlb : w.heap.size ≤ wr.heap.size := hB.size
      have htk : ((l.take k).map (·.1)).length ≤ 1000 := by rw [List.length_map, List.length_take]; omega
      have HR := Lib.hid hR; have HO := Lib.hid hO; have HB := Lib.hid hB
      clear hR hO hB
      obtain ⟨Av, cv, rfl⟩ := Kd.R_slice HR.out
      go_wp2_with (at_builtin; (refine Kd.R_append Kd.string (w0 := w) w.heap.size rfl (.tmp 12) (.tmp 19) 50 9 (.string ⟨#[]⟩) 16 rfl Try.underlying50 INF.out rfl (by decide) (by omega) (.slice Av ((l.take k).map (·.1)).length cv) ((l.take k).map (·.1)) s [.string s] (fun _ => True) (fun _ => False) rfl rfl rfl (fun _ hk => hk.elim) (fun _ _ => trivial) HR.out HB.out hlb (by omega) ?_); intro v' w7 ho hb7 hg hat; have h7 := HO.out.same (hg.block _ HO.out.lt (R_ne HR.out HO.out (by decide))); obtain ⟨Aq, cq, rfl⟩ := Kd.R_slice ho)
      rw [← hs1, show ((l.take (k + 1)).map (·.1)).length = k + 1 by rw [List.length_map, List.length_take]; omega] at ho
      go_roundw
      case rel => exact ⟨k + 1, by omega, by go_num, h7, hb7, ho⟩
      case measure => simp only [intOf]; omega
    · obtain rfl : n3 = k := by omega
      rw [List.take_of_length_le (by omega)] at hR
      obtain ⟨B, d, rfl⟩ := Kd.R_slice hR
      have hC := (Kd.R_reads' hR).2.2
      rw [List.length_map, hn] at hC
      rw [List.length_map, hn]
      go_wp2_with fail
      go_ret
      exact ⟨B, d, rfl, hC, hB⟩
theorem plc_at {xs : List ByteArray} {s : ByteArray} {k : Nat} (h : k < xs.length) (h1 : s ∉ xs.take k) (h2 : xs[k] = s) : plc xs s = (k : Int) := by
  induction xs generalizing k with
  | nil => simp at h
  | cons a l ih =>
    cases k with
    | zero => simp at h2; subst h2; simp [plc]
    | succ k =>
      simp only [List.take_succ_cons, List.mem_cons, not_or] at h1
      simp only [List.getElem_cons_succ] at h2
      have hk : k < l.length := by simpa using h
      have := ih hk h1.2 h2
      simp only [plc]
      rw [if_neg (fun e => h1.1 (by first | exact e | exact e.symm)), this, if_neg (by omega)]
      omega
set_option maxHeartbeats 4000000 in
set_option maxRecDepth 100000 in
theorem Find_walk (A : Option Addr) (c n : Nat) (xs : List ByteArray) (s : ByteArray) (w : World) (hn : xs.length = n) (hm : n ≤ 900) (hx : Kd.C Kd.string w A n xs) :
    Calls Try.prog 43 #[.slice A n c, .string s] w fun e w' => e = .returned (.int .i64 (plc xs s)) ∧ Below w.heap.size w w' := by
  have HX := Lib.hid hx
  obtain ⟨v, hv⟩ : ∃ v, v = plc xs s := ⟨_, rfl⟩
  have HV := Lib.hid hv
  rw [← hv]
  clear hx hv
  go_enter Try.func43, Try.ntmps43
  go_wp2_with fail
  go_loopw [5] (fun i wr => ∃ k : Nat, k ≤ n ∧ i = .int .i64 k ∧ Below w.heap.size w wr ∧ Hid (s ∉ xs.take k)) (fun i _ => n - (intOf i).toNat)
  case atStart => exact ⟨0, Nat.zero_le _, rfl, Below.refl _ _, Lib.hid (by simp)⟩
  case round =>
    obtain ⟨k, hk, rfl, hB, HK⟩ := hrel
    by_cases hlt : k < n
    · obtain ⟨ad, rfl, hcell⟩ := at_T (Kd.C_below HX.out hB) k hlt hn
      have hkl : k < xs.length := by omega
      have hnot : xs[k]'hkl ≠ s → s ∉ xs.take (k + 1) := fun h => not_mem_take hkl HK.out h
      have hyes : xs[k]'hkl = s → v = (k : Int) := fun h => by rw [HV.out]; exact plc_at hkl HK.out h
      generalize xs[k]'hkl = u at *
      have HNO := Lib.hid hnot; have HY := Lib.hid hyes
      clear hnot hyes
      by_cases hus : u = s
      · have hvk := HY.out hus
        subst hus
        have hne := seq_yes u
        go_wp2_with fail
        go_ret
        exact ⟨by subst hvk; rfl, hB⟩
      · have HN3 := Lib.hid (HNO.out hus)
        have hne := seq_no hus
        clear HY HNO
        go_wp2_with fail
        exact ⟨⟨k + 1, by omega, by go_num, hB, HN3⟩, by simp only [intOf]; omega⟩
    · obtain rfl : n = k := by omega
      rw [List.take_of_length_le (by omega)] at HK
      have hvn := HV.out.trans (plc_no xs s HK.out)
      go_wp2_with fail
      go_ret
      exact ⟨by subst hvn; rfl, hB⟩
end Go.Proofs.Ytbhbnefifgdioaa.Hand

/- The document's Right, exactly (gen_rul8.py). -/
set_option linter.unusedVariables false
set_option linter.unusedSimpArgs false
namespace Go.Proofs.Ytbhbnefifgdioaa.Hand
open Go Go.RowKit Go.Proofs.YtbhbnefifgdioaaW.PrintWords Go.Proofs.YtbhbnefifgdioaaW.PrintMore Go.Proofs.YtbhbnefifgdioaaW.PrintLast Go.Proofs.Ytbhbnefifgdioaa.RL Go.Proofs.Ytbhbnefifgdioaa.PL Go.Proofs.Ytbhbnefifgdioaa.K
/-- May a symbol stand in a setup? -/
def symS (x : Sym) : Bool := decide (1 ≤ x.2.1 ∧ x.2.1 ≤ 1099511627776) && decide (1 ≤ x.2.2.2.2.2.1 ∧ x.2.2.2.2.2.1 ≤ 1099511627776) && decide (1 ≤ x.2.2.1 ∧ x.2.2.1 ≤ 1099511627776) && decide (1 ≤ x.2.2.2.1 ∧ x.2.2.2.1 ≤ 1099511627776) && decide (0 ≤ x.2.2.2.2.1 ∧ x.2.2.2.2.1 ≤ 10000) && decide (1 ≤ x.2.2.2.2.2.2 ∧ x.2.2.2.2.2.2 ≤ 4611686018427387904) && decide ((bandS x.2.2.2.1 x.2.2.2.2.1 x.2.2.1).2.2 = 0) && decide (1 ≤ (bandS x.2.2.2.1 x.2.2.2.2.1 x.2.2.1).1)
theorem in15_is (a b c : Int) : spigotref15_in.f a b c = some (decide (b ≤ a ∧ a ≤ c)) := by
  unfold spigotref15_in.f
  by_cases h : a ≥ b
  · rw [if_pos h]; congr 1; rw [decide_eq_decide]; omega
  · rw [if_neg h, decide_eq_false (by omega)]
theorem sym_is (x : Sym) : spigotref15_symbol.f 2 x.1 x.2.1 x.2.2.1 x.2.2.2.1 x.2.2.2.2.1 x.2.2.2.2.2.1 x.2.2.2.2.2.2 = some (symS x) := by
  obtain ⟨s, lot, tick, mid, wid, most, worth⟩ := x
  unfold spigotref15_symbol.f symS
  dsimp only
  simp only [in15_is, Option.bind_some]
  by_cases h1 : 1 ≤ lot ∧ lot ≤ 1099511627776
  · rw [decide_eq_true h1, if_pos rfl]
    by_cases h2 : 1 ≤ most ∧ most ≤ 1099511627776
    · rw [decide_eq_true h2, if_pos rfl]
      by_cases h3 : 1 ≤ tick ∧ tick ≤ 1099511627776
      · rw [decide_eq_true h3, if_pos rfl]
        by_cases h4 : 1 ≤ mid ∧ mid ≤ 1099511627776
        · rw [decide_eq_true h4, if_pos rfl]
          by_cases h5 : 0 ≤ wid ∧ wid ≤ 10000
          · rw [decide_eq_true h5, if_pos rfl]
            by_cases h6 : 1 ≤ worth ∧ worth ≤ 4611686018427387904
            · rw [decide_eq_true h6, if_pos rfl, rband_is mid wid tick (by unfold in64; omega) 2 (by omega), Option.bind_some]
              by_cases h7 : (bandS mid wid tick).2.2 = 0
              · rw [if_pos h7, decide_eq_true h7]; simp
              · rw [if_neg h7, decide_eq_false h7]; simp
            · rw [decide_eq_false h6]; simp
          · rw [decide_eq_false h5]; simp
        · rw [decide_eq_false h4]; simp
      · rw [decide_eq_false h3]; simp
    · rw [decide_eq_false h2]; simp
  · rw [decide_eq_false h1]; simp
theorem sym_calls (x : Sym) (w : World) : Calls Try.prog 25 #[.agg #[.string x.1, .int .i64 x.2.1, .int .i64 x.2.2.1, .int .i64 x.2.2.2.1, .int .i64 x.2.2.2.2.1, .int .i64 x.2.2.2.2.2.1, .int .i64 x.2.2.2.2.2.2]] w fun e w' => e = .returned (.bool (symS x)) ∧ Below w.heap.size w w' :=
  spigotref15_symbol.calls 2 _ _ _ _ _ _ _ _ w (sym_is x)
theorem sizes_is (p1 p2 p3 p4 p5 p6 : Int) : sizB p1 p2 p3 p4 p5 p6 = (btw p1 1 64 && (btw p2 1 256 && (btw p3 1 4096 && (btw p4 1 1073741824 && (btw p5 1 1024 && btw p6 2 1024))))) := by
  unfold sizB; simp only [Bool.and_assoc]
/-- Is a setup right, as the document has it? -/
def rigS (l1 : List Acc) (l2 : List Sym) (l3 : List Ven) (p1 p2 p3 p4 p5 p6 : Int) : Bool := diffS (l1.map (·.1)) 16 && (diffS (l2.map (·.1)) 16 && (diffS (l3.map (·.1)) 8 && (l1.all accB && (l2.all symS && (l3.all venB && sizB p1 p2 p3 p4 p5 p6)))))
theorem symS_is (x : Sym) : symS x = symB x := by
  unfold symS symB btw
  by_cases h5 : 0 ≤ x.2.2.2.2.1 ∧ x.2.2.2.2.1 ≤ 10000
  · rw [decide_eq_true h5]
    generalize bandS x.2.2.2.1 x.2.2.2.2.1 x.2.2.1 = bb
    obtain ⟨b1, b2, b3⟩ := bb
    rw [Bool.eq_iff_iff]; simp only [Bool.and_eq_true, decide_eq_true_eq, Bool.and_true]; omega
  · have hb : (bandS x.2.2.2.1 x.2.2.2.2.1 x.2.2.1).2.2 ≠ 0 := by
      unfold bandS
      repeat' split
      all_goals first | (intro hq; exact absurd hq (by decide)) | (exfalso; omega) | skip
    rw [decide_eq_false h5, decide_eq_false hb]; simp
theorem rig_chk (l1 : List Acc) (l2 : List Sym) (l3 : List Ven) (p1 p2 p3 p4 p5 p6 : Int) : rigS l1 l2 l3 p1 p2 p3 p4 p5 p6 = chkS l1 l2 l3 p1 p2 p3 p4 p5 p6 := by
  unfold rigS chkS
  rw [show symS = symB from funext symS_is]
  rw [Bool.eq_iff_iff]; simp only [Bool.and_eq_true]
  constructor
  · rintro ⟨a, b, c, d, e, f, g⟩; exact ⟨⟨a, d⟩, ⟨b, e⟩, ⟨c, f⟩, g⟩
  · rintro ⟨⟨a, d⟩, ⟨b, e⟩, ⟨c, f⟩, g⟩; exact ⟨a, b, c, d, e, f, g⟩
set_option maxHeartbeats 16000000 in
set_option maxRecDepth 100000 in
theorem right15_walk (A1 A2 A3 : Option Addr) (c1 c2 c3 : Nat) (l1 : List Acc) (l2 : List Sym) (l3 : List Ven) (p1 p2 p3 p4 p5 p6 : Int) (w : World) (hm1 : l1.length ≤ 900) (hm2 : l2.length ≤ 900) (hm3 : l3.length ≤ 900)
    (h1 : Kd.C kA w A1 l1.length l1) (h2 : Kd.C kS w A2 l2.length l2) (h3 : Kd.C kV w A3 l3.length l3) (s1 : ∀ x ∈ l1, x.1.size ≤ 1000) (s2 : ∀ x ∈ l2, x.1.size ≤ 1000) (s3 : ∀ x ∈ l3, x.1.size ≤ 1000) :
    Calls Try.prog 9 #[.agg (setC (.slice A1 l1.length c1) (.slice A2 l2.length c2) (.slice A3 l3.length c3) p1 p2 p3 p4 p5 p6)] w fun e w' => e = .returned (.bool (rigS l1 l2 l3 p1 p2 p3 p4 p5 p6)) ∧ Below w.heap.size w w' := by
  have hO := Blk.new w 34 (setC (.slice A1 l1.length c1) (.slice A2 l2.length c2) (.slice A3 l3.length c3) p1 p2 p3 p4 p5 p6)
  have hB := (Below.refl w.heap.size w).alloc (Nat.le_refl _) (.cells (setC (.slice A1 l1.length c1) (.slice A2 l2.length c2) (.slice A3 l3.length c3) p1 p2 p3 p4 p5 p6) 34)
  have NA := fun w' (b : Below w.heap.size w w') => namesA A1 A2 A3 c1 c2 c3 l1.length l2.length l3.length l1 p1 p2 p3 p4 p5 p6 w' rfl hm1 (Kd.C_below h1 b)
  have NS := fun w' (b : Below w.heap.size w w') => namesS A1 A2 A3 c1 c2 c3 l1.length l2.length l3.length l2 p1 p2 p3 p4 p5 p6 w' rfl hm2 (Kd.C_below h2 b)
  have NV := fun w' (b : Below w.heap.size w w') => namesV A1 A2 A3 c1 c2 c3 l1.length l2.length l3.length l3 p1 p2 p3 p4 p5 p6 w' rfl hm3 (Kd.C_below h3 b)
  have HNA := Lib.hid NA; have HNS := Lib.hid NS; have HNV := Lib.hid NV
  have H1 := Lib.hid h1; have H2 := Lib.hid h2; have H3 := Lib.hid h3
  have S1 := Lib.hid s1; have S2 := Lib.hid s2; have S3 := Lib.hid s3
  obtain ⟨v, hv⟩ : ∃ v, v = rigS l1 l2 l3 p1 p2 p3 p4 p5 p6 := ⟨_, rfl⟩
  rw [← hv]
  unfold rigS at hv
  rw [sizes_is] at hv
  have HV := Lib.hid hv
  have HW := Lib.hid (fun (a lo hi : Int) (w : World) => in15 a lo hi w)
  clear NA NS NV h1 h2 h3 s1 s2 s3 hv
  go_enter Try.func9, Try.ntmps9
  go_wp2_with fail
  generalize w.alloc (.cells (setC (.slice A1 l1.length c1) (.slice A2 l2.length c2) (.slice A3 l3.length c3) p1 p2 p3 p4 p5 p6) 34) = w0 at *
  refine (HNA.out w0 hB).mono ?_
  rintro e wa0 ⟨B, d, rfl, hC, ba⟩
  have hO := hO.on ba
  have hB := bt hB ba
  go_wp2_with fail
  refine (names15_walk B d l1.length (l1.map (·.1)) 16 wa0 (by rw [List.length_map]) hm1 hC (fun s hs => by obtain ⟨x, hx, rfl⟩ := List.mem_map.1 hs; exact S1.out x hx)).mono ?_
  rintro e wb0 ⟨rfl, bb⟩
  have hO := hO.on bb
  have hB := bt hB bb
  clear hC ba bb
  cases hd0 : diffS (l1.map (·.1)) 16 with
  | false =>
    have hvf : v = false := HV.out.trans (by rw [hd0]; rfl)
    go_wp2_with fail
    go_ret
    exact ⟨by subst hvf; rfl, hB⟩
  | true =>
    replace HV := Lib.hid (HV.out.trans (by rw [hd0, Bool.true_and]))
    clear hd0
    have y0 : wb0.cell? ⟨w.heap.size, 0, none⟩ = some (.slice A1 l1.length c1) := hO.cell 0; have y1 : wb0.cell? ⟨w.heap.size, 1, none⟩ = some (.slice A2 l2.length c2) := hO.cell 1; have y2 : wb0.cell? ⟨w.heap.size, 2, none⟩ = some (.slice A3 l3.length c3) := hO.cell 2; have y3 : wb0.cell? ⟨w.heap.size, 3, none⟩ = some (.int .i64 p1) := hO.cell 3; have y4 : wb0.cell? ⟨w.heap.size, 4, none⟩ = some (.int .i64 p2) := hO.cell 4; have y5 : wb0.cell? ⟨w.heap.size, 5, none⟩ = some (.int .i64 p3) := hO.cell 5; have y6 : wb0.cell? ⟨w.heap.size, 6, none⟩ = some (.int .i64 p4) := hO.cell 6; have y7 : wb0.cell? ⟨w.heap.size, 7, none⟩ = some (.int .i64 p5) := hO.cell 7; have y8 : wb0.cell? ⟨w.heap.size, 8, none⟩ = some (.int .i64 p6) := hO.cell 8
    go_wp2_with fail
    clear y0 y1 y2 y3 y4 y5 y6 y7 y8
    refine (HNS.out wb0 hB).mono ?_
    rintro e wa1 ⟨B, d, rfl, hC, ba⟩
    have hO := hO.on ba
    have hB := bt hB ba
    go_wp2_with fail
    refine (names15_walk B d l2.length (l2.map (·.1)) 16 wa1 (by rw [List.length_map]) hm2 hC (fun s hs => by obtain ⟨x, hx, rfl⟩ := List.mem_map.1 hs; exact S2.out x hx)).mono ?_
    rintro e wb1 ⟨rfl, bb⟩
    have hO := hO.on bb
    have hB := bt hB bb
    clear hC ba bb
    cases hd1 : diffS (l2.map (·.1)) 16 with
    | false =>
      have hvf : v = false := HV.out.trans (by rw [hd1]; rfl)
      go_wp2_with fail
      go_ret
      exact ⟨by subst hvf; rfl, hB⟩
    | true =>
      replace HV := Lib.hid (HV.out.trans (by rw [hd1, Bool.true_and]))
      clear hd1
      have y0 : wb1.cell? ⟨w.heap.size, 0, none⟩ = some (.slice A1 l1.length c1) := hO.cell 0; have y1 : wb1.cell? ⟨w.heap.size, 1, none⟩ = some (.slice A2 l2.length c2) := hO.cell 1; have y2 : wb1.cell? ⟨w.heap.size, 2, none⟩ = some (.slice A3 l3.length c3) := hO.cell 2; have y3 : wb1.cell? ⟨w.heap.size, 3, none⟩ = some (.int .i64 p1) := hO.cell 3; have y4 : wb1.cell? ⟨w.heap.size, 4, none⟩ = some (.int .i64 p2) := hO.cell 4; have y5 : wb1.cell? ⟨w.heap.size, 5, none⟩ = some (.int .i64 p3) := hO.cell 5; have y6 : wb1.cell? ⟨w.heap.size, 6, none⟩ = some (.int .i64 p4) := hO.cell 6; have y7 : wb1.cell? ⟨w.heap.size, 7, none⟩ = some (.int .i64 p5) := hO.cell 7; have y8 : wb1.cell? ⟨w.heap.size, 8, none⟩ = some (.int .i64 p6) := hO.cell 8
      go_wp2_with fail
      clear y0 y1 y2 y3 y4 y5 y6 y7 y8
      refine (HNV.out wb1 hB).mono ?_
      rintro e wa2 ⟨B, d, rfl, hC, ba⟩
      have hO := hO.on ba
      have hB := bt hB ba
      go_wp2_with fail
      refine (names15_walk B d l3.length (l3.map (·.1)) 8 wa2 (by rw [List.length_map]) hm3 hC (fun s hs => by obtain ⟨x, hx, rfl⟩ := List.mem_map.1 hs; exact S3.out x hx)).mono ?_
      rintro e wb2 ⟨rfl, bb⟩
      have hO := hO.on bb
      have hB := bt hB bb
      clear hC ba bb
      cases hd2 : diffS (l3.map (·.1)) 8 with
      | false =>
        have hvf : v = false := HV.out.trans (by rw [hd2]; rfl)
        go_wp2_with fail
        go_ret
        exact ⟨by subst hvf; rfl, hB⟩
      | true =>
        replace HV := Lib.hid (HV.out.trans (by rw [hd2, Bool.true_and]))
        clear hd2
        have y0 : wb2.cell? ⟨w.heap.size, 0, none⟩ = some (.slice A1 l1.length c1) := hO.cell 0; have y1 : wb2.cell? ⟨w.heap.size, 1, none⟩ = some (.slice A2 l2.length c2) := hO.cell 1; have y2 : wb2.cell? ⟨w.heap.size, 2, none⟩ = some (.slice A3 l3.length c3) := hO.cell 2; have y3 : wb2.cell? ⟨w.heap.size, 3, none⟩ = some (.int .i64 p1) := hO.cell 3; have y4 : wb2.cell? ⟨w.heap.size, 4, none⟩ = some (.int .i64 p2) := hO.cell 4; have y5 : wb2.cell? ⟨w.heap.size, 5, none⟩ = some (.int .i64 p3) := hO.cell 5; have y6 : wb2.cell? ⟨w.heap.size, 6, none⟩ = some (.int .i64 p4) := hO.cell 6; have y7 : wb2.cell? ⟨w.heap.size, 7, none⟩ = some (.int .i64 p5) := hO.cell 7; have y8 : wb2.cell? ⟨w.heap.size, 8, none⟩ = some (.int .i64 p6) := hO.cell 8
        go_wp2_with fail
        clear HNA HNS HNV y0 y1 y2 y3 y4 y5 y6 y7 y8
        go_loopw [3] (fun i wr => ∃ k : Nat, k ≤ l1.length ∧ i = .int .i64 k ∧ Blk wr w.heap.size 34 (setC (.slice A1 l1.length c1) (.slice A2 l2.length c2) (.slice A3 l3.length c3) p1 p2 p3 p4 p5 p6) ∧ Below w.heap.size w wr ∧ Hid ((l1.take k).all accB = true)) (fun i _ => l1.length - (intOf i).toNat)
        case atStart => exact ⟨0, Nat.zero_le _, rfl, hO, hB, Lib.hid rfl⟩
        case round =>
          clear hO hB
          obtain ⟨k, hk, rfl, hO, hB, HJ⟩ := hrel
          have y0 : wr.cell? ⟨w.heap.size, 0, none⟩ = some (.slice A1 l1.length c1) := hO.cell 0
          by_cases hlt : k < l1.length
          · obtain ⟨ad, rfl, hcell⟩ := at_A (Kd.C_below H1.out hB) k hlt
            have e1 : l1.getD k zA = l1[k] := by simp [hlt]
            rw [e1] at hcell
            have hno : accB l1[k] = false → v = false := fun q => HV.out.trans (by rw [all_noF hlt q]; rfl)
            have hgo : accB l1[k] = true → (l1.take (k + 1)).all accB = true := fun q => all_take hlt HJ.out q
            generalize l1[k] = x at *
            have q1 : wr.cell? ⟨(ad.add (k * 2)).block, (ad.add (k * 2)).off + 1, none⟩ = some (.int .i64 x.2) := by rw [← add_field _ _ 1 (by omega)]; exact hcell 1 _ rfl
            have HNo := Lib.hid hno; have HGo := Lib.hid hgo
            clear hcell e1 hno hgo
            go_wp2_with fail
            with_reducible refine (HW.out _ _ _ _).mono ?_
            rintro e wc ⟨rfl, bc⟩
            have hO := hO.on bc
            have hB := bt hB bc
            cases hc : btw x.2 0 4611686018427387904 with
            | false =>
              have hvf : v = false := HNo.out (by unfold accB; exact hc)
              go_wp2_with fail
              go_ret
              exact ⟨by subst hvf; rfl, hB⟩
            | true =>
              have HK := Lib.hid (HGo.out (by unfold accB; exact hc))
              go_wp2_with fail
              go_roundw
              case rel => exact ⟨k + 1, by omega, by go_num, hO, hB, HK⟩
              case measure => simp only [intOf]; omega
          · obtain rfl : l1.length = k := by omega
            rw [List.take_length] at HJ
            replace HV := Lib.hid (HV.out.trans (by rw [HJ.out, Bool.true_and]))
            clear HJ hk
            have y1 : wr.cell? ⟨w.heap.size, 1, none⟩ = some (.slice A2 l2.length c2) := hO.cell 1
            go_wp2_with fail
            clear y0 y1 hlt
            go_loopw [4] (fun i wr => ∃ k : Nat, k ≤ l2.length ∧ i = .int .i64 k ∧ Blk wr w.heap.size 34 (setC (.slice A1 l1.length c1) (.slice A2 l2.length c2) (.slice A3 l3.length c3) p1 p2 p3 p4 p5 p6) ∧ Below w.heap.size w wr ∧ Hid ((l2.take k).all symS = true)) (fun i _ => l2.length - (intOf i).toNat)
            case atStart => exact ⟨0, Nat.zero_le _, rfl, hO, hB, Lib.hid rfl⟩
            case round =>
              clear hO hB
              obtain ⟨k, hk, rfl, hO, hB, HJ⟩ := hrel
              have y1 : wr.cell? ⟨w.heap.size, 1, none⟩ = some (.slice A2 l2.length c2) := hO.cell 1
              by_cases hlt : k < l2.length
              · obtain ⟨ad, rfl, hcell⟩ := at_S (Kd.C_below H2.out hB) k hlt
                have e1 : l2.getD k zS = l2[k] := by simp [hlt]
                rw [e1] at hcell
                have hno : symS l2[k] = false → v = false := fun q => HV.out.trans (by rw [all_noF hlt q]; rfl)
                have hgo : symS l2[k] = true → (l2.take (k + 1)).all symS = true := fun q => all_take hlt HJ.out q
                generalize l2[k] = x at *
                have q0 : wr.cell? (ad.add (k * 7)) = some (.string x.1) := hcell 0 _ rfl
                have q1 : wr.cell? ⟨(ad.add (k * 7)).block, (ad.add (k * 7)).off + 1, none⟩ = some (.int .i64 x.2.1) := by rw [← add_field _ _ 1 (by omega)]; exact hcell 1 _ rfl
                have q2 : wr.cell? ⟨(ad.add (k * 7)).block, (ad.add (k * 7)).off + 2, none⟩ = some (.int .i64 x.2.2.1) := by rw [← add_field _ _ 2 (by omega)]; exact hcell 2 _ rfl
                have q3 : wr.cell? ⟨(ad.add (k * 7)).block, (ad.add (k * 7)).off + 3, none⟩ = some (.int .i64 x.2.2.2.1) := by rw [← add_field _ _ 3 (by omega)]; exact hcell 3 _ rfl
                have q4 : wr.cell? ⟨(ad.add (k * 7)).block, (ad.add (k * 7)).off + 4, none⟩ = some (.int .i64 x.2.2.2.2.1) := by rw [← add_field _ _ 4 (by omega)]; exact hcell 4 _ rfl
                have q5 : wr.cell? ⟨(ad.add (k * 7)).block, (ad.add (k * 7)).off + 5, none⟩ = some (.int .i64 x.2.2.2.2.2.1) := by rw [← add_field _ _ 5 (by omega)]; exact hcell 5 _ rfl
                have q6 : wr.cell? ⟨(ad.add (k * 7)).block, (ad.add (k * 7)).off + 6, none⟩ = some (.int .i64 x.2.2.2.2.2.2) := by rw [← add_field _ _ 6 (by omega)]; exact hcell 6 _ rfl
                have HNo := Lib.hid hno; have HGo := Lib.hid hgo
                clear hcell e1 hno hgo
                have HC := Lib.hid (sym_calls x wr)
                go_wp2_with fail
                with_reducible refine HC.out.mono ?_
                rintro e wc ⟨rfl, bc⟩
                have hO := hO.on bc
                have hB := bt hB bc
                cases hc : symS x with
                | false =>
                  have hvf : v = false := HNo.out hc
                  go_wp2_with fail
                  go_ret
                  exact ⟨by subst hvf; rfl, hB⟩
                | true =>
                  have HK := Lib.hid (HGo.out hc)
                  go_wp2_with fail
                  go_roundw
                  case rel => exact ⟨k + 1, by omega, by go_num, hO, hB, HK⟩
                  case measure => simp only [intOf]; omega
              · obtain rfl : l2.length = k := by omega
                rw [List.take_length] at HJ
                replace HV := Lib.hid (HV.out.trans (by rw [HJ.out, Bool.true_and]))
                clear HJ hk
                have y2 : wr.cell? ⟨w.heap.size, 2, none⟩ = some (.slice A3 l3.length c3) := hO.cell 2
                go_wp2_with fail
                clear y1 y2 hlt
                go_loopw [5] (fun i wr => ∃ k : Nat, k ≤ l3.length ∧ i = .int .i64 k ∧ Blk wr w.heap.size 34 (setC (.slice A1 l1.length c1) (.slice A2 l2.length c2) (.slice A3 l3.length c3) p1 p2 p3 p4 p5 p6) ∧ Below w.heap.size w wr ∧ Hid ((l3.take k).all venB = true)) (fun i _ => l3.length - (intOf i).toNat)
                case atStart => exact ⟨0, Nat.zero_le _, rfl, hO, hB, Lib.hid rfl⟩
                case round =>
                  clear hO hB
                  obtain ⟨k, hk, rfl, hO, hB, HJ⟩ := hrel
                  have y2 : wr.cell? ⟨w.heap.size, 2, none⟩ = some (.slice A3 l3.length c3) := hO.cell 2
                  by_cases hlt : k < l3.length
                  · obtain ⟨ad, rfl, hcell⟩ := at_V (Kd.C_below H3.out hB) k hlt
                    have e1 : l3.getD k zV = l3[k] := by simp [hlt]
                    rw [e1] at hcell
                    have hno : venB l3[k] = false → v = false := fun q => HV.out.trans (by rw [all_noF hlt q]; rfl)
                    have hgo : venB l3[k] = true → (l3.take (k + 1)).all venB = true := fun q => all_take hlt HJ.out q
                    generalize l3[k] = x at *
                    have q0 : wr.cell? (ad.add (k * 5)) = some (.string x.1) := hcell 0 _ rfl
                    have q1 : wr.cell? ⟨(ad.add (k * 5)).block, (ad.add (k * 5)).off + 1, none⟩ = some (.int .i64 x.2.1) := by rw [← add_field _ _ 1 (by omega)]; exact hcell 1 _ rfl
                    have q2 : wr.cell? ⟨(ad.add (k * 5)).block, (ad.add (k * 5)).off + 2, none⟩ = some (.int .i64 x.2.2.1) := by rw [← add_field _ _ 2 (by omega)]; exact hcell 2 _ rfl
                    have q3 : wr.cell? ⟨(ad.add (k * 5)).block, (ad.add (k * 5)).off + 3, none⟩ = some (.int .i64 x.2.2.2.1) := by rw [← add_field _ _ 3 (by omega)]; exact hcell 3 _ rfl
                    have q4 : wr.cell? ⟨(ad.add (k * 5)).block, (ad.add (k * 5)).off + 4, none⟩ = some (.bool x.2.2.2.2) := by rw [← add_field _ _ 4 (by omega)]; exact hcell 4 _ rfl
                    have HNo := Lib.hid hno; have HGo := Lib.hid hgo
                    clear hcell e1 hno hgo
                    have hx := Blk.new wr 64 #[.string x.1, .int .i64 x.2.1, .int .i64 x.2.2.1, .int .i64 x.2.2.2.1, .bool x.2.2.2.2]
                    have b5 := (Below.refl wr.heap.size wr).alloc (Nat.le_refl _) (.cells #[.string x.1, .int .i64 x.2.1, .int .i64 x.2.2.1, .int .i64 x.2.2.2.1, .bool x.2.2.2.2] 64)
                    have hO5 := hO.on b5
                    have hB5 := bt hB b5
                    go_upto_region 17 with (fail)
                    generalize wr.alloc (.cells #[.string x.1, .int .i64 x.2.1, .int .i64 x.2.2.1, .int .i64 x.2.2.2.1, .bool x.2.2.2.2] 64) = v0 at *
                    generalize wr.heap.size = ob at *
                    clear q0 q1 q2 q3 q4 hO hB y2
                    have u1 : v0.cell? ⟨ob, 1, none⟩ = some (.int .i64 x.2.1) := hx.cell 1
                    go_wp2_with fail
                    with_reducible refine (HW.out _ _ _ _).mono ?_
                    rintro e v1 ⟨rfl, bc⟩
                    have hx := hx.on bc
                    have hO5 := hO5.on bc
                    have hB5 := bt hB5 bc
                    clear bc u1
                    cases hc0 : btw x.2.1 1 1099511627776 with
                    | false =>
                      have hvf : v = false := HNo.out (by unfold venB; simp [hc0])
                      go_wp2_with fail
                      go_ret
                      exact ⟨by subst hvf; rfl, hB5⟩
                    | true =>
                      have u2 : v1.cell? ⟨ob, 2, none⟩ = some (.int .i64 x.2.2.1) := hx.cell 2
                      go_wp2_with fail
                      with_reducible refine (HW.out _ _ _ _).mono ?_
                      rintro e v2 ⟨rfl, bc⟩
                      have hx := hx.on bc
                      have hO5 := hO5.on bc
                      have hB5 := bt hB5 bc
                      clear bc u2
                      cases hc1 : btw x.2.2.1 0 10000 with
                      | false =>
                        have hvf : v = false := HNo.out (by unfold venB; simp [hc1])
                        go_wp2_with fail
                        go_ret
                        exact ⟨by subst hvf; rfl, hB5⟩
                      | true =>
                        have u3 : v2.cell? ⟨ob, 3, none⟩ = some (.int .i64 x.2.2.2.1) := hx.cell 3
                        go_wp2_with fail
                        with_reducible refine (HW.out _ _ _ _).mono ?_
                        rintro e v3 ⟨rfl, bc⟩
                        have hx := hx.on bc
                        have hO5 := hO5.on bc
                        have hB5 := bt hB5 bc
                        clear bc u3
                        cases hc2 : btw x.2.2.2.1 0 1099511627776 with
                        | false =>
                          have hvf : v = false := HNo.out (by unfold venB; simp [hc2])
                          go_wp2_with fail
                          go_ret
                          exact ⟨by subst hvf; rfl, hB5⟩
                        | true =>
                          have HK := Lib.hid (HGo.out (by unfold venB; rw [hc0, hc1, hc2]; rfl))
                          go_wp2_with fail
                          go_roundw
                          case rel => exact ⟨k + 1, by omega, by go_num, hO5, hB5, HK⟩
                          case measure => simp only [intOf]; omega
                  · obtain rfl : l3.length = k := by omega
                    rw [List.take_length] at HJ
                    replace HV := Lib.hid (HV.out.trans (by rw [HJ.out, Bool.true_and]))
                    clear HJ hk
                    have y3 : wr.cell? ⟨w.heap.size, 3, none⟩ = some (.int .i64 p1) := hO.cell 3
                    go_wp2_with fail
                    with_reducible refine (HW.out _ _ _ _).mono ?_
                    rintro e u0 ⟨rfl, bc⟩
                    have hO := hO.on bc
                    have hB := bt hB bc
                    clear bc y3
                    cases hc0 : btw p1 1 64 with
                    | false =>
                      have hvf : v = false := HV.out.trans (by rw [hc0]; rfl)
                      go_wp2_with fail
                      go_ret
                      exact ⟨by subst hvf; rfl, hB⟩
                    | true =>
                      replace HV := Lib.hid (HV.out.trans (by rw [hc0, Bool.true_and]))
                      have y4 : u0.cell? ⟨w.heap.size, 4, none⟩ = some (.int .i64 p2) := hO.cell 4
                      go_wp2_with fail
                      with_reducible refine (HW.out _ _ _ _).mono ?_
                      rintro e u1 ⟨rfl, bc⟩
                      have hO := hO.on bc
                      have hB := bt hB bc
                      clear bc y4
                      cases hc1 : btw p2 1 256 with
                      | false =>
                        have hvf : v = false := HV.out.trans (by rw [hc1]; rfl)
                        go_wp2_with fail
                        go_ret
                        exact ⟨by subst hvf; rfl, hB⟩
                      | true =>
                        replace HV := Lib.hid (HV.out.trans (by rw [hc1, Bool.true_and]))
                        have y5 : u1.cell? ⟨w.heap.size, 5, none⟩ = some (.int .i64 p3) := hO.cell 5
                        go_wp2_with fail
                        with_reducible refine (HW.out _ _ _ _).mono ?_
                        rintro e u2 ⟨rfl, bc⟩
                        have hO := hO.on bc
                        have hB := bt hB bc
                        clear bc y5
                        cases hc2 : btw p3 1 4096 with
                        | false =>
                          have hvf : v = false := HV.out.trans (by rw [hc2]; rfl)
                          go_wp2_with fail
                          go_ret
                          exact ⟨by subst hvf; rfl, hB⟩
                        | true =>
                          replace HV := Lib.hid (HV.out.trans (by rw [hc2, Bool.true_and]))
                          have y6 : u2.cell? ⟨w.heap.size, 6, none⟩ = some (.int .i64 p4) := hO.cell 6
                          go_wp2_with fail
                          with_reducible refine (HW.out _ _ _ _).mono ?_
                          rintro e u3 ⟨rfl, bc⟩
                          have hO := hO.on bc
                          have hB := bt hB bc
                          clear bc y6
                          cases hc3 : btw p4 1 1073741824 with
                          | false =>
                            have hvf : v = false := HV.out.trans (by rw [hc3]; rfl)
                            go_wp2_with fail
                            go_ret
                            exact ⟨by subst hvf; rfl, hB⟩
                          | true =>
                            replace HV := Lib.hid (HV.out.trans (by rw [hc3, Bool.true_and]))
                            have y7 : u3.cell? ⟨w.heap.size, 7, none⟩ = some (.int .i64 p5) := hO.cell 7
                            go_wp2_with fail
                            with_reducible refine (HW.out _ _ _ _).mono ?_
                            rintro e u4 ⟨rfl, bc⟩
                            have hO := hO.on bc
                            have hB := bt hB bc
                            clear bc y7
                            cases hc4 : btw p5 1 1024 with
                            | false =>
                              have hvf : v = false := HV.out.trans (by rw [hc4]; rfl)
                              go_wp2_with fail
                              go_ret
                              exact ⟨by subst hvf; rfl, hB⟩
                            | true =>
                              replace HV := Lib.hid (HV.out.trans (by rw [hc4, Bool.true_and]))
                              have y8 : u4.cell? ⟨w.heap.size, 8, none⟩ = some (.int .i64 p6) := hO.cell 8
                              go_wp2_with fail
                              with_reducible refine (HW.out _ _ _ _).mono ?_
                              rintro e u5 ⟨rfl, bc⟩
                              have hO := hO.on bc
                              have hB := bt hB bc
                              clear bc y8
                              have hve := HV.out
                              go_wp2_with fail
                              go_ret
                              exact ⟨by subst hve; rfl, hB⟩
end Go.Proofs.Ytbhbnefifgdioaa.Hand

