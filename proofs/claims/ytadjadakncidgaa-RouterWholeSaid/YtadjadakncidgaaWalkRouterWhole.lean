/- RouterWhole: the pieces are together no more than the slice, on both lots, none for who isn't healthy, one for each; no condition. -/
import Derived.Test.YtadjadakncidgaaWalkRouterSplits
import Derived.Test.YtadjadakncidgaaRou7
import Derived.Deep.QuietTactic
import Derived.BigQuiet
import Derived.Test.YtadjadakncidgaaUx9
set_option linter.unusedVariables false
set_option linter.unusedSimpArgs false
namespace Go.Proofs.Ytadjadakncidgaa.Walk
open Go Go.RowKit Go.Proofs.YtadjadakncidgaaW.PrintWords Go.Proofs.YtadjadakncidgaaW.PrintMore Go.Proofs.YtadjadakncidgaaW.PrintLast Go.Proofs.Ytadjadakncidgaa.RL Go.Proofs.Ytadjadakncidgaa.PL Go.Proofs.Ytadjadakncidgaa.St Go.Proofs.Ytadjadakncidgaa.U Go.Proofs.Ytadjadakncidgaa.Hand
theorem sumQ_nn {l : List Pie} (h : ∀ p ∈ l, 1 ≤ p.f1) : 0 ≤ sumQ l := by
  induction l with
  | nil => exact Int.le_refl _
  | cons x l ih => have := h x List.mem_cons_self; have := ih (fun p hp => h p (List.mem_cons_of_mem _ hp)); simp only [sumQ]; omega
theorem sumQ_app (a b : List Pie) : sumQ (a ++ b) = sumQ a + sumQ b := by
  induction a with
  | nil => simp [sumQ]
  | cons x a ih => simp only [List.cons_append, sumQ, ih]; omega
theorem sumQ_at {q lot : Int} {l : List Off} {ps : List Pie} {left : Int} (h : WholeP q lot l ps left) {k : Nat} {y : Pie} (hlt : k < ps.length) (hy : ps[k] = y) :
    y.f1 ≤ q - sumQ (ps.take k) ∧ -1 < q - sumQ (ps.take k) ∧ q - sumQ (ps.take k) ≤ q ∧ sumQ (ps.take (k + 1)) = sumQ (ps.take k) + y.f1 := by
  have h1 : ∀ p ∈ ps, 1 ≤ p.f1 := fun p hp => by obtain ⟨x, _, _, h, _⟩ := h.each p hp; exact h
  have e : ps = ps.take (k + 1) ++ ps.drop (k + 1) := (List.take_append_drop _ _).symm
  have e1 : sumQ (ps.take (k + 1)) = sumQ (ps.take k) + y.f1 := by rw [List.take_succ_eq_append_getElem hlt, sumQ_snoc, hy]
  have e2 : sumQ ps = sumQ (ps.take (k + 1)) + sumQ (ps.drop (k + 1)) := by rw [← sumQ_app, ← e]
  have n1 := sumQ_nn (l := ps.drop (k + 1)) (fun p hp => h1 p (List.mem_of_mem_drop hp))
  have n2 := sumQ_nn (l := ps.take k) (fun p hp => h1 p (List.mem_of_mem_take hp))
  have := h1 y (hy ▸ List.getElem_mem hlt)
  have := h.sum
  have := h.nn
  omega
set_option maxHeartbeats 4000000 in
set_option maxRecDepth 100000 in
theorem whole_ok (q lot : Int) (wl : (Lit.int .i64 lot).wf = true) (A : Option Addr) (c : Nat) (l : List Off) (h30 : l.length ≤ 30) (w : World) (hl : Kd.C k35 w A l.length l) (hc : l.length ≤ c) :
    Calls Try.prog 6 #[.int .i64 q, .int .i64 lot, .slice A l.length c] w fun e w' => e = .returned (.bool true) ∧ Below w.heap.size w w' := by
  have h1 := fun w1 (hb : Below w.heap.size w w1) => router_Split.calls q lot A c l (splitV q lot l).1 (splitV q lot l).2 w1 (Kd.C_below hl hb) hc (by unfold router_Split.f; rw [if_pos (by omega)])
  have haw := fun w => awake23w w
  have H1 := Lib.hid h1; have Haw := Lib.hid haw
  have HL := Lib.hid hl
  clear h1 haw hl
  have hv : (∃ left, WholeP q lot l (splitV q lot l).1 left) ∧ ((0 ≤ q ∧ q ≤ 1099511627776) ∧ (1 ≤ lot ∧ lot ≤ 1099511627776) ∧ ∀ x ∈ l, 1 ≤ x.f1 ∧ x.f1 ≤ 1099511627776) ∧ (splitV q lot l).2 = 0 ∨ (splitV q lot l).2 ≠ 0 ∧ (splitV q lot l).1 = [] := by
    by_cases h : askV q lot l = 0
    · exact .inl ⟨whole_is q lot l h, ⟨(askV_no h).1.1, (askV_no h).1.2, fun x hx => ((askV_no h).2.1 x hx).1⟩, by unfold splitV; rw [if_pos h]⟩
    · refine .inr ?_; unfold splitV; rw [if_neg h]; exact ⟨h, rfl⟩
  generalize (splitV q lot l).1 = ps at *
  generalize (splitV q lot l).2 = e2 at *
  obtain ⟨n, hn⟩ : ∃ n, l.length = n := ⟨_, rfl⟩
  have HN := Lib.hid hn
  rw [hn] at h30 hc H1 HL ⊢
  clear hn
  go_enter Try.func6, Try.ntmps6
  go_wp2_with fail
  refine (Haw.out _).mono ?_
  rintro e w1 ⟨rfl, b1⟩
  go_wp2_with fail
  go_loopw [30] (fun i wr => ∃ k : Nat, k ≤ n ∧ i = .int .i64 k ∧ (∀ a b : Nat, b < a → a < k → (offD l a).f0 ≠ (offD l b).f0) ∧ Hid (Below w.heap.size w wr)) (fun i _ => n - (intOf i).toNat)
  case atStart => exact ⟨0, Nat.zero_le _, rfl, (by omega), Lib.hid b1⟩
  case round =>
    clear b1 Haw
    obtain ⟨k, hk, rfl, hd, H⟩ := hrel
    by_cases hlt : k < n
    · have Hb := H
      go_wp2_with fail
      go_loopw [34] (fun i wr2 => ∃ m : Nat, m ≤ k ∧ i = .int .i64 m ∧ (∀ b : Nat, b < m → (offD l k).f0 ≠ (offD l b).f0) ∧ Hid (Below w.heap.size w wr2)) (fun i _ => k - (intOf i).toNat)
      case atStart => exact ⟨0, Nat.zero_le _, rfl, (by omega), Hb⟩
      case round =>
        clear Hb H H1
        obtain ⟨m, hm, rfl, hd2, H2⟩ := hrel
        by_cases hlt2 : m < k
        · obtain ⟨ad, rfl, p0, p1, p2, p3, p4⟩ := at_T35 (Kd.C_below HL.out H2.out) (k : Int) (by omega) (by omega)
          obtain ⟨ad2, had2, q0, q1, q2, q3, q4⟩ := at_T35 (Kd.C_below HL.out H2.out) (m : Int) (by omega) (by omega)
          obtain rfl := Option.some.inj had2
          clear p1 p2 p3 p4 q1 q2 q3 q4 had2
          rw [show rd_T35 l (k : Int) = offD l k from rfl] at p0
          rw [show rd_T35 l (m : Int) = offD l m from rfl] at q0
          simp only [Int.toNat_natCast] at p0 q0
          by_cases he : (offD l k).f0 = (offD l m).f0
          · have he' : ((offD l k).f0 == (offD l m).f0) = true := by simpa using he
            go_wp2_with fail
            go_region
            all_goals
              go_wp2_with fail
              go_ret
              exact ⟨rfl, pw_below_drewN H2.out 1⟩
          · have he' : ((offD l k).f0 == (offD l m).f0) = false := by simpa using he
            have HF := Lib.hid (show Below w.heap.size w wr.drew from pw_below_drewN H2.out 1)
            have hd3 : ∀ b : Nat, b < m + 1 → (offD l k).f0 ≠ (offD l b).f0 := by
              intro b hb
              rcases Nat.lt_or_ge b m with h | h
              · exact hd2 b h
              · rw [show b = m by omega]; exact he
            clear H2
            go_wp2_with fail
            go_region
            all_goals
              go_wp2_with fail
              go_roundw
              case rel => exact ⟨m + 1, by omega, by go_num, hd3, HF⟩
              case measure => simp [intOf]; omega
        · obtain rfl : m = k := by omega
          have hd4 : ∀ a b : Nat, b < a → a < m + 1 → (offD l a).f0 ≠ (offD l b).f0 := by
            intro a b h1 h2
            rcases Nat.lt_or_ge a m with h | h
            · exact hd a b h1 h
            · rw [show a = m by omega]; exact hd2 b (by omega)
          go_wp2_with fail
          go_roundw
          case rel => exact ⟨m + 1, by omega, by go_num, hd4, H2⟩
          case measure => simp [intOf]; omega
    · obtain rfl : n = k := by omega
      have hnd : (l.map fun x => x.f0).Nodup := by
        rw [List.nodup_iff_pairwise_ne, List.pairwise_iff_getElem]
        intro i j hi hj hij
        simp only [List.length_map] at hi hj
        simp only [List.getElem_map]
        have := hd j i hij (by rw [← HN.out]; exact hj)
        unfold offD at this
        simp only [List.getD_eq_getElem?_getD, List.getElem?_eq_getElem hi, List.getElem?_eq_getElem hj, Option.getD_some] at this
        exact fun h => this h.symm
      clear hd
      have HND := Lib.hid hnd
      clear hnd
      go_wp2_with fail
      refine (H1.out _ H.out).mono ?_
      rintro e w2 ⟨v2, rfl, r2, b2⟩
      have B2 : Below w.heap.size w w2 := bt H.out b2
      obtain ⟨A2, c2, rfl⟩ := Kd.R_slice r2
      have R2 := Lib.hid (Kd.R_reads' r2).2.2
      have hc2 := (Kd.R_reads' r2).2.1
      have B2 := Lib.hid B2
      clear r2 b2 H1 H
      rcases hv with ⟨⟨left, hw⟩, ⟨hq, hl1, hf1⟩, rfl⟩ | ⟨hne, rfl⟩
      · have hsum := hw.sum
        have hnn := hw.nn
        have hfew := hw.few
        have HW := Lib.hid hw
        clear hw
        go_wp2_with fail
        go_loopw [65, 11] (fun i v wr => ∃ k : Nat, k ≤ ps.length ∧ i = .int .i64 k ∧ v = .int .i64 (q - sumQ (ps.take k)) ∧ Hid (Below w.heap.size w wr ∧ Kd.C k45 wr A2 ps.length ps)) (fun i _ _ => ps.length - (intOf i).toNat)
        case atStart => exact ⟨0, Nat.zero_le _, rfl, by rw [List.take_zero]; simp [sumQ], Lib.hid ⟨B2.out, R2.out⟩⟩
        case round =>
          obtain ⟨k, hk, rfl, rfl, H⟩ := hrel
          clear R2 B2
          by_cases hlt : k < ps.length
          · obtain ⟨b, x2⟩ := H.out
            obtain ⟨ad2, rfl, p0, p1⟩ := at_T45 x2 (k : Int) (by omega) (by omega)
            have e2 : rd_T45 ps (k : Int) = ps[k] := by unfold rd_T45; simp [hlt]
            rw [e2] at p0 p1
            simp only [Int.toNat_natCast] at p0 p1
            obtain ⟨y, hy⟩ : ∃ y, ps[k] = y := ⟨_, rfl⟩
            have hym : y ∈ ps := hy ▸ List.getElem_mem hlt
            rw [hy] at p0 p1
            have HY := Lib.hid hy
            clear hy e2
            have s2 : (ad2.add (k * 2)).block < wr.heap.size := World.block_lt_of_cell? wr _ p0
            have W5 := (Below.refl wr.heap.size wr).alloc (Nat.le_refl _) (.cells #[.int .i64 y.f0, .int .i64 y.f1] 45)
            have kbx := Blk.new wr 45 #[.int .i64 y.f0, .int .i64 y.f1]
            have HF := Lib.hid (show Below w.heap.size w ((wr.alloc (.cells #[.int .i64 y.f0, .int .i64 y.f1] 45))) ∧ Kd.C k45 _ (some ad2) ps.length ps ∧ Blk _ wr.heap.size 45 #[.int .i64 y.f0, .int .i64 y.f1] from ⟨b.alloc b.size (.cells #[.int .i64 y.f0, .int .i64 y.f1] 45), Kd.C_below x2 W5, kbx⟩)
            clear x2 b W5 kbx H
            go_wp2_with fail
            go_loopw [72, 14] (fun i v wr2 => ∃ m : Nat, ∃ at' : Int, m ≤ n ∧ i = .int .i64 m ∧ v = .int .i64 at' ∧ ((at' = -1 ∧ ∀ j : Nat, j < m → (offD l j).f0 ≠ y.f0) ∨ ∃ a : Nat, at' = a ∧ a < m ∧ (offD l a).f0 = y.f0) ∧ Hid (Below w.heap.size w wr2 ∧ Kd.C k45 wr2 (some ad2) ps.length ps ∧ Blk wr2 wr.heap.size 45 #[.int .i64 y.f0, .int .i64 y.f1])) (fun i _ _ => n - (intOf i).toNat)
            case atStart => exact ⟨0, -1, Nat.zero_le _, rfl, rfl, .inl ⟨rfl, by omega⟩, HF⟩
            case round =>
              clear HF
              obtain ⟨m, at', hm, rfl, rfl, hat, H⟩ := hrel
              by_cases hlt2 : m < n
              · obtain ⟨b, x2, bx⟩ := H.out
                obtain ⟨ad, rfl, q0, q1, q2, q3, q4⟩ := at_T35 (Kd.C_below HL.out b) (m : Int) (by omega) (by omega)
                rw [show rd_T35 l (m : Int) = offD l m from rfl] at q0 q1 q2 q3 q4
                simp only [Int.toNat_natCast] at q0 q1 q2 q3 q4
                have x0 : wr.cell? ⟨_, 0, none⟩ = some (.int .i64 y.f0) := bx.cell 0
                have xl := bx.lt
                have so : (ad.add (m * 5)).block < wr.heap.size := World.block_lt_of_cell? wr _ q0
                have W6 := (Below.refl wr.heap.size wr).alloc (Nat.le_refl _) (.cells #[.int .i64 (offD l m).f0, .int .i64 (offD l m).f1, .int .i64 (offD l m).f2, .int .i64 (offD l m).f3, .bool (offD l m).f4] 35)
                have H6 := Lib.hid (show Below w.heap.size w _ ∧ Kd.C k45 _ (some ad2) ps.length ps ∧ Blk _ _ 45 #[.int .i64 y.f0, .int .i64 y.f1] from ⟨b.alloc b.size (.cells #[.int .i64 (offD l m).f0, .int .i64 (offD l m).f1, .int .i64 (offD l m).f2, .int .i64 (offD l m).f3, .bool (offD l m).f4] 35), Kd.C_below x2 W6, bx.below W6 xl⟩)
                clear x2 b H W6 bx
                by_cases he : (offD l m).f0 = y.f0
                · have he' : ((offD l m).f0 == y.f0) = true := by simpa using he
                  rw [he] at H6 q0
                  clear he'
                  go_wp2_with fail
                  go_roundw
                  case rel => exact ⟨m + 1, _, by omega, by go_num, rfl, .inr ⟨m, rfl, by omega, he⟩, H6⟩
                  case measure => simp [intOf]; omega
                · have he' : ((offD l m).f0 == y.f0) = false := by simpa using he
                  have hat' : (at' = -1 ∧ ∀ j : Nat, j < m + 1 → (offD l j).f0 ≠ y.f0) ∨ ∃ a : Nat, at' = a ∧ a < m + 1 ∧ (offD l a).f0 = y.f0 := by
                    rcases hat with ⟨h1, h2⟩ | ⟨a, h1, h2, h3⟩
                    · refine .inl ⟨h1, fun j hj => ?_⟩
                      rcases Nat.lt_or_ge j m with h | h
                      · exact h2 j h
                      · rw [show j = m by omega]; exact he
                    · exact .inr ⟨a, h1, by omega, h3⟩
                  go_wp2_with fail
                  go_roundw
                  case rel => exact ⟨m + 1, _, by omega, by go_num, rfl, hat', H6⟩
                  case measure => simp [intOf]; omega
              · obtain rfl : n = m := by omega
                obtain ⟨x, hx, ex, f1, f2, f3, f4, f5⟩ := HW.out.each y hym
                obtain ⟨j, hj, hjx⟩ := List.getElem_of_mem hx
                have hjn : j < n := by rw [← HN.out]; exact hj
                have hoj : offD l j = x := by unfold offD; simp [hj, hjx]
                obtain ⟨a, rfl, han, hav⟩ : ∃ a : Nat, at' = a ∧ a < n ∧ (offD l a).f0 = y.f0 := by
                  rcases hat with ⟨_, h2⟩ | h
                  · exact absurd (by rw [hoj, ex]) (h2 j hjn)
                  · exact h
                have hax : offD l a = x := by
                  have hal : a < l.length := by rw [HN.out]; exact han
                  have ha1 : offD l a = l[a] := by unfold offD; simp [hal]
                  have hin := List.getElem_inj (i := a) (j := j) (h₀ := by simpa using hal) (h₁ := by simpa using hj) HND.out
                  have : a = j := hin.1 (by simp only [List.getElem_map]; rw [← ha1, hav, ← ex, hjx])
                  rw [this, hoj]
                have hf := hf1 x hx
                obtain ⟨b, x2, bx⟩ := H.out
                obtain ⟨ad, rfl, q0, q1, q2, q3, q4⟩ := at_T35 (Kd.C_below HL.out b) (a : Int) (by omega) (by omega)
                rw [show rd_T35 l (a : Int) = offD l a from rfl, hax] at q0 q1 q2 q3 q4
                simp only [Int.toNat_natCast] at q0 q1 q2 q3 q4
                rw [f5] at q4
                clear q0 q2 q3 hat
                have x0 : wr.cell? ⟨_, 0, none⟩ = some (.int .i64 y.f0) := bx.cell 0
                have x1 : wr.cell? ⟨_, 1, none⟩ = some (.int .i64 y.f1) := bx.cell 1
                have hon1 : ∀ w1 : World, Calls Try.prog 17 #[.int .i64 y.f1, .int .i64 lot] w1 fun e w' => e = .returned (.bool true) ∧ ∃ m, w' = w1.drewN m :=
                  fun w1 => (grain_On.calls y.f1 lot true w1 (by unfold grain_On.f; rw [if_pos (by omega), if_pos (by omega), if_neg (by omega), Int.tmod_eq_emod_of_nonneg (by omega), f3]; rfl)).mono fun _ _ h => ⟨h.1, h.2.out⟩
                have hon2 : ∀ w1 : World, Calls Try.prog 17 #[.int .i64 y.f1, .int .i64 x.f1] w1 fun e w' => e = .returned (.bool true) ∧ ∃ m, w' = w1.drewN m :=
                  fun w1 => (grain_On.calls y.f1 x.f1 true w1 (by unfold grain_On.f; rw [if_pos (by omega), if_pos (by omega), if_neg (by omega), Int.tmod_eq_emod_of_nonneg (by omega), f4]; rfl)).mono fun _ _ h => ⟨h.1, h.2.out⟩
                have HO1 := Lib.hid hon1; have HO2 := Lib.hid hon2
                have hle : y.f1 ≤ q - sumQ (ps.take k) ∧ -1 < q - sumQ (ps.take k) ∧ q - sumQ (ps.take k) ≤ q ∧ sumQ (ps.take (k + 1)) = sumQ (ps.take k) + y.f1 := sumQ_at HW.out hlt HY.out
                have HG := Lib.hid (show ∀ W5, Below wr.heap.size wr W5 → Below w.heap.size w W5 ∧ Kd.C k45 W5 (some ad2) ps.length ps ∧ Blk W5 _ 45 #[.int .i64 y.f0, .int .i64 y.f1] from fun W5 h5 => ⟨bt b h5, Kd.C_below x2 h5, bx.below h5 bx.lt⟩)
                clear hon1 hon2 x2 b bx hx hj hjx hjn hoj hav hax
                generalize hleft : q - sumQ (ps.take k) = lf at *
                have hg1 : decide (y.f1 < 1) = false := decide_eq_false (by omega)
                have hg2 : decide (lf < y.f1) = false := decide_eq_false (by omega)
                go_wp2_with fail
                go_quiet (first | (go_at_call 17; with_reducible refine Calls.quiet_of (HO1.out _)) | (go_at_call 17; with_reducible refine Calls.quiet_of (HO2.out _)))
                all_goals
                  go_wp2_with fail
                  go_loopw [127] (fun i wr2 => ∃ m : Nat, m ≤ k ∧ i = .int .i64 m ∧ Hid (Below w.heap.size w wr2 ∧ Kd.C k45 wr2 (some ad2) ps.length ps ∧ Blk wr2 _ 45 #[.int .i64 y.f0, .int .i64 y.f1])) (fun i _ => k - (intOf i).toNat)
                  case atStart => exact ⟨0, Nat.zero_le _, rfl, Lib.hid (HG.out _ (by repeat (first | exact Below.refl _ _ | apply pw_below_drewN | apply below_drew1)))⟩
                  case round =>
                    obtain ⟨m, hm, rfl, H⟩ := hrel
                    have hnp := HW.out.once HND.out
                    by_cases hlt3 : m < k
                    · obtain ⟨b, x2, bx⟩ := H.out
                      obtain ⟨ad3, had3, r0, r1⟩ := at_T45 x2 (m : Int) (by omega) (by omega)
                      obtain rfl := Option.some.inj had3
                      have hml : m < ps.length := by omega
                      have e3 : rd_T45 ps (m : Int) = ps[m] := by unfold rd_T45; simp [hml]
                      have hne3 : ps[m].f0 ≠ y.f0 := by
                        intro h
                        have hin := List.getElem_inj (i := m) (j := k) (h₀ := by simpa using hml) (h₁ := by simpa using hlt) hnp
                        have : m = k := hin.1 (by simp only [List.getElem_map]; rw [h, HY.out])
                        omega
                      rw [e3] at r0 r1
                      simp only [Int.toNat_natCast] at r0 r1
                      generalize ps[m] = z at *
                      have hb3 : (z.f0 == y.f0) = false := by simpa using hne3
                      have x0 : wr.cell? ⟨_, 0, none⟩ = some (.int .i64 y.f0) := bx.cell 0
                      have xl := bx.lt
                      have so : (ad2.add (m * 2)).block < wr.heap.size := World.block_lt_of_cell? wr _ r0
                      have W6 := (Below.refl wr.heap.size wr).alloc (Nat.le_refl _) (.cells #[.int .i64 z.f0, .int .i64 z.f1] 45)
                      have H6 := Lib.hid (show Below w.heap.size w _ ∧ Kd.C k45 _ (some ad2) ps.length ps ∧ Blk _ _ 45 #[.int .i64 y.f0, .int .i64 y.f1] from ⟨b.alloc b.size (.cells #[.int .i64 z.f0, .int .i64 z.f1] 45), Kd.C_below x2 W6, bx.below W6 xl⟩)
                      clear x2 b H W6 bx hnp e3 had3 hne3
                      go_wp2_with fail
                      go_roundw
                      case rel => exact ⟨m + 1, by omega, by go_num, H6⟩
                      case measure => simp [intOf]; omega
                    · obtain rfl : k = m := by omega
                      obtain ⟨b, x2, bx⟩ := H.out
                      have x1 : wr.cell? ⟨_, 1, none⟩ = some (.int .i64 y.f1) := bx.cell 1
                      have H7 := Lib.hid (And.intro b x2)
                      clear x2 b H bx hnp
                      go_wp2_with fail
                      go_roundw
                      case rel => exact ⟨k + 1, by omega, by go_num, by congr 1; omega, H7⟩
                      case measure => simp [intOf]; omega
          · obtain rfl : ps.length = k := by omega
            have B3 := Lib.hid H.out.1
            rw [List.take_length] at *
            rw [show q - sumQ ps = left by omega]
            clear H
            go_wp2_with fail
            go_loopw [144] (fun i wr => ∃ m : Nat, m ≤ n ∧ i = .int .i64 m ∧ Hid (Below w.heap.size w wr)) (fun i _ => n - (intOf i).toNat)
            case atStart => exact ⟨0, Nat.zero_le _, rfl, B3⟩
            case round =>
              clear B3
              obtain ⟨m, hm, rfl, H⟩ := hrel
              by_cases hlt4 : m < n
              · have b := H.out
                obtain ⟨ad, rfl, q0, q1, q2, q3, q4⟩ := at_T35 (Kd.C_below HL.out b) (m : Int) (by omega) (by omega)
                have hml : m < l.length := by rw [HN.out]; exact hlt4
                rw [rd_off l m hml] at q0 q1 q2 q3 q4
                simp only [Int.toNat_natCast] at q0 q1 q2 q3 q4
                have hx : l[m] ∈ l := List.getElem_mem hml
                generalize l[m] = x at *
                have hf := hf1 x hx
                have hls := HW.out.least x hx
                have hst := fun w1 => router_Step.calls 9223372036854775810 lot x.f1 (stepV lot x.f1).1 (stepV lot x.f1).2 w1 (step_is lot x.f1 (by unfold in64; omega) (by unfold in64; omega) _ (Nat.le_refl _))
                generalize (stepV lot x.f1).1 = s at *
                generalize (stepV lot x.f1).2 = f at *
                have HST := Lib.hid hst
                have so : (ad.add (m * 5)).block < wr.heap.size := World.block_lt_of_cell? wr _ q0
                have W6 := (Below.refl wr.heap.size wr).alloc (Nat.le_refl _) (.cells #[.int .i64 x.f0, .int .i64 x.f1, .int .i64 x.f2, .int .i64 x.f3, .bool x.f4] 35)
                have HX := Lib.hid (Blk.new wr 35 #[.int .i64 x.f0, .int .i64 x.f1, .int .i64 x.f2, .int .i64 x.f3, .bool x.f4])
                have H6 := Lib.hid (b.alloc b.size (.cells #[.int .i64 x.f0, .int .i64 x.f1, .int .i64 x.f2, .int .i64 x.f3, .bool x.f4] 35))
                clear hst b H W6
                go_wp2_with fail
                refine (HST.out _).mono ?_
                rintro e w2 ⟨rfl, b2⟩
                have x4 : w2.cell? ⟨_, 4, none⟩ = some (.bool x.f4) := (HX.out.below b2 HX.out.lt).cell 4
                have H7 := Lib.hid (bt H6.out b2)
                clear H6 b2 HX HST
                by_cases c1 : f = 0
                · have c1' : (f == 0) = true := by simpa using c1
                  by_cases c2 : s ≤ 1099511627776
                  · cases hx4 : x.f4 with
                    | false =>
                      rw [hx4] at x4
                      go_wp2_with fail
                      all_goals
                        go_roundw
                        case rel => exact ⟨m + 1, by omega, by go_num, H7⟩
                        case measure => simp [intOf]; omega
                    | true =>
                      rw [hx4] at x4
                      have c3 := hls c1 c2 hx4
                      go_wp2_with fail
                      all_goals
                        go_roundw
                        case rel => exact ⟨m + 1, by omega, by go_num, H7⟩
                        case measure => simp [intOf]; omega
                  · go_wp2_with fail
                    all_goals
                      go_roundw
                      case rel => exact ⟨m + 1, by omega, by go_num, H7⟩
                      case measure => simp [intOf]; omega
                · have c1' : (f == 0) = false := by simpa using c1
                  go_wp2_with fail
                  all_goals
                    go_roundw
                    case rel => exact ⟨m + 1, by omega, by go_num, H7⟩
                    case measure => simp [intOf]; omega
              · go_wp2_with fail
                go_ret
                exact ⟨rfl, H.out⟩
      · have hne' : (e2 == 0) = false := by simpa using hne
        go_wp2_with fail
        go_ret
        exact ⟨rfl, B2.out⟩
set_option maxHeartbeats 4000000 in
set_option maxRecDepth 100000 in
theorem whole_long (q lot : Int) (A : Option Addr) (c n : Nat) (h : 30 < n) (w : World) :
    Calls Try.prog 6 #[.int .i64 q, .int .i64 lot, .slice A n c] w fun e w' => e = .returned (.bool true) ∧ Below w.heap.size w w' := by
  have haw := fun w => awake23w w
  have Haw := Lib.hid haw
  clear haw
  go_enter Try.func6, Try.ntmps6
  go_wp2_with fail
  refine (Haw.out _).mono ?_
  rintro e w1 ⟨rfl, b1⟩
  go_wp2_with fail
  go_ret
  exact ⟨rfl, b1⟩
theorem RouterWhole (a0 : Int) (a1 : Int) (A2 : Option Addr) (c2 : Nat) (l2 : List (Int × Int × Int × Int × Bool)) (W : World) (w0 : (Lit.int .i64 a0).wf = true) (w1 : (Lit.int .i64 a1).wf = true) (w2 : (A2 = none ∧ c2 = 0 ∧ l2 = []) ∨ ∃ x, A2 = some x ∧ l2.length ≤ c2 ∧ c2 ≤ maxLen ∧ ∀ i (h : i < l2.length), W.cell? (x.add (i * 5 + 0)) = some (.int .i64 l2[i].1) ∧ W.cell? (x.add (i * 5 + 1)) = some (.int .i64 l2[i].2.1) ∧ W.cell? (x.add (i * 5 + 2)) = some (.int .i64 l2[i].2.2.1) ∧ W.cell? (x.add (i * 5 + 3)) = some (.int .i64 l2[i].2.2.2.1) ∧ W.cell? (x.add (i * 5 + 4)) = some (.bool l2[i].2.2.2.2) ∧ (Lit.int .i64 l2[i].1).wf = true ∧ (Lit.int .i64 l2[i].2.1).wf = true ∧ (Lit.int .i64 l2[i].2.2.1).wf = true ∧ (Lit.int .i64 l2[i].2.2.2.1).wf = true) :
    Calls Try.prog 6 #[.int .i64 a0, .int .i64 a1, .slice A2 l2.length c2] W fun e W' => e = .returned (.bool true) ∧ Below W.heap.size W W' := by
  by_cases h : l2.length ≤ 30
  · have hl : l2.length = (l2.map mkO).length := by rw [List.length_map]
    rw [hl]
    refine whole_ok a0 a1 w1 A2 c2 (l2.map mkO) (by rw [← hl]; exact h) W (offR_to (by rw [← hl]; omega) (offR_row W A2 c2 l2 w2)) ?_
    rw [← hl]
    rcases w2 with ⟨_, _, rfl⟩ | ⟨x, _, h1, _⟩
    · simp
    · exact h1
  · exact whole_long a0 a1 A2 c2 _ (by omega) W
end Go.Proofs.Ytadjadakncidgaa.Walk
