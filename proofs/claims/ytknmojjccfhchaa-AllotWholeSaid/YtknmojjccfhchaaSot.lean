/- slices.SortStableFunc at elements of one cell, walked: it is the stable sort. -/
import Derived.Test.YtknmojjccfhchaaSog
set_option linter.unusedVariables false
set_option linter.unusedSimpArgs false
namespace Go.Proofs.Ytknmojjccfhchaa.St
open Go Go.RowKit Go.Lib Go.Sort Go.Shelf Go.Proofs.YtknmojjccfhchaaW.PrintWords Go.Proofs.YtknmojjccfhchaaW.PrintMore Go.Proofs.Ytknmojjccfhchaa.RL Go.Proofs.Ytknmojjccfhchaa.PL
variable {α : Type} [Inhabited α]
theorem sym_all (enc : α → Value) (cf : α → α → Int) (g : Nat) (cb : Array Value) (blk off cap : Nat) (O : WO (ltOf cf)) (d0 : Array α) (w0 : World) (R : Row1 enc w0 blk off d0) (hsz : d0.size ≤ 1000000)
    (eg : ∀ args w, (callFunc g args).run Try.prog w = .ok (.enter g args) w) (hcmp : CmpLays1 Try.prog g cb enc cf blk off d0.size w0) : ∀ K, SymOk enc cf g cb blk off cap d0 w0 K := by
  intro K
  induction K with
  | zero => intro P A B Z a m b w hK hA; omega
  | succ K IH =>
    intro P A B Z a m b w hK hA hB sA sB ha hm hb hs S
    match A, hA with
    | [x], _ =>
      have e : P ++ [x] ++ B ++ Z = P ++ x :: B ++ Z := by simp
      rw [e] at hs S
      exact sym_one enc cf g cb blk off cap O d0 w0 R hsz eg hcmp P B Z x hB sB a m b ha hm hb hs w S
    | x :: x2 :: A, _ =>
      match B, hB with
      | [y], _ =>
        have e : P ++ (x :: x2 :: A) ++ [y] ++ Z = P ++ (x :: x2 :: A) ++ y :: Z := by simp
        rw [e] at hs S
        exact sym_last enc cf g cb blk off cap O d0 w0 R hsz eg hcmp P (x :: x2 :: A) Z y (by simp) sA a m b ha hm hb hs w S
      | y :: y2 :: B, _ => exact sym_step enc cf g cb blk off cap O d0 w0 R hsz eg hcmp K IH P _ _ Z a m b w hK (by simp) (by simp) sA sB ha hm hb hs S
theorem ins_l (enc : α → Value) (cf : α → α → Int) (g : Nat) (cb : Array Value) (blk off cap : Nat) (d0 : Array α) (w0 : World) (R : Row1 enc w0 blk off d0) (hsz : d0.size ≤ 1000000)
    (eg : ∀ args w, (callFunc g args).run Try.prog w = .ok (.enter g args) w) (hcmp : CmpLays1 Try.prog g cb enc cf blk off d0.size w0) (P X Z : List α) (w : World) (az bz : Int) (ha : az = (P.length : Int)) (hb : bz = ((P.length + X.length : Nat) : Int)) (hs : d0.size = (P ++ X ++ Z).length) (S : SW enc w0 blk off (P ++ X ++ Z).toArray w) :
    Calls Try.prog 67 #[.slice (some ⟨blk, off, none⟩) d0.size cap, .int .i64 az, .int .i64 bz, .func (.func g) #[] cb] w fun e w' => e = .returned (.tuple #[]) ∧ Aside (SW enc w0 blk off (P ++ isortB (ltOf cf) X ++ Z).toArray w') := by
  subst ha hb
  have hl : (P ++ X ++ Z).toArray.size = d0.size := by rw [hs]; simp
  simp only [List.length_append] at hs
  have := Try.insertionSortCmpFunc_s enc cf g cb blk off cap P.length (P.length + X.length) d0 (P ++ X ++ Z).toArray w0 w eg hcmp R hl.symm S (by omega) (by rw [hl]; omega) (by rw [hl]; omega)
  rw [hl, insertion_is] at this
  exact this
theorem sym_l (enc : α → Value) (cf : α → α → Int) (g : Nat) (cb : Array Value) (blk off cap : Nat) (O : WO (ltOf cf)) (d0 : Array α) (w0 : World) (R : Row1 enc w0 blk off d0) (hsz : d0.size ≤ 1000000)
    (eg : ∀ args w, (callFunc g args).run Try.prog w = .ok (.enter g args) w) (hcmp : CmpLays1 Try.prog g cb enc cf blk off d0.size w0) (P X Y Z : List α) (hX : 0 < X.length) (hY : 0 < Y.length) (w : World) (az mz bz : Int) (ha : az = (P.length : Int)) (hm : mz = ((P.length + X.length : Nat) : Int)) (hb : bz = ((P.length + X.length + Y.length : Nat) : Int)) (hs : d0.size = (P ++ isortB (ltOf cf) X ++ isortB (ltOf cf) Y ++ Z).length) (S : SW enc w0 blk off (P ++ isortB (ltOf cf) X ++ isortB (ltOf cf) Y ++ Z).toArray w) :
    Calls Try.prog 68 #[.slice (some ⟨blk, off, none⟩) d0.size cap, .int .i64 az, .int .i64 mz, .int .i64 bz, .func (.func g) #[] cb] w fun e w' => e = .returned (.tuple #[]) ∧ Aside (SW enc w0 blk off (P ++ isortB (ltOf cf) (X ++ Y) ++ Z).toArray w') := by
  subst ha hm hb
  have := sym_all enc cf g cb blk off cap O d0 w0 R hsz eg hcmp _ P (isortB (ltOf cf) X) (isortB (ltOf cf) Y) Z P.length (P.length + X.length) (P.length + X.length + Y.length) w (Nat.le_refl _) (by rw [isortB_length]; exact hX) (by rw [isortB_length]; exact hY) (isortB_srt O X) (isortB_srt O Y) rfl (by rw [isortB_length]) (by rw [isortB_length, isortB_length]) hs S
  rw [merge_blocks O] at this
  exact this
set_option maxHeartbeats 8000000 in
set_option maxRecDepth 1000000 in
theorem stable_s (enc : α → Value) (cf : α → α → Int) (g : Nat) (cb : Array Value) (blk off cap : Nat) (O : WO (ltOf cf)) (l0 : List α) (w0 : World) (R : Row1 enc w0 blk off l0.toArray) (hsz : l0.length ≤ 100000)
    (eg : ∀ args w, (callFunc g args).run Try.prog w = .ok (.enter g args) w) (hcmp : CmpLays1 Try.prog g cb enc cf blk off l0.length w0) (w : World) (S : SW enc w0 blk off l0.toArray w) :
    Calls Try.prog 55 #[.slice (some ⟨blk, off, none⟩) l0.length cap, .int .i64 l0.length, .func (.func g) #[] cb] w fun e w' => e = .returned (.tuple #[]) ∧ Aside (SW enc w0 blk off (isortB (ltOf cf) l0).toArray w') := by
  have hins := ins_l enc cf g cb blk off cap l0.toArray w0 R (by simp; omega) eg (by simpa using hcmp)
  have hsym := sym_l enc cf g cb blk off cap O l0.toArray w0 R (by simp; omega) eg (by simpa using hcmp)
  have hl0 : l0.toArray.size = l0.length := by simp
  rw [hl0] at hins hsym
  have HI := Lib.hid hins
  have HM := Lib.hid hsym
  have S0 : Aside (SW enc w0 blk off ([] ++ l0).toArray w) := S
  obtain ⟨n, hn⟩ : ∃ n, n = l0.length := ⟨_, rfl⟩
  rw [← hn]
  rw [← hn] at hsz HI HM
  have HN := Lib.hid hn
  clear hins hsym hcmp S hl0 hn R
  go_enter Try.func55, Try.ntmps55
  go_wp2
  go_loopg [7, 8] (n) (fun kx vi vj wr => ∃ (l r z : List α), vi = .int .i64 l.length ∧ vj = .int .i64 ((l.length : Int) + 20) ∧ l.length ≤ n ∧ n - l.length ≤ kx ∧ Aside (l ++ z = l0) ∧ Aside (PS (ltOf cf) 20 l r) ∧ Aside (SW enc w0 blk off (r ++ z).toArray wr))
  case atStart => exact ⟨[], [], l0, rfl, rfl, Nat.zero_le _, by simp, rfl, .nil, S0⟩
  case round =>
    clear S0
    obtain ⟨l, r, z, rfl, rfl, h1, hk, HZ, HP, S1⟩ := hrel
    have hz : l.length + z.length = n := by have := HZ.out; rw [HN.out, ← this]; simp
    have hrl := HP.out.len
    by_cases hlt : l.length + 20 ≤ n
    · have hc : Calls Try.prog 67 #[.slice (some ⟨blk, off, none⟩) n cap, .int .i64 l.length, .int .i64 ((l.length : Int) + 20), .func (.func g) #[] cb] wr fun e w' => e = .returned (.tuple #[]) ∧ Aside (SW enc w0 blk off (r ++ isortB (ltOf cf) (z.take 20) ++ z.drop 20).toArray w') :=
        HI.out r (z.take 20) (z.drop 20) wr _ _ (by omega) (by rw [List.length_take]; omega) (by rw [List.append_assoc, List.take_append_drop]; simp; omega) (by rw [List.append_assoc, List.take_append_drop]; exact S1.out)
      have hnew : ∀ w', Aside (SW enc w0 blk off (r ++ isortB (ltOf cf) (z.take 20) ++ z.drop 20).toArray w') → ∃ (l' r' z' : List α), Value.int .i64 ((l.length : Int) + 20) = .int .i64 l'.length ∧ Value.int .i64 ((l.length : Int) + 20 + 20) = .int .i64 ((l'.length : Int) + 20) ∧ l'.length ≤ n ∧ n - l'.length ≤ n - (l.length + 20) ∧ Aside (l' ++ z' = l0) ∧ Aside (PS (ltOf cf) 20 l' r') ∧ Aside (SW enc w0 blk off (r' ++ z').toArray w') := fun w' hw => by
        refine ⟨l ++ z.take 20, r ++ isortB (ltOf cf) (z.take 20), z.drop 20, by congr 1; simp; omega, by congr 1; simp; omega, by simp; omega, by simp; omega, ?_, .snoc _ HP.out (by rw [List.length_take]; omega), hw⟩
        show _ = _
        rw [List.append_assoc, List.take_append_drop]; exact HZ.out
      have Hc := Lib.hid hc
      have Hn := Lib.hid hnew
      clear hc hnew HI HM S1 HP HZ hrl hz HN
      generalize l.length = a at *
      have hz2 : (a : Int) + 20 ≤ (n : Int) := by omega
      go_wp2_with (go_at_call 67; (with_reducible refine Hc.out.mono ?_); rintro e wa ⟨rfl, hwa⟩)
      go_roundg (n - (a + 20))
      case measure => omega
      case rel => exact Hn.out _ hwa
    · have hc : Calls Try.prog 67 #[.slice (some ⟨blk, off, none⟩) n cap, .int .i64 l.length, .int .i64 n, .func (.func g) #[] cb] wr fun e w' => e = .returned (.tuple #[]) ∧ Aside (SW enc w0 blk off (r ++ isortB (ltOf cf) z).toArray w') := by
        have := HI.out r z [] wr (l.length : Int) (n : Int) (by omega) (by omega) (by simp; omega) (by simpa using S1.out)
        simpa using this
      have hcs : CS (ltOf cf) 20 l0 (r ++ isortB (ltOf cf) z) := by rw [← HZ.out]; exact HP.out.join (.last z (by omega))
      have HC := Lib.hid hcs
      have Hc := Lib.hid hc
      clear hc hcs HI S1 HP HZ hrl hz
      generalize r ++ isortB (ltOf cf) z = d1 at *
      generalize l.length = a at *
      have hz2 : ¬ (a : Int) + 20 ≤ (n : Int) := by omega
      go_wp2_with (go_at_call 67; (with_reducible refine Hc.out.mono ?_); rintro e wa ⟨rfl, hwa⟩)
      clear Hc hlt hz2 hk h1
      go_loopg [6] (n) (fun kx v6 wr => ∃ (bs : Nat) (d : List α), v6 = .int .i64 bs ∧ 20 ≤ bs ∧ bs ≤ 2 * n + 20 ∧ n - bs ≤ kx ∧ Aside (CS (ltOf cf) bs l0 d) ∧ Aside (SW enc w0 blk off d.toArray wr))
      case atStart => exact ⟨20, d1, rfl, Nat.le_refl _, by omega, by omega, HC.out, hwa⟩
      case round =>
        clear hwa HC
        obtain ⟨bs, d, rfl, hb1, hb2, hkb, HC, S1⟩ := hrel
        by_cases hlt : bs < n
        · have hz2 : (bs : Int) < (n : Int) := by omega
          have hz3 : (n : Int) ≤ 100000 := by omega
          go_wp2_with fail
          go_loopg [7, 8] (n) (fun kx vi vj wr => ∃ (l r z y : List α), vi = .int .i64 l.length ∧ vj = .int .i64 ((l.length : Int) + 2 * (bs : Int)) ∧ l.length ≤ n ∧ n - l.length ≤ kx ∧ Aside (l ++ z = l0) ∧ Aside (PS (ltOf cf) (2 * bs) l r) ∧ Aside (CS (ltOf cf) bs z y) ∧ Aside (SW enc w0 blk off (r ++ y).toArray wr))
          case atStart => exact ⟨[], [], l0, d, rfl, by simp, Nat.zero_le _, by simp, rfl, .nil, HC, S1⟩
          case round =>
            clear S1 HC
            obtain ⟨l, r, z, y, rfl, rfl, h1, hk, HZ, HP, HQ, S1⟩ := hrel
            have hz : l.length + z.length = n := by have := HZ.out; rw [HN.out, ← this]; simp
            have hrl := HP.out.len
            by_cases hlt2 : l.length + 2 * bs ≤ n
            · obtain ⟨x1, x2, z2, y2, hzx, hyx, lx1, lx2, HQ2⟩ := HQ.out.two (by omega) (by omega)
              have hlz : z.length = x1.length + x2.length + z2.length := by rw [hzx]; simp; omega
              have hly := HQ2.len
              have hc : Calls Try.prog 68 #[.slice (some ⟨blk, off, none⟩) n cap, .int .i64 l.length, .int .i64 ((l.length : Int) + (bs : Int)), .int .i64 ((l.length : Int) + 2 * (bs : Int)), .func (.func g) #[] cb] wr fun e w' => e = .returned (.tuple #[]) ∧ Aside (SW enc w0 blk off (r ++ isortB (ltOf cf) (x1 ++ x2) ++ y2).toArray w') :=
                HM.out r x1 x2 y2 (by omega) (by omega) wr _ _ _ (by omega) (by omega) (by omega) (by simp [isortB_length]; omega) (by have := S1.out; rw [hyx] at this; simpa using this)
              have hnew : ∀ w', Aside (SW enc w0 blk off (r ++ isortB (ltOf cf) (x1 ++ x2) ++ y2).toArray w') → ∃ (l' r' z' y' : List α), Value.int .i64 ((l.length : Int) + 2 * (bs : Int)) = .int .i64 l'.length ∧ Value.int .i64 ((l.length : Int) + 2 * (bs : Int) + 2 * (bs : Int)) = .int .i64 ((l'.length : Int) + 2 * (bs : Int)) ∧ l'.length ≤ n ∧ n - l'.length ≤ n - (l.length + 2 * bs) ∧ Aside (l' ++ z' = l0) ∧ Aside (PS (ltOf cf) (2 * bs) l' r') ∧ Aside (CS (ltOf cf) bs z' y') ∧ Aside (SW enc w0 blk off (r' ++ y').toArray w') := fun w' hw => by
                refine ⟨l ++ (x1 ++ x2), r ++ isortB (ltOf cf) (x1 ++ x2), z2, y2, by congr 1; simp; omega, by congr 1; simp; omega, by simp; omega, by simp; omega, ?_, .snoc _ HP.out (by simp; omega), HQ2, hw⟩
                show _ = _
                rw [← HZ.out, hzx, List.append_assoc]
              have Hc := Lib.hid hc
              have Hn := Lib.hid hnew
              clear hc hnew HM S1 HP HZ HQ HQ2 hrl hz hzx hyx lx1 lx2 hlz hly HN
              generalize l.length = a at *
              have hz4 : (a : Int) + 2 * (bs : Int) ≤ (n : Int) := by omega
              go_wp2_with (go_at_call 68; (with_reducible refine Hc.out.mono ?_); rintro e wa ⟨rfl, hwa⟩)
              go_roundg (n - (a + 2 * bs))
              case measure => omega
              case rel => exact Hn.out _ hwa
            · have hend : ∀ w', Aside (SW enc w0 blk off (r ++ isortB (ltOf cf) z).toArray w') → ∃ (bs' : Nat) (d' : List α), Value.int .i64 ((bs : Int) * 2) = .int .i64 bs' ∧ 20 ≤ bs' ∧ bs' ≤ 2 * n + 20 ∧ n - bs' ≤ n - 2 * bs ∧ Aside (CS (ltOf cf) bs' l0 d') ∧ Aside (SW enc w0 blk off d'.toArray w') := fun w' hw => by
                refine ⟨2 * bs, _, by congr 1; omega, by omega, by omega, Nat.le_refl _, ?_, hw⟩
                show CS _ _ _ _
                rw [← HZ.out]
                exact HP.out.join (.last z (by omega))
              have Hn := Lib.hid hend
              by_cases hm : l.length + bs < n
              · obtain ⟨x1, z2, y2, hzx, hyx, lx1, HQ2⟩ := HQ.out.split (by omega)
                have hlz : z.length = x1.length + z2.length := by rw [hzx]; simp
                have hy2 := HQ2.short (by omega)
                have hc : Calls Try.prog 68 #[.slice (some ⟨blk, off, none⟩) n cap, .int .i64 l.length, .int .i64 ((l.length : Int) + (bs : Int)), .int .i64 (n : Int), .func (.func g) #[] cb] wr fun e w' => e = .returned (.tuple #[]) ∧ Aside (SW enc w0 blk off (r ++ isortB (ltOf cf) z).toArray w') := by
                  have := HM.out r x1 z2 [] (by omega) (by omega) wr (l.length : Int) ((l.length : Int) + (bs : Int)) (n : Int) (by omega) (by omega) (by omega) (by simp [isortB_length]; omega) (by have := S1.out; rw [hyx, hy2] at this; simpa using this)
                  rw [hzx]
                  simpa using this
                have Hc := Lib.hid hc
                clear hc hend HM S1 HP HZ HQ HQ2 hrl hz hzx hyx lx1 hlz hy2 HN
                generalize l.length = a at *
                have hz4 : ¬ (a : Int) + 2 * (bs : Int) ≤ (n : Int) := by omega
                have hz5 : (a : Int) + (bs : Int) < (n : Int) := by omega
                go_wp2_with (go_at_call 68; (with_reducible refine Hc.out.mono ?_); rintro e wa ⟨rfl, hwa⟩)
                go_roundg (n - 2 * bs)
                case measure => omega
                case rel => exact Hn.out _ hwa
              · have hwa : Aside (SW enc w0 blk off (r ++ isortB (ltOf cf) z).toArray wr) := by
                  have := HQ.out.short (by omega)
                  rw [← this]; exact S1
                clear hend HM S1 HP HZ HQ hrl hz HN
                generalize l.length = a at *
                have hz4 : ¬ (a : Int) + 2 * (bs : Int) ≤ (n : Int) := by omega
                have hz5 : ¬ (a : Int) + (bs : Int) < (n : Int) := by omega
                go_wp2_with fail
                go_roundg (n - 2 * bs)
                case measure => omega
                case rel => exact Hn.out _ hwa
        · have hz2 : ¬ (bs : Int) < (n : Int) := by omega
          have hR : Aside (SW enc w0 blk off (isortB (ltOf cf) l0).toArray wr) := by
            have := HC.out.short (by have := HN.out; omega)
            rw [← this]; exact S1
          go_wp2_with fail
          go_end0
          exact ⟨rfl, hR⟩
/-- slices.SortStableFunc over a row of its own: the stable sort. -/
theorem sort_s (enc : α → Value) (cf : α → α → Int) (g : Nat) (cb : Array Value) (blk off cap : Nat) (O : WO (ltOf cf)) (l0 : List α) (w0 : World) (R : Row1 enc w0 blk off l0.toArray) (hsz : l0.length ≤ 100000)
    (eg : ∀ args w, (callFunc g args).run Try.prog w = .ok (.enter g args) w) (hcmp : CmpLays1 Try.prog g cb enc cf blk off l0.length w0) :
    Calls Try.prog 39 #[.slice (some ⟨blk, off, none⟩) l0.length cap, .func (.func g) #[] cb] w0 fun e w' => e = .returned (.tuple #[]) ∧ SW enc w0 blk off (isortB (ltOf cf) l0).toArray w' := by
  have hi := stable_s enc cf g cb blk off cap O l0 w0 R hsz eg hcmp w0 (SW.start R.hH)
  have Hi := Lib.hid hi
  clear hi hcmp R
  go_enter Try.func39, Try.ntmps39
  go_wp2_with fail
  refine (Hi.out).mono ?_
  rintro e w1 ⟨rfl, S⟩
  go_wp2_with fail
  go_end0
  exact ⟨rfl, S.out⟩
end Go.Proofs.Ytknmojjccfhchaa.St
