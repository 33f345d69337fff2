/- Texts laid together by join.py: Sym Kor Kos Kog Kot. -/
import Derived.Test.YtadjadakncidgaaStab
import Derived.Test.YtadjadakncidgaaPl
import Derived.Shelf.SlSortCmp.InsertionK
import Derived.Shelf.SlSortCmp.KitK
import Derived.Sort.WalkB2
import Derived.Sort.WalkB12
import Derived.Deep.LoopGhost
/- Go's stable sort behind its insertions, plainly: the exchange of two ranges, moves by one, the rows of sorted blocks. -/
set_option linter.unusedVariables false
set_option linter.unusedSimpArgs false
namespace Go.Proofs.Ytadjadakncidgaa.St
open Go Go.Sort
section
variable {α : Type} [Inhabited α] (lt : α → α → Bool)
theorem swp_far (P Q S : List α) (x y : α) : swp (P ++ x :: Q ++ y :: S).toArray P.length (P.length + 1 + Q.length) = (P ++ y :: Q ++ x :: S).toArray := by
  unfold swp
  have e1 : (P ++ x :: Q ++ y :: S).toArray[P.length]! = x := by
    have := arr_at P (Q ++ y :: S) x
    rwa [show P ++ x :: (Q ++ y :: S) = P ++ x :: Q ++ y :: S by simp] at this
  have e2 : (P ++ x :: Q ++ y :: S).toArray[P.length + 1 + Q.length]! = y := by
    have := arr_at (P ++ x :: Q) S y
    rwa [show (P ++ x :: Q).length = P.length + 1 + Q.length by simp; omega] at this
  rw [e1, e2]
  apply Array.ext'
  simp only [List.setIfInBounds_toArray]
  rw [List.append_assoc, List.set_append_right _ _ (by omega), Nat.sub_self, List.cons_append, List.set_cons_zero, List.set_append_right _ _ (by omega), show P.length + 1 + Q.length - P.length = Q.length + 1 by omega, List.set_cons_succ, List.set_append_right _ _ (by omega), Nat.sub_self, List.set_cons_zero]
  simp
theorem swp_adj (P S : List α) (x y : α) : swp (P ++ x :: y :: S).toArray P.length (P.length + 1) = (P ++ y :: x :: S).toArray := by
  have := swp_far P [] S x y
  simpa using this
/-- Two ranges of n are exchanged. -/
def swpN : Nat → Nat → Nat → Array α → Array α
  | 0, _, _, d => d
  | n + 1, a, b, d => swpN n (a + 1) (b + 1) (swp d a b)
theorem swpN_is (X : List α) : ∀ (P Q Y S : List α), X.length = Y.length → swpN X.length P.length (P.length + X.length + Q.length) (P ++ X ++ Q ++ Y ++ S).toArray = (P ++ Y ++ Q ++ X ++ S).toArray := by
  induction X with
  | nil =>
    intro P Q Y S h
    obtain rfl : Y = [] := List.length_eq_zero_iff.1 h.symm
    rfl
  | cons x X ih =>
    intro P Q Y S h
    cases Y with
    | nil => simp at h
    | cons y Y =>
      have h : X.length = Y.length := by simpa using h
      show swpN (X.length + 1) _ _ _ = _
      rw [swpN]
      have e := swp_far P (X ++ Q) (Y ++ S) x y
      rw [show P.length + 1 + (X ++ Q).length = P.length + (x :: X).length + Q.length by simp; omega, show P ++ x :: (X ++ Q) ++ y :: (Y ++ S) = P ++ x :: X ++ Q ++ y :: Y ++ S by simp, show P ++ y :: (X ++ Q) ++ x :: (Y ++ S) = (P ++ [y]) ++ X ++ (Q ++ [x]) ++ Y ++ S by simp] at e
      rw [e]
      have := ih (P ++ [y]) (Q ++ [x]) Y S h
      rw [show (P ++ [y]).length = P.length + 1 by simp, show P.length + 1 + X.length + (Q ++ [x]).length = P.length + (x :: X).length + Q.length + 1 by simp; omega] at this
      rw [this]
      simp
theorem size_swpN : ∀ (n a b : Nat) (d : Array α), (swpN n a b d).size = d.size
  | 0, _, _, _ => rfl
  | n + 1, a, b, d => by rw [swpN, size_swpN n, size_swp]
/-- One is moved n places on. -/
def shR : Nat → Nat → Array α → Array α
  | 0, _, d => d
  | n + 1, a, d => shR n (a + 1) (swp d a (a + 1))
theorem shR_is (X : List α) : ∀ (P S : List α) (x : α), shR X.length P.length (P ++ x :: X ++ S).toArray = (P ++ X ++ x :: S).toArray := by
  induction X with
  | nil => intro P S x; simp [shR]
  | cons y X ih =>
    intro P S x
    show shR (X.length + 1) _ _ = _
    rw [shR]
    have e := swp_adj P (X ++ S) x y
    rw [show P ++ x :: (y :: X) ++ S = P ++ x :: y :: (X ++ S) by simp, e]
    have := ih (P ++ [y]) S x
    rw [show (P ++ [y]).length = P.length + 1 by simp, show P ++ [y] ++ x :: X ++ S = P ++ y :: x :: (X ++ S) by simp] at this
    rw [this]; simp
theorem size_shR : ∀ (n a : Nat) (d : Array α), (shR n a d).size = d.size
  | 0, _, _ => rfl
  | n + 1, a, d => by rw [shR, size_shR n, size_swp]
/-- One is moved n places back. -/
def shL : Nat → Nat → Array α → Array α
  | 0, _, d => d
  | n + 1, k, d => shL n (k - 1) (swp d k (k - 1))
theorem shL_is (X : List α) : ∀ (P S : List α) (y : α), shL X.length (P.length + X.length) (P ++ X ++ y :: S).toArray = (P ++ y :: X ++ S).toArray := by
  refine snoc_ind (p := fun X => ∀ (P S : List α) (y : α), shL X.length (P.length + X.length) (P ++ X ++ y :: S).toArray = (P ++ y :: X ++ S).toArray) ?_ ?_ X
  · intro P S y; simp [shL]
  · intro X x ih P S y
    rw [show (X ++ [x]).length = X.length + 1 by simp, shL]
    have e := swp_next (P ++ X) S y x
    rw [show (P ++ X).length = P.length + X.length by simp, show P ++ X ++ x :: y :: S = P ++ (X ++ [x]) ++ y :: S by simp] at e
    rw [show P.length + (X.length + 1) = P.length + X.length + 1 by omega, Nat.add_sub_cancel, e, ih P (x :: S) y]
    simp
theorem size_shL : ∀ (n k : Nat) (d : Array α), (shL n k d).size = d.size
  | 0, _, _ => rfl
  | n + 1, k, d => by rw [shL, size_shL n, size_swp]
theorem arr_at2 (P X R : List α) (i : Nat) (hi : i < X.length) : (P ++ X ++ R).toArray[P.length + i]! = X[i] := by
  simp [getElem!_def, List.getElem?_append_right, List.getElem?_append_left hi, List.getElem?_eq_getElem hi]
end
section
variable {α : Type} (lt : α → α → Bool)
/-- One ahead of a sorted row. -/
theorem merge_one (x : α) (B1 B2 : List α) (hs : Srt lt (B1 ++ B2)) (h1 : ∀ b ∈ B1, lt b x = true) (h2 : ∀ b ∈ B2, lt b x = false) : mergeS lt [x] (B1 ++ B2) = B1 ++ x :: B2 := by
  unfold Srt at hs
  rw [List.pairwise_append] at hs
  have e := merge_split lt [] [x] B1 B2 (fun b hb y hy => (List.mem_singleton.1 hy) ▸ h1 b hb) (fun b hb y hy => by cases hy) (fun b hb y hy => hs.2.2 y hy b hb)
  have e2 := mergeS_right lt [x] [] B2 (fun b hb y hy => (List.mem_singleton.1 hy) ▸ h2 b hb)
  rw [List.nil_append] at e
  rw [List.append_nil] at e2
  rw [e, e2, mergeS_none lt B1 hs.1, mergeS_none lt B2 hs.2.1]
  rfl
/-- One behind a sorted row. -/
theorem merge_last (y : α) (A1 A2 : List α) (h1 : ∀ a ∈ A1, lt y a = false) (h2 : ∀ a ∈ A2, lt y a = true) : mergeS lt (A1 ++ A2) [y] = A1 ++ y :: A2 := by
  rw [mergeS_right lt A1 A2 [y] (fun b hb x hx => (List.mem_singleton.1 hb) ▸ h1 x hx)]
  have := mergeS_left lt [] A2 [y] (fun b hb x hx => (List.mem_singleton.1 hb) ▸ h2 x hx)
  rw [List.nil_append] at this
  rw [this]
  rfl
/-- Rows of sorted blocks: all of them whole. -/
inductive PS (n : Nat) : List α → List α → Prop
  | nil : PS n [] []
  | snoc {l r : List α} (x : List α) : PS n l r → x.length = n → PS n (l ++ x) (r ++ isortB lt x)
/-- Rows of sorted blocks: the last one may be short. -/
inductive CS (n : Nat) : List α → List α → Prop
  | last (l : List α) : l.length ≤ n → CS n l (isortB lt l)
  | more {l r : List α} (x : List α) : x.length = n → CS n l r → CS n (x ++ l) (isortB lt x ++ r)
variable {lt}
theorem CS.len {n : Nat} {l r : List α} (h : CS lt n l r) : r.length = l.length := by
  induction h with
  | last l _ => exact isortB_length lt l
  | more x _ _ ih => rw [List.length_append, List.length_append, ih, isortB_length]
theorem PS.len {n : Nat} {l r : List α} (h : PS lt n l r) : r.length = l.length := by
  induction h with
  | nil => rfl
  | snoc x _ _ ih => rw [List.length_append, List.length_append, ih, isortB_length]
theorem PS.join {n : Nat} {l r : List α} (h : PS lt n l r) : ∀ {l' r' : List α}, CS lt n l' r' → CS lt n (l ++ l') (r ++ r') := by
  induction h with
  | nil => intro l' r' h; exact h
  | snoc x _ hx ih =>
    intro l' r' h'
    rw [List.append_assoc, List.append_assoc]
    exact ih (.more x hx h')
theorem isortB_nil : isortB lt ([] : List α) = [] := rfl
/-- No more than one block. -/
theorem CS.short {n : Nat} {l r : List α} (h : CS lt n l r) (hl : l.length ≤ n) : r = isortB lt l := by
  cases h with
  | last => rfl
  | more x hx h2 =>
    rw [List.length_append] at hl
    have h0 := h2.len
    rename_i l2 r2
    obtain rfl : l2 = [] := List.length_eq_zero_iff.1 (by omega)
    obtain rfl : r2 = [] := List.length_eq_zero_iff.1 h0
    simp
/-- More than one block. -/
theorem CS.split {n : Nat} {l r : List α} (h : CS lt n l r) (hl : n < l.length) : ∃ x l2 r2, l = x ++ l2 ∧ r = isortB lt x ++ r2 ∧ x.length = n ∧ CS lt n l2 r2 := by
  cases h with
  | last _ hn => omega
  | more x hx h2 => exact ⟨x, _, _, rfl, rfl, hx, h2⟩
/-- Two whole blocks ahead. -/
theorem CS.two {n : Nat} {l r : List α} (h : CS lt n l r) (hn : 0 < n) (hl : 2 * n ≤ l.length) : ∃ x y l2 r2, l = x ++ y ++ l2 ∧ r = isortB lt x ++ isortB lt y ++ r2 ∧ x.length = n ∧ y.length = n ∧ CS lt n l2 r2 := by
  obtain ⟨x, l2, r2, rfl, rfl, hx, h2⟩ := h.split (by omega)
  rw [List.length_append] at hl
  by_cases e : l2.length = n
  · refine ⟨x, l2, [], [], by simp, ?_, hx, e, CS.last [] (Nat.zero_le _)⟩
    rw [h2.short (by omega)]; simp
  · obtain ⟨y, l3, r3, rfl, rfl, hy, h3⟩ := h2.split (by omega)
    exact ⟨x, y, l3, r3, by simp, by simp, hx, hy, h3⟩
theorem merge_blocks (O : WO lt) (x y : List α) : mergeS lt (isortB lt x) (isortB lt y) = isortB lt (x ++ y) := by
  rw [mergeS_isort O, isortB_append]
end
end Go.Proofs.Ytadjadakncidgaa.St

/- slices.SortStableFunc's merging at elements of five cells, walked: two ranges exchanged, rotated. -/
set_option linter.unusedVariables false
set_option linter.unusedSimpArgs false
namespace Go.Proofs.Ytadjadakncidgaa.St
open Go Go.RowKit Go.Lib Go.Sort Go.Shelf Go.Proofs.YtadjadakncidgaaW.PrintWords Go.Proofs.YtadjadakncidgaaW.PrintMore Go.Proofs.Ytadjadakncidgaa.RL Go.Proofs.Ytadjadakncidgaa.PL
variable {α : Type} [Inhabited α]
set_option maxHeartbeats 4000000 in
set_option maxRecDepth 1000000 in
theorem swapRange_s (enc : α → List Value) (kk : Nat) (hk5 : kk = 5) (g : Nat) (cb : Array Value) (blk off cap a b n : Nat) (d0 d : Array α) (w0 w : World)
    (R : RowK enc kk w0 blk off d0) (hs : d0.size = d.size) (S : SWK enc kk w0 blk off d w) (ha : a + n ≤ d.size) (hb : b + n ≤ d.size) (hsz : d.size ≤ 1000000) :
    Calls Try.prog 52 #[.slice (some ⟨blk, off, none⟩) d.size cap, .int .i64 a, .int .i64 b, .int .i64 n, .func (.func g) #[] cb] w fun e w' => e = .returned (.tuple #[]) ∧ SWK enc kk w0 blk off (swpN n a b d) w' := by
  have mixed : Try.prog.follows Departure.mixedOrders = true := by kernel_rfl
  have S0 : Aside (SWK enc kk w0 blk off d w) := S
  clear S
  have t0 := Try.underlying0; have a0 := Try.isAgg0; have z0 := Try.sizeOf0; have v0 := Try.zeroValue0
  have t3 := Try.underlying3; have a3 := Try.isAgg3; have z3 := Try.sizeOf3; have v3 := Try.zeroValue3
  have t4 := Try.underlying4; have a4 := Try.isAgg4; have z4 := Try.sizeOf4; have v4 := Try.zeroValue4
  have t22 := Try.underlying29; have a22 := Try.isAgg29; have z22 := Try.sizeOf29; have v22 := Try.zeroValue29
  have t25 := Try.underlying56; have a25 := Try.isAgg56; have z25 := Try.sizeOf56; have v25 := Try.zeroValue56
  have aE := Try.isAgg35
  have zE : ∀ w, Sem.run Try.prog (Go.sizeOf 35) w = .ok kk w := by rw [hk5]; exact Try.sizeOf35
  have u22 := run_underlying Try.underlying29
  have FG := Try.func52
  clear hk5
  generalize Try.prog = PP at *
  go_enter FG, Try.ntmps52
  go_wp2
  go_loopg [10] n (fun kx s8 wr => ∃ (i : Nat) (dk : Array α), s8 = .int .i64 i ∧ i ≤ n ∧ n - i ≤ kx ∧ dk.size = d.size ∧ Aside (SWK enc kk w0 blk off dk wr) ∧ Hid (swpN (n - i) (a + i) (b + i) dk = swpN n a b d))
  case atStart => exact ⟨0, d, rfl, Nat.zero_le _, by omega, rfl, S0, Lib.hid (by simp)⟩
  case round =>
    clear S0
    obtain ⟨i, dk, rfl, h1, hkx, hds, S1, heq⟩ := hrel
    by_cases hlt : i < n
    · have hltz : (i : Int) < (n : Int) := by omega
      go_wp2_with fail
      have ea : ((a : Int) + (i : Int)).toNat = a + i := by omega
      have pa : (0 : Int) ≤ (a : Int) + (i : Int) := by omega
      have ba : (a : Int) + (i : Int) < (d.size : Int) := by omega
      have ra : IntKind.i64.wrap ((a : Int) + (i : Int)) = (a : Int) + (i : Int) := by rw [IntKind.wrap_i64]; omega
      have ec : ((b : Int) + (i : Int)).toNat = b + i := by omega
      have pc : (0 : Int) ≤ (b : Int) + (i : Int) := by omega
      have bc : (b : Int) + (i : Int) < (d.size : Int) := by omega
      have rc : IntKind.i64.wrap ((b : Int) + (i : Int)) = (b : Int) + (i : Int) := by rw [IntKind.wrap_i64]; omega
      have S2 : Aside (SWK enc kk w0 blk off (swp dk (a + i) (b + i)) ((wr.drew.setCells blk (off + (a + i) * kk) (enc dk[b + i]!)).setCells blk (off + (b + i) * kk) (enc dk[a + i]!))) := S1.out.swapped R (a + i) (b + i) (by omega) (by omega)
      have la := S1.out.ld1 R (by omega) PP (a + i) (by omega)
      have lb := S1.out.ld1 R (by omega) PP (b + i) (by omega)
      have sa := S1.out.st1 R (by omega) PP (a + i) (by omega) dk[b + i]!
      have sb := S1.out.st2 R (by omega) PP (a + i) (b + i) (by omega) (by omega) dk[b + i]! dk[a + i]!
      have na : (enc dk[a + i]!).length = kk := R.hk _
      have nb : (enc dk[b + i]!).length = kk := R.hk _
      generalize enc dk[a + i]! = cI at S2 la sb na
      generalize enc dk[b + i]! = cJ at S2 lb sa sb nb
      clear S1
      go_wp2_with fail
      go_big_region_o
      clear la lb sa sb
      generalize (wr.drew.setCells blk (off + (a + i) * kk) cJ).setCells blk (off + (b + i) * kk) cI = w2 at S2 ⊢
      clear na nb ea ec
      go_wp2
      go_roundg (n - (i + 1))
      case measure => omega
      case rel =>
        exact ⟨i + 1, swp dk (a + i) (b + i), by simp, by omega, Nat.le_refl _, by rw [size_swp]; exact hds, S2, Lib.hid (by rw [← heq.out, show n - i = (n - (i + 1)) + 1 by omega, swpN]; rfl)⟩
    · obtain rfl : i = n := by omega
      go_wp2
      go_end0
      refine ⟨rfl, ?_⟩
      have := heq.out
      rw [Nat.sub_self, swpN] at this
      rw [← this]
      exact S1.out
theorem swapRange_l (enc : α → List Value) (kk : Nat) (hk5 : kk = 5) (g : Nat) (cb : Array Value) (blk off cap : Nat) (az bz nz sz : Int) (d0 : Array α) (P X Q Y Z : List α) (hX : X.length = Y.length) (w0 w : World)
    (R : RowK enc kk w0 blk off d0) (hsz : d0.size ≤ 1000000) (hs : d0.size = (P ++ X ++ Q ++ Y ++ Z).length) (S : SWK enc kk w0 blk off (P ++ X ++ Q ++ Y ++ Z).toArray w) (ha : az = (P.length : Int)) (hb : bz = ((P.length + X.length + Q.length : Nat) : Int)) (hn : nz = (X.length : Int)) :
    Calls Try.prog 52 #[.slice (some ⟨blk, off, none⟩) d0.size cap, .int .i64 az, .int .i64 bz, .int .i64 nz, .func (.func g) #[] cb] w fun e w' => e = .returned (.tuple #[]) ∧ SWK enc kk w0 blk off (P ++ Y ++ Q ++ X ++ Z).toArray w' := by
  subst ha hb hn
  have hl : (P ++ X ++ Q ++ Y ++ Z).toArray.size = d0.size := by rw [hs]; simp
  simp only [List.length_append] at hs
  have := swapRange_s enc kk hk5 g cb blk off cap P.length (P.length + X.length + Q.length) X.length d0 (P ++ X ++ Q ++ Y ++ Z).toArray w0 w R hl.symm S (by rw [hl]; omega) (by rw [hl]; omega) (by rw [hl]; exact hsz)
  rw [hl, swpN_is X P Q Y Z hX] at this
  exact this
set_option maxHeartbeats 4000000 in
set_option maxRecDepth 1000000 in
theorem rotate_s (enc : α → List Value) (kk : Nat) (hk5 : kk = 5) (g : Nat) (cb : Array Value) (blk off cap : Nat) (az mz bz : Int) (d0 : Array α) (P X Y Z : List α) (hX : 0 < X.length) (hY : 0 < Y.length) (w0 w : World)
    (R : RowK enc kk w0 blk off d0) (hsz : d0.size ≤ 1000000) (hs : d0.size = (P ++ X ++ Y ++ Z).length) (S : SWK enc kk w0 blk off (P ++ X ++ Y ++ Z).toArray w) (ha : az = (P.length : Int)) (hm : mz = ((P.length + X.length : Nat) : Int)) (hb : bz = ((P.length + X.length + Y.length : Nat) : Int)) :
    Calls Try.prog 49 #[.slice (some ⟨blk, off, none⟩) d0.size cap, .int .i64 az, .int .i64 mz, .int .i64 bz, .func (.func g) #[] cb] w fun e w' => e = .returned (.tuple #[]) ∧ SWK enc kk w0 blk off (P ++ Y ++ X ++ Z).toArray w' := by
  obtain ⟨m, hmm⟩ : ∃ m, m = P.length + X.length := ⟨_, rfl⟩
  have hsw := swapRange_l enc kk hk5 g cb blk off cap
  have HC : Aside _ := hsw
  have S0 : Aside (SWK enc kk w0 blk off (P ++ X ++ Y ++ Z).toArray w) := S
  have hi : IntKind.i64.wrap (mz - az) = (X.length : Int) := by rw [IntKind.wrap_i64]; simp only [List.length_append] at hs; omega
  have hj : IntKind.i64.wrap (bz - mz) = (Y.length : Int) := by rw [IntKind.wrap_i64]; simp only [List.length_append] at hs; omega
  have HS : Aside (d0.size = (P ++ X ++ Y ++ Z).length) := hs
  have hmz : mz = (m : Int) := by omega
  subst hmz
  have HM : Aside (m = P.length + X.length) := hmm
  have HL : Aside (0 < X.length ∧ 0 < Y.length) := ⟨hX, hY⟩
  have h0 : Aside (P.length + X.length + Y.length ≤ 1000000) := by show _ ≤ _; simp only [List.length_append] at hs; omega
  clear hs S hsw ha hb hm hmm hX hY
  go_enter Try.func49, Try.ntmps49
  go_wp2
  go_loopg [10, 11] (X.length + Y.length) (fun kx vi vj wr => ∃ (P' X' Y' Z' : List α), vi = .int .i64 X'.length ∧ vj = .int .i64 Y'.length ∧ X'.length + Y'.length ≤ kx ∧ Aside (0 < X'.length ∧ 0 < Y'.length) ∧ Aside (m = P'.length + X'.length) ∧ Aside (P'.length + X'.length + Y'.length ≤ 1000000) ∧ Aside (SWK enc kk w0 blk off (P' ++ X' ++ Y' ++ Z').toArray wr) ∧ Aside (d0.size = (P' ++ X' ++ Y' ++ Z').length) ∧ Aside (P' ++ Y' ++ X' ++ Z' = P ++ Y ++ X ++ Z))
  case atStart => exact ⟨P, X, Y, Z, rfl, rfl, Nat.le_refl _, HL, HM, h0, S0, HS, rfl⟩
  case round =>
    clear S0 HS HM HL h0
    obtain ⟨P', X', Y', Z', rfl, rfl, hk, HL, HM, h0, S1, HS, HT⟩ := hrel
    have hp := HL.out
    have hm := HM.out
    have hm1 : (X'.length : Int) ≤ (m : Int) ∧ (m : Int) + (Y'.length : Int) ≤ 1000000 := by have := h0.out; omega
    by_cases h1 : X'.length = Y'.length
    · have hc : Calls Try.prog 52 #[.slice (some ⟨blk, off, none⟩) d0.size cap, .int .i64 ((m : Int) - (Y'.length : Int)), .int .i64 (m : Int), .int .i64 (Y'.length : Int), .func (.func g) #[] cb] wr fun e w' => e = .returned (.tuple #[]) ∧ Aside (SWK enc kk w0 blk off (P ++ Y ++ X ++ Z).toArray w') := by
        have := HC.out ((m : Int) - (Y'.length : Int)) (m : Int) (Y'.length : Int) 0 d0 P' X' [] Y' Z' h1 w0 wr R hsz (by rw [HS.out]; simp) (by simpa using S1.out) (by omega) (by simp; omega) (by rw [h1])
        refine this.mono ?_
        rintro e w' ⟨he, hw⟩
        refine ⟨he, ?_⟩
        have ht := HT.out
        show SWK enc kk w0 blk off (P ++ Y ++ X ++ Z).toArray w'
        rw [← ht]
        simpa using hw
      clear S1 HS HT HL HM h0 HC hm
      generalize X'.length = lx at *
      subst h1
      generalize Y'.length = lx at *
      have Hc := Lib.hid hc
      clear hc
      go_wp2_with (go_at_call 52; (with_reducible refine Hc.out.mono ?_); rintro e wa ⟨rfl, hwa⟩)
      go_end0
      exact ⟨rfl, hwa.out⟩
    · by_cases h2 : Y'.length < X'.length
      · have hc : Calls Try.prog 52 #[.slice (some ⟨blk, off, none⟩) d0.size cap, .int .i64 ((m : Int) - (X'.length : Int)), .int .i64 (m : Int), .int .i64 (Y'.length : Int), .func (.func g) #[] cb] wr fun e w' => e = .returned (.tuple #[]) ∧ Aside (SWK enc kk w0 blk off (P' ++ Y' ++ X'.drop Y'.length ++ X'.take Y'.length ++ Z').toArray w') := by
          have := HC.out ((m : Int) - (X'.length : Int)) (m : Int) (Y'.length : Int) 0 d0 P' (X'.take Y'.length) (X'.drop Y'.length) Y' Z' (by rw [List.length_take]; omega) w0 wr R hsz (by rw [HS.out]; simp; try omega) (by
            have := S1.out
            rw [show P' ++ List.take Y'.length X' ++ List.drop Y'.length X' = P' ++ X' by rw [List.append_assoc, List.take_append_drop]]
            exact this) (by omega) (by simp; omega) (by simp; omega)
          exact this
        have hnew : ∀ w', Aside (SWK enc kk w0 blk off (P' ++ Y' ++ X'.drop Y'.length ++ X'.take Y'.length ++ Z').toArray w') → ∃ (P1 X1 Y1 Z1 : List α), Value.int .i64 ((X'.length : Int) - (Y'.length : Int)) = .int .i64 X1.length ∧ Value.int .i64 (Y'.length : Int) = .int .i64 Y1.length ∧ X1.length + Y1.length ≤ X'.length ∧ Aside (0 < X1.length ∧ 0 < Y1.length) ∧ Aside (m = P1.length + X1.length) ∧ Aside (P1.length + X1.length + Y1.length ≤ 1000000) ∧ Aside (SWK enc kk w0 blk off (P1 ++ X1 ++ Y1 ++ Z1).toArray w') ∧ Aside (d0.size = (P1 ++ X1 ++ Y1 ++ Z1).length) ∧ Aside (P1 ++ Y1 ++ X1 ++ Z1 = P ++ Y ++ X ++ Z) := fun w' hw => by
          refine ⟨P' ++ Y', X'.drop Y'.length, X'.take Y'.length, Z', by congr 1; simp; omega, by congr 1; simp; omega, by simp; omega, ⟨by simp; omega, by simp; omega⟩, by show m = _; simp; omega, by show _ ≤ _; simp; omega, hw, by show d0.size = _; rw [HS.out]; simp; omega, ?_⟩
          show _ = _
          rw [← HT.out, List.append_assoc (P' ++ Y'), List.take_append_drop]
        have HN := Lib.hid hnew
        have Hc := Lib.hid hc
        clear S1 HS HT HL HM h0 HC hc hnew hm
        generalize X'.length = lx at *
        generalize Y'.length = ly at *
        have z2 : (ly : Int) < (lx : Int) := by omega
        go_wp2_with (go_at_call 52; (with_reducible refine Hc.out.mono ?_); rintro e wa ⟨rfl, hwa⟩)
        go_roundg lx
        case measure => omega
        case rel => exact HN.out _ hwa
      · have hc : Calls Try.prog 52 #[.slice (some ⟨blk, off, none⟩) d0.size cap, .int .i64 ((m : Int) - (X'.length : Int)), .int .i64 ((m : Int) + (Y'.length : Int) - (X'.length : Int)), .int .i64 (X'.length : Int), .func (.func g) #[] cb] wr fun e w' => e = .returned (.tuple #[]) ∧ Aside (SWK enc kk w0 blk off (P' ++ Y'.drop (Y'.length - X'.length) ++ Y'.take (Y'.length - X'.length) ++ X' ++ Z').toArray w') := by
          have := HC.out ((m : Int) - (X'.length : Int)) ((m : Int) + (Y'.length : Int) - (X'.length : Int)) (X'.length : Int) 0 d0 P' X' (Y'.take (Y'.length - X'.length)) (Y'.drop (Y'.length - X'.length)) Z' (by rw [List.length_drop]; omega) w0 wr R hsz (by rw [HS.out]; simp; try omega) (by
            have := S1.out
            rw [show P' ++ X' ++ List.take (Y'.length - X'.length) Y' ++ List.drop (Y'.length - X'.length) Y' = P' ++ X' ++ Y' by rw [List.append_assoc, List.take_append_drop]]
            exact this) (by omega) (by simp <;> omega) rfl
          exact this
        have hnew : ∀ w', Aside (SWK enc kk w0 blk off (P' ++ Y'.drop (Y'.length - X'.length) ++ Y'.take (Y'.length - X'.length) ++ X' ++ Z').toArray w') → ∃ (P1 X1 Y1 Z1 : List α), Value.int .i64 (X'.length : Int) = .int .i64 X1.length ∧ Value.int .i64 ((Y'.length : Int) - (X'.length : Int)) = .int .i64 Y1.length ∧ X1.length + Y1.length ≤ Y'.length ∧ Aside (0 < X1.length ∧ 0 < Y1.length) ∧ Aside (m = P1.length + X1.length) ∧ Aside (P1.length + X1.length + Y1.length ≤ 1000000) ∧ Aside (SWK enc kk w0 blk off (P1 ++ X1 ++ Y1 ++ Z1).toArray w') ∧ Aside (d0.size = (P1 ++ X1 ++ Y1 ++ Z1).length) ∧ Aside (P1 ++ Y1 ++ X1 ++ Z1 = P ++ Y ++ X ++ Z) := fun w' hw => by
          refine ⟨P', Y'.drop (Y'.length - X'.length), Y'.take (Y'.length - X'.length), X' ++ Z', by congr 1; simp <;> omega, by congr 1; simp <;> omega, by simp <;> omega, ⟨by simp <;> omega, by simp <;> omega⟩, by show m = _; simp <;> omega, by show _ ≤ _; simp <;> omega, ?_, by show d0.size = _; rw [HS.out]; simp <;> omega, ?_⟩
          · show SWK _ _ _ _ _ _ _
            rw [← List.append_assoc]; exact hw
          show _ = _
          rw [← HT.out, ← List.append_assoc, List.append_assoc P', List.take_append_drop]
        have HN := Lib.hid hnew
        have Hc := Lib.hid hc
        clear S1 HS HT HL HM h0 HC hc hnew hm
        generalize X'.length = lx at *
        generalize Y'.length = ly at *
        have z2 : (lx : Int) < (ly : Int) := by omega
        go_wp2_with (go_at_call 52; (with_reducible refine Hc.out.mono ?_); rintro e wa ⟨rfl, hwa⟩)
        go_roundg ly
        case measure => omega
        case rel => exact HN.out _ hwa
end Go.Proofs.Ytadjadakncidgaa.St

/- slices.symMergeCmpFunc at elements of five cells, walked. -/
set_option linter.unusedVariables false
set_option linter.unusedSimpArgs false
namespace Go.Proofs.Ytadjadakncidgaa.St
open Go Go.RowKit Go.Lib Go.Sort Go.Shelf Go.Proofs.YtadjadakncidgaaW.PrintWords Go.Proofs.YtadjadakncidgaaW.PrintMore Go.Proofs.Ytadjadakncidgaa.RL Go.Proofs.Ytadjadakncidgaa.PL
section
variable {α : Type}
theorem srt_take {lt : α → α → Bool} (O : WO lt) {B : List α} (sB : Srt lt B) (x : α) (n k : Nat) (hk : k < B.length) (hn : k + 1 = n) (h : lt B[k] x = true) : ∀ b ∈ B.take n, lt b x = true := by
  intro b hb
  obtain ⟨t, ht, rfl⟩ := List.getElem_of_mem hb
  rw [List.length_take] at ht
  rw [List.getElem_take]
  by_cases e : t = k
  · subst e; exact h
  · have := List.pairwise_iff_getElem.1 sB t k (by omega) hk (by omega)
    cases hx : lt B[t] x with
    | true => rfl
    | false => rw [O.neg x B[t] B[k] hx this] at h; cases h
theorem srt_drop {lt : α → α → Bool} (O : WO lt) {B : List α} (sB : Srt lt B) (x : α) (n : Nat) (hk : n < B.length) (h : lt B[n] x = false) : ∀ b ∈ B.drop n, lt b x = false := by
  intro b hb
  obtain ⟨t, ht, rfl⟩ := List.getElem_of_mem hb
  rw [List.length_drop] at ht
  rw [List.getElem_drop]
  by_cases e : t = 0
  · subst e; exact h
  · have := List.pairwise_iff_getElem.1 sB n (n + t) hk (by omega) (by omega)
    exact O.neg x B[n] B[n + t] h this
theorem srt_take' {lt : α → α → Bool} (O : WO lt) {A : List α} (sA : Srt lt A) (y : α) (n k : Nat) (hk : k < A.length) (hn : k + 1 = n) (h : lt y A[k] = false) : ∀ a ∈ A.take n, lt y a = false := by
  intro a hb
  obtain ⟨t, ht, rfl⟩ := List.getElem_of_mem hb
  rw [List.length_take] at ht
  rw [List.getElem_take]
  by_cases e : t = k
  · subst e; exact h
  · have := List.pairwise_iff_getElem.1 sA t k (by omega) hk (by omega)
    exact O.neg A[t] A[k] y this h
theorem srt_drop' {lt : α → α → Bool} (O : WO lt) {A : List α} (sA : Srt lt A) (y : α) (n : Nat) (hk : n < A.length) (h : lt y A[n] = true) : ∀ a ∈ A.drop n, lt y a = true := by
  intro a hb
  obtain ⟨t, ht, rfl⟩ := List.getElem_of_mem hb
  rw [List.length_drop] at ht
  rw [List.getElem_drop]
  by_cases e : t = 0
  · subst e; exact h
  · have := List.pairwise_iff_getElem.1 sA n (n + t) hk (by omega) (by omega)
    exact O.pos h this
end
variable {α : Type} [Inhabited α]
set_option maxHeartbeats 4000000 in
set_option maxRecDepth 1000000 in
/-- One ahead of a row. -/
theorem sym_one (enc : α → List Value) (kk : Nat) (hk5 : kk = 5) (cf : α → α → Int) (g : Nat) (cb : Array Value) (blk off cap : Nat) (O : WO (ltOf cf)) (d0 : Array α) (w0 : World) (R : RowK enc kk w0 blk off d0) (hsz : d0.size ≤ 1000000)
    (eg : ∀ args w, (callFunc g args).run Try.prog w = .ok (.enter g args) w) (hcmp : CmpLays Try.prog g cb enc kk cf blk off d0.size w0)
    (P B Z : List α) (x : α) (hB : 0 < B.length) (sB : Srt (ltOf cf) B) (a m b : Nat) (ha : a = P.length) (hm : m = P.length + 1) (hb : b = P.length + 1 + B.length) (hs : d0.size = (P ++ x :: B ++ Z).length) (w : World) (S : SWK enc kk w0 blk off (P ++ x :: B ++ Z).toArray w) :
    Calls Try.prog 47 #[.slice (some ⟨blk, off, none⟩) d0.size cap, .int .i64 a, .int .i64 m, .int .i64 b, .func (.func g) #[] cb] w fun e w' => e = .returned (.tuple #[]) ∧ SWK enc kk w0 blk off (P ++ mergeS (ltOf cf) [x] B ++ Z).toArray w' := by
  have mixed : Try.prog.follows Departure.mixedOrders = true := by kernel_rfl
  have HC : Aside _ := hcmp
  have hl : Aside ((P ++ x :: B ++ Z).toArray.size = d0.size) := by show _ = _; rw [hs]; simp
  have hS : Aside (b ≤ d0.size ∧ d0.size = P.length + 1 + B.length + Z.length) := by show _ ∧ _; rw [hs]; simp; omega
  have hx : Aside ((P ++ x :: B ++ Z).toArray[a]! = x) := by
    show _ = _
    have := arr_at P (B ++ Z) x
    rw [ha]; rwa [show P ++ x :: (B ++ Z) = P ++ x :: B ++ Z by simp] at this
  have hBi : Aside (∀ i, m ≤ i → ∀ h : i - m < B.length, (P ++ x :: B ++ Z).toArray[i]! = B[i - m]) := by
    show ∀ i, _
    intro i h1 h
    have := arr_at2 (P ++ [x]) B Z (i - m) h
    rw [show (P ++ [x]).length + (i - m) = i by simp; omega] at this
    rw [← this]; simp
  have S0 : Aside (SWK enc kk w0 blk off (P ++ x :: B ++ Z).toArray w) := S
  have e1 : Aside (a + 1 = m ∧ m + B.length = b ∧ b ≤ 1000000) := by show _ ∧ _; have := hS.out; omega
  have f1 : (m : Int) - (a : Int) = 1 := by omega
  have hfin : Aside (∀ i, m ≤ i → i ≤ b → (i = m ∨ ∃ k, ∃ h : k < B.length, k + 1 = i - m ∧ ltOf cf B[k] x = true) → (i = b ∨ ∃ h : i - m < B.length, ltOf cf B[i - m] x = false) → shR (i - m) a (P ++ x :: B ++ Z).toArray = (P ++ mergeS (ltOf cf) [x] B ++ Z).toArray) := by
    show ∀ i, _
    intro i h1 h2 h3 h4
    have q1 : ∀ y ∈ B.take (i - m), ltOf cf y x = true := by
      rcases h3 with h | ⟨k, hk, h5, h6⟩
      · rw [h, Nat.sub_self]; intro y hy; simp at hy
      · exact srt_take O sB x _ k hk h5 h6
    have q2 : ∀ y ∈ B.drop (i - m), ltOf cf y x = false := by
      rcases h4 with h | ⟨h5, h6⟩
      · rw [List.drop_eq_nil_of_le (by omega)]; intro y hy; cases hy
      · exact srt_drop O sB x _ h5 h6
    have e := merge_one (ltOf cf) x (B.take (i - m)) (B.drop (i - m)) (by rw [List.take_append_drop]; exact sB) q1 q2
    have e2 := shR_is (B.take (i - m)) P (B.drop (i - m) ++ Z) x
    rw [List.take_append_drop] at e
    rw [e]
    rw [show (B.take (i - m)).length = i - m by rw [List.length_take]; omega, show P ++ x :: B.take (i - m) ++ (B.drop (i - m) ++ Z) = P ++ x :: B ++ Z by
      simp only [List.append_assoc, List.cons_append]; rw [← List.append_assoc (List.take _ _), List.take_append_drop]] at e2
    rw [ha, e2]; simp
  obtain ⟨D, hD⟩ : ∃ D, D = (P ++ x :: B ++ Z).toArray := ⟨_, rfl⟩
  obtain ⟨T, hTT⟩ : ∃ T, T = (P ++ mergeS (ltOf cf) [x] B ++ Z).toArray := ⟨_, rfl⟩
  rw [← hD] at S0 hl hx hBi hfin
  rw [← hTT] at hfin ⊢
  have hz : (a : Int) < 1000000 ∧ (m : Int) < 1000000 ∧ (b : Int) ≤ 1000000 := by have := e1.out; omega
  clear S hs hcmp ha hm hb hD hTT
  have t0 := Try.underlying0; have a0 := Try.isAgg0; have z0 := Try.sizeOf0; have v0 := Try.zeroValue0
  have t3 := Try.underlying3; have a3 := Try.isAgg3; have z3 := Try.sizeOf3; have v3 := Try.zeroValue3
  have t4 := Try.underlying4; have a4 := Try.isAgg4; have z4 := Try.sizeOf4; have v4 := Try.zeroValue4
  have t22 := Try.underlying29; have a22 := Try.isAgg29; have z22 := Try.sizeOf29; have v22 := Try.zeroValue29
  have t25 := Try.underlying56; have a25 := Try.isAgg56; have z25 := Try.sizeOf56; have v25 := Try.zeroValue56
  have t9 := Try.underlying83; have a9 := Try.isAgg83; have z9 := Try.sizeOf83; have v9 := Try.zeroValue83
  have eNr : ∀ args w, (callFunc 49 args).run Try.prog w = .ok (.enter 49 args) w := enters_of Try.func49 (by kernel_rfl) rfl
  have eNs : ∀ args w, (callFunc 47 args).run Try.prog w = .ok (.enter 47 args) w := enters_of Try.func47 (by kernel_rfl) rfl
  have aE := Try.isAgg35
  have zE : ∀ w, Sem.run Try.prog (Go.sizeOf 35) w = .ok kk w := by rw [hk5]; exact Try.sizeOf35
  have u22 := run_underlying Try.underlying29
  have FG := Try.func47
  clear hk5
  generalize Try.prog = PP at *
  go_enter FG, Try.ntmps47
  go_wp2
  go_loopg [10, 11] (b - m) (fun kx vi vj wr => ∃ (i j : Nat), vi = .int .i64 i ∧ vj = .int .i64 j ∧ m ≤ i ∧ i ≤ j ∧ j ≤ b ∧ j - i ≤ kx ∧ Aside (i = m ∨ ∃ k, ∃ h : k < B.length, k + 1 = i - m ∧ ltOf cf B[k] x = true) ∧ Aside (j = b ∨ ∃ h : j - m < B.length, ltOf cf B[j - m] x = false) ∧ Aside (SWK enc kk w0 blk off D wr))
  case atStart => exact ⟨m, b, rfl, rfl, Nat.le_refl _, by have := e1.out; omega, Nat.le_refl _, Nat.le_refl _, .inl rfl, .inl rfl, S0⟩
  case round =>
    clear S0
    obtain ⟨i, j, rfl, rfl, h1, h2, h3, hk, HI, HJ, S1⟩ := hrel
    by_cases hlt : i < j
    · have hltz : (i : Int) < (j : Int) := by omega
      go_wp2_with fail
      obtain ⟨h, hh⟩ : ∃ h : Nat, h = (i + j) / 2 := ⟨_, rfl⟩
      have eh : ((i : Int) + (j : Int)) / 2 = (h : Int) := by omega
      rw [eh]
      have hb1 : i ≤ h ∧ h < j := by omega
      have e1' := e1.out
      have hS' := hS.out
      have hyb : h - m < B.length := by omega
      have l1 := S1.out.ld R hl.out PP h (by rw [hl.out]; omega)
      have l2 := S1.out.ld R hl.out PP a (by rw [hl.out]; omega)
      rw [hBi.out h (by omega) hyb] at l1
      rw [hx.out] at l2
      obtain ⟨y, hy⟩ : ∃ y, y = B[h - m] := ⟨_, rfl⟩
      rw [← hy] at l1
      have hc := S1.out.cmp HC.out hl.out y x
      have bh : (h : Int) < (d0.size : Int) := by omega
      have ba : (a : Int) < (d0.size : Int) := by omega
      have ph : (0 : Int) ≤ (h : Int) := by omega
      have pa : (0 : Int) ≤ (a : Int) := by omega
      have hz2 : (h : Int) ≤ 1000000 := by omega
      have HY := Lib.hid hy
      have H1 := Lib.hid hb1
      clear hy hb1 hh eh hS' e1' f1 hltz
      cases hlv : (ltOf cf) y x with
      | true =>
        have hv : cf y x < 0 := of_decide_eq_true hlv
        have hd : decide (cf y x < 0) = true := decide_eq_true hv
        go_quiet_grown (first | (go_at_fn g; refine Calls.grown_of (hc _ _)))
        have S2 : Aside (SWK enc kk w0 blk off D (grow (wr.drewN nq) osq)) := S1.out.grown nq osq
        clear l1 l2 hc S1
        generalize grow (wr.drewN nq) osq = w2 at S2 ⊢
        clear nq osq
        go_wp2
        go_roundg (j - (h + 1))
        case measure => have := H1.out; omega
        case rel => exact ⟨h + 1, j, by simp, rfl, by have := H1.out; omega, by have := H1.out; omega, h3, Nat.le_refl _, .inr ⟨h - m, hyb, by have := H1.out; omega, by rw [← HY.out]; exact hlv⟩, HJ, S2⟩
      | false =>
        have hv : ¬ cf y x < 0 := of_decide_eq_false hlv
        have hd : decide (cf y x < 0) = false := decide_eq_false hv
        go_quiet_grown (first | (go_at_fn g; refine Calls.grown_of (hc _ _)))
        have S2 : Aside (SWK enc kk w0 blk off D (grow (wr.drewN nq) osq)) := S1.out.grown nq osq
        clear l1 l2 hc S1
        generalize grow (wr.drewN nq) osq = w2 at S2 ⊢
        clear nq osq
        go_wp2
        go_roundg (h - i)
        case measure => have := H1.out; omega
        case rel => exact ⟨i, h, rfl, rfl, h1, by have := H1.out; omega, by have := H1.out; omega, Nat.le_refl _, HI, .inr ⟨hyb, by rw [← HY.out]; exact hlv⟩, S2⟩
    · obtain rfl : i = j := by omega
      have hT := hfin.out i h1 h3 HI.out HJ.out
      have HT : Aside _ := hT
      clear hfin hT HI HJ hBi hx
      go_wp2_with fail
      go_loopg [13] (i - m) (fun kx vk wr => ∃ (k : Nat) (dk : Array α), vk = .int .i64 k ∧ a ≤ k ∧ k + 1 ≤ i ∧ i - 1 - k ≤ kx ∧ dk.size = d0.size ∧ Aside (SWK enc kk w0 blk off dk wr) ∧ Aside (shR (i - 1 - k) k dk = T))
      case atStart => exact ⟨a, D, rfl, Nat.le_refl _, by have := e1.out; omega, by have := e1.out; omega, hl.out, S1, by show _ = _; rw [show i - 1 - a = i - m by have := e1.out; omega]; exact HT.out⟩
      case round =>
        clear S1 HT
        obtain ⟨k, dk, rfl, h5, h6, hk5, hds, S1, HT⟩ := hrel
        by_cases hlt2 : k + 1 < i
        · have hltz : (k : Int) < (i : Int) - 1 := by omega
          have e1' := e1.out
          have hS' := hS.out
          have rk : IntKind.i64.wrap ((i : Int) - 1) = (i : Int) - 1 := by rw [IntKind.wrap_i64]; omega
          go_wp2_with fail
          have ea : ((k : Int)).toNat = k := by omega
          have pa : (0 : Int) ≤ (k : Int) := by omega
          have ba : (k : Int) < (d0.size : Int) := by omega
          have ra : IntKind.i64.wrap ((k : Int)) = (k : Int) := by rw [IntKind.wrap_i64]; omega
          have ec : ((k : Int) + 1).toNat = k + 1 := by omega
          have pc : (0 : Int) ≤ (k : Int) + 1 := by omega
          have bc : (k : Int) + 1 < (d0.size : Int) := by omega
          have rc : IntKind.i64.wrap ((k : Int) + 1) = (k : Int) + 1 := by rw [IntKind.wrap_i64]; omega
          have S2 : Aside (SWK enc kk w0 blk off (swp dk (k) (k + 1)) ((wr.drew.setCells blk (off + (k) * kk) (enc dk[k + 1]!)).setCells blk (off + (k + 1) * kk) (enc dk[k]!))) := S1.out.swapped R (k) (k + 1) (by omega) (by omega)
          have la := S1.out.ld1 R (by omega) PP (k) (by omega)
          have lb := S1.out.ld1 R (by omega) PP (k + 1) (by omega)
          have sa := S1.out.st1 R (by omega) PP (k) (by omega) dk[k + 1]!
          have sb := S1.out.st2 R (by omega) PP (k) (k + 1) (by omega) (by omega) dk[k + 1]! dk[k]!
          have na : (enc dk[k]!).length = kk := R.hk _
          have nb : (enc dk[k + 1]!).length = kk := R.hk _
          generalize enc dk[k]! = cI at S2 la sb na
          generalize enc dk[k + 1]! = cJ at S2 lb sa sb nb
          clear S1
          go_wp2_with fail
          go_big_region_o
          clear la lb sa sb
          generalize (wr.drew.setCells blk (off + (k) * kk) cJ).setCells blk (off + (k + 1) * kk) cI = w2 at S2 ⊢
          clear na nb ea ec
          clear rk
          go_wp2
          go_roundg (i - 1 - (k + 1))
          case measure => omega
          case rel => exact ⟨k + 1, swp dk k (k + 1), by simp, by omega, by omega, Nat.le_refl _, by rw [size_swp]; exact hds, S2, by show _ = _; rw [← HT.out, show i - 1 - k = (i - 1 - (k + 1)) + 1 by omega, shR]⟩
        · have hltz : ¬ (k : Int) < (i : Int) - 1 := by omega
          have e1' := e1.out
          have hR : Aside (SWK enc kk w0 blk off T wr) := by
            have := HT.out
            rw [show i - 1 - k = 0 by omega, shR] at this
            rw [← this]
            exact S1.out
          go_wp2
          exact bodyPost_ret (v := .tuple #[]) (by simp [results, Try.results47, go_sem]) rfl ⟨rfl, hR.out⟩
set_option maxHeartbeats 4000000 in
set_option maxRecDepth 1000000 in
/-- One behind a row. -/
theorem sym_last (enc : α → List Value) (kk : Nat) (hk5 : kk = 5) (cf : α → α → Int) (g : Nat) (cb : Array Value) (blk off cap : Nat) (O : WO (ltOf cf)) (d0 : Array α) (w0 : World) (R : RowK enc kk w0 blk off d0) (hsz : d0.size ≤ 1000000)
    (eg : ∀ args w, (callFunc g args).run Try.prog w = .ok (.enter g args) w) (hcmp : CmpLays Try.prog g cb enc kk cf blk off d0.size w0)
    (P A Z : List α) (y : α) (hA : 2 ≤ A.length) (sA : Srt (ltOf cf) A) (a m b : Nat) (ha : a = P.length) (hm : m = P.length + A.length) (hb : b = P.length + A.length + 1) (hs : d0.size = (P ++ A ++ y :: Z).length) (w : World) (S : SWK enc kk w0 blk off (P ++ A ++ y :: Z).toArray w) :
    Calls Try.prog 47 #[.slice (some ⟨blk, off, none⟩) d0.size cap, .int .i64 a, .int .i64 m, .int .i64 b, .func (.func g) #[] cb] w fun e w' => e = .returned (.tuple #[]) ∧ SWK enc kk w0 blk off (P ++ mergeS (ltOf cf) A [y] ++ Z).toArray w' := by
  have mixed : Try.prog.follows Departure.mixedOrders = true := by kernel_rfl
  have HC : Aside _ := hcmp
  have hl : Aside ((P ++ A ++ y :: Z).toArray.size = d0.size) := by show _ = _; rw [hs]; simp
  have hS : Aside (b ≤ d0.size ∧ d0.size = P.length + A.length + 1 + Z.length) := by show _ ∧ _; rw [hs]; simp; omega
  have hx : Aside ((P ++ A ++ y :: Z).toArray[m]! = y) := by
    show _ = _
    have := arr_at (P ++ A) Z y
    rw [hm]; rwa [show (P ++ A).length = P.length + A.length by simp] at this
  have hBi : Aside (∀ i, a ≤ i → ∀ h : i - a < A.length, (P ++ A ++ y :: Z).toArray[i]! = A[i - a]) := by
    show ∀ i, _
    intro i h1 h
    have := arr_at2 P A (y :: Z) (i - a) h
    rw [show P.length + (i - a) = i by omega] at this
    rw [← this]
  have S0 : Aside (SWK enc kk w0 blk off (P ++ A ++ y :: Z).toArray w) := S
  have e1 : Aside (a + A.length = m ∧ m + 1 = b ∧ b ≤ 1000000) := by show _ ∧ _; have := hS.out; omega
  have f0 : ((m : Int) - (a : Int) == 1) = false := by rw [beq_eq_false_iff_ne]; omega
  have f1 : (b : Int) - (m : Int) = 1 := by omega
  have hfin : Aside (∀ i, a ≤ i → i ≤ m → (i = a ∨ ∃ k, ∃ h : k < A.length, k + 1 = i - a ∧ ltOf cf y A[k] = false) → (i = m ∨ ∃ h : i - a < A.length, ltOf cf y A[i - a] = true) → shL (m - i) m (P ++ A ++ y :: Z).toArray = (P ++ mergeS (ltOf cf) A [y] ++ Z).toArray) := by
    show ∀ i, _
    intro i h1 h2 h3 h4
    have q1 : ∀ x ∈ A.take (i - a), ltOf cf y x = false := by
      rcases h3 with h | ⟨k, hk, h5, h6⟩
      · rw [h, Nat.sub_self]; intro y hy; simp at hy
      · exact srt_take' O sA y _ k hk h5 h6
    have q2 : ∀ x ∈ A.drop (i - a), ltOf cf y x = true := by
      rcases h4 with h | ⟨h5, h6⟩
      · rw [List.drop_eq_nil_of_le (by omega)]; intro y hy; cases hy
      · exact srt_drop' O sA y _ h5 h6
    have e := merge_last (ltOf cf) y (A.take (i - a)) (A.drop (i - a)) q1 q2
    have e2 := shL_is (A.drop (i - a)) (P ++ A.take (i - a)) Z y
    rw [List.take_append_drop] at e
    rw [e]
    rw [show (A.drop (i - a)).length = m - i by rw [List.length_drop]; omega, show (P ++ A.take (i - a)).length + (m - i) = m by rw [List.length_append, List.length_take]; omega, show P ++ A.take (i - a) ++ A.drop (i - a) ++ y :: Z = P ++ A ++ y :: Z by rw [List.append_assoc P, List.take_append_drop]] at e2
    rw [e2]; simp
  obtain ⟨D, hD⟩ : ∃ D, D = (P ++ A ++ y :: Z).toArray := ⟨_, rfl⟩
  obtain ⟨T, hTT⟩ : ∃ T, T = (P ++ mergeS (ltOf cf) A [y] ++ Z).toArray := ⟨_, rfl⟩
  rw [← hD] at S0 hl hx hBi hfin
  rw [← hTT] at hfin ⊢
  have hz : (a : Int) < 1000000 ∧ (m : Int) < 1000000 ∧ (b : Int) ≤ 1000000 := by have := e1.out; omega
  clear S hs hcmp ha hm hb hD hTT hA
  have t0 := Try.underlying0; have a0 := Try.isAgg0; have z0 := Try.sizeOf0; have v0 := Try.zeroValue0
  have t3 := Try.underlying3; have a3 := Try.isAgg3; have z3 := Try.sizeOf3; have v3 := Try.zeroValue3
  have t4 := Try.underlying4; have a4 := Try.isAgg4; have z4 := Try.sizeOf4; have v4 := Try.zeroValue4
  have t22 := Try.underlying29; have a22 := Try.isAgg29; have z22 := Try.sizeOf29; have v22 := Try.zeroValue29
  have t25 := Try.underlying56; have a25 := Try.isAgg56; have z25 := Try.sizeOf56; have v25 := Try.zeroValue56
  have t9 := Try.underlying83; have a9 := Try.isAgg83; have z9 := Try.sizeOf83; have v9 := Try.zeroValue83
  have eNr : ∀ args w, (callFunc 49 args).run Try.prog w = .ok (.enter 49 args) w := enters_of Try.func49 (by kernel_rfl) rfl
  have eNs : ∀ args w, (callFunc 47 args).run Try.prog w = .ok (.enter 47 args) w := enters_of Try.func47 (by kernel_rfl) rfl
  have aE := Try.isAgg35
  have zE : ∀ w, Sem.run Try.prog (Go.sizeOf 35) w = .ok kk w := by rw [hk5]; exact Try.sizeOf35
  have u22 := run_underlying Try.underlying29
  have FG := Try.func47
  clear hk5
  generalize Try.prog = PP at *
  go_enter FG, Try.ntmps47
  go_wp2
  go_loopg [14, 15] (m - a) (fun kx vi vj wr => ∃ (i j : Nat), vi = .int .i64 i ∧ vj = .int .i64 j ∧ a ≤ i ∧ i ≤ j ∧ j ≤ m ∧ j - i ≤ kx ∧ Aside (i = a ∨ ∃ k, ∃ h : k < A.length, k + 1 = i - a ∧ ltOf cf y A[k] = false) ∧ Aside (j = m ∨ ∃ h : j - a < A.length, ltOf cf y A[j - a] = true) ∧ Aside (SWK enc kk w0 blk off D wr))
  case atStart => exact ⟨a, m, rfl, rfl, Nat.le_refl _, by have := e1.out; omega, Nat.le_refl _, Nat.le_refl _, .inl rfl, .inl rfl, S0⟩
  case round =>
    clear S0
    obtain ⟨i, j, rfl, rfl, h1, h2, h3, hk, HI, HJ, S1⟩ := hrel
    by_cases hlt : i < j
    · have hltz : (i : Int) < (j : Int) := by omega
      go_wp2_with fail
      obtain ⟨h, hh⟩ : ∃ h : Nat, h = (i + j) / 2 := ⟨_, rfl⟩
      have eh : ((i : Int) + (j : Int)) / 2 = (h : Int) := by omega
      rw [eh]
      have hb1 : i ≤ h ∧ h < j := by omega
      have e1' := e1.out
      have hS' := hS.out
      have hyb : h - a < A.length := by omega
      have l1 := S1.out.ld R hl.out PP h (by rw [hl.out]; omega)
      have l2 := S1.out.ld R hl.out PP m (by rw [hl.out]; omega)
      rw [hBi.out h (by omega) hyb] at l1
      rw [hx.out] at l2
      obtain ⟨x, hy⟩ : ∃ x, x = A[h - a] := ⟨_, rfl⟩
      rw [← hy] at l1
      have hc := S1.out.cmp HC.out hl.out y x
      have bh : (h : Int) < (d0.size : Int) := by omega
      have ba : (m : Int) < (d0.size : Int) := by omega
      have ph : (0 : Int) ≤ (h : Int) := by omega
      have pa : (0 : Int) ≤ (m : Int) := by omega
      have hz2 : (h : Int) ≤ 1000000 := by omega
      have HY := Lib.hid hy
      have H1 := Lib.hid hb1
      clear hy hb1 hh eh hS' e1' f1 f0 hltz
      cases hlv : (ltOf cf) y x with
      | false =>
        have hv : ¬ cf y x < 0 := of_decide_eq_false hlv
        have hd : decide (cf y x < 0) = false := decide_eq_false hv
        go_quiet_grown (first | (go_at_fn g; refine Calls.grown_of (hc _ _)))
        have S2 : Aside (SWK enc kk w0 blk off D (grow (wr.drewN nq) osq)) := S1.out.grown nq osq
        clear l1 l2 hc S1
        generalize grow (wr.drewN nq) osq = w2 at S2 ⊢
        clear nq osq
        go_wp2
        go_roundg (j - (h + 1))
        case measure => have := H1.out; omega
        case rel => exact ⟨h + 1, j, by simp, rfl, by have := H1.out; omega, by have := H1.out; omega, h3, Nat.le_refl _, .inr ⟨h - a, hyb, by have := H1.out; omega, by rw [← HY.out]; exact hlv⟩, HJ, S2⟩
      | true =>
        have hv : cf y x < 0 := of_decide_eq_true hlv
        have hd : decide (cf y x < 0) = true := decide_eq_true hv
        go_quiet_grown (first | (go_at_fn g; refine Calls.grown_of (hc _ _)))
        have S2 : Aside (SWK enc kk w0 blk off D (grow (wr.drewN nq) osq)) := S1.out.grown nq osq
        clear l1 l2 hc S1
        generalize grow (wr.drewN nq) osq = w2 at S2 ⊢
        clear nq osq
        go_wp2
        go_roundg (h - i)
        case measure => have := H1.out; omega
        case rel => exact ⟨i, h, rfl, rfl, h1, by have := H1.out; omega, by have := H1.out; omega, Nat.le_refl _, HI, .inr ⟨hyb, by rw [← HY.out]; exact hlv⟩, S2⟩
    · obtain rfl : i = j := by omega
      have hT := hfin.out i h1 h3 HI.out HJ.out
      have HT : Aside _ := hT
      clear hfin hT HI HJ hBi hx
      go_wp2_with fail
      go_loopg [17] (m - i) (fun kx vk wr => ∃ (k : Nat) (dk : Array α), vk = .int .i64 k ∧ i ≤ k ∧ k ≤ m ∧ k - i ≤ kx ∧ dk.size = d0.size ∧ Aside (SWK enc kk w0 blk off dk wr) ∧ Aside (shL (k - i) k dk = T))
      case atStart => exact ⟨m, D, rfl, h3, Nat.le_refl _, Nat.le_refl _, hl.out, S1, HT⟩
      case round =>
        clear S1 HT
        obtain ⟨k, dk, rfl, h5, h6, hk5, hds, S1, HT⟩ := hrel
        by_cases hlt2 : i < k
        · have hltz : (i : Int) < (k : Int) := by omega
          have e1' := e1.out
          have hS' := hS.out
          go_wp2_with fail
          have ea : ((k : Int)).toNat = k := by omega
          have pa : (0 : Int) ≤ (k : Int) := by omega
          have ba : (k : Int) < (d0.size : Int) := by omega
          have ra : IntKind.i64.wrap ((k : Int)) = (k : Int) := by rw [IntKind.wrap_i64]; omega
          have ec : ((k : Int) - 1).toNat = k - 1 := by omega
          have pc : (0 : Int) ≤ (k : Int) - 1 := by omega
          have bc : (k : Int) - 1 < (d0.size : Int) := by omega
          have rc : IntKind.i64.wrap ((k : Int) - 1) = (k : Int) - 1 := by rw [IntKind.wrap_i64]; omega
          have S2 : Aside (SWK enc kk w0 blk off (swp dk (k) (k - 1)) ((wr.drew.setCells blk (off + (k) * kk) (enc dk[k - 1]!)).setCells blk (off + (k - 1) * kk) (enc dk[k]!))) := S1.out.swapped R (k) (k - 1) (by omega) (by omega)
          have la := S1.out.ld1 R (by omega) PP (k) (by omega)
          have lb := S1.out.ld1 R (by omega) PP (k - 1) (by omega)
          have sa := S1.out.st1 R (by omega) PP (k) (by omega) dk[k - 1]!
          have sb := S1.out.st2 R (by omega) PP (k) (k - 1) (by omega) (by omega) dk[k - 1]! dk[k]!
          have na : (enc dk[k]!).length = kk := R.hk _
          have nb : (enc dk[k - 1]!).length = kk := R.hk _
          generalize enc dk[k]! = cI at S2 la sb na
          generalize enc dk[k - 1]! = cJ at S2 lb sa sb nb
          clear S1
          go_wp2_with fail
          go_big_region_o
          clear la lb sa sb
          generalize (wr.drew.setCells blk (off + (k) * kk) cJ).setCells blk (off + (k - 1) * kk) cI = w2 at S2 ⊢
          clear na nb ea ec
          go_wp2
          go_roundg (k - 1 - i)
          case measure => omega
          case rel => exact ⟨k - 1, swp dk k (k - 1), by first | rfl | go_num | (congr 1; omega), by omega, by omega, Nat.le_refl _, by rw [size_swp]; exact hds, S2, by show _ = _; rw [← HT.out, show k - i = (k - 1 - i) + 1 by omega, shL]⟩
        · have hltz : ¬ (i : Int) < (k : Int) := by omega
          have hR : Aside (SWK enc kk w0 blk off T wr) := by
            have := HT.out
            rw [show k - i = 0 by omega, shL] at this
            rw [← this]
            exact S1.out
          go_wp2
          exact bodyPost_ret (v := .tuple #[]) (by simp [results, Try.results47, go_sem]) rfl ⟨rfl, hR.out⟩
end Go.Proofs.Ytadjadakncidgaa.St

/- slices.symMergeCmpFunc at elements of five cells, walked: the whole of it. -/
set_option linter.unusedVariables false
set_option linter.unusedSimpArgs false
namespace Go.Proofs.Ytadjadakncidgaa.St
open Go Go.RowKit Go.Lib Go.Sort Go.Shelf Go.Proofs.YtadjadakncidgaaW.PrintWords Go.Proofs.YtadjadakncidgaaW.PrintMore Go.Proofs.Ytadjadakncidgaa.RL Go.Proofs.Ytadjadakncidgaa.PL
/-- What the search finds. -/
theorem sym_cut {α : Type} {lt : α → α → Bool} (O : WO lt) {A B : List α} (sA : Srt lt A) (sB : Srt lt B) (u v : Nat) (hu : u ≤ A.length) (hv : v ≤ B.length)
    (h1 : u = 0 ∨ v = B.length ∨ ∃ hA : u - 1 < A.length, ∃ hB : v < B.length, 0 < u ∧ lt B[v] A[u - 1] = false)
    (h2 : u = A.length ∨ v = 0 ∨ ∃ hA : u < A.length, ∃ hB : v - 1 < B.length, 0 < v ∧ lt B[v - 1] A[u] = true) :
    mergeS lt A B = mergeS lt (A.take u) (B.take v) ++ mergeS lt (A.drop u) (B.drop v) := by
  have e := merge_split lt (A.take u) (A.drop u) (B.take v) (B.drop v) ?_ ?_ ?_
  · rw [List.take_append_drop, List.take_append_drop] at e; exact e
  · rcases h2 with h | h | ⟨hA, hB, h0, h⟩
    · rw [List.drop_eq_nil_of_le (by omega)]; intro b hb y hy; cases hy
    · rw [h]; intro b hb; simp at hb
    · intro b hb y hy
      have q := srt_take O sB A[u] v (v - 1) hB (by omega) h b hb
      obtain ⟨t, ht, rfl⟩ := List.getElem_of_mem hy
      rw [List.length_drop] at ht
      rw [List.getElem_drop]
      by_cases e : t = 0
      · subst e; exact q
      · exact O.pos q (List.pairwise_iff_getElem.1 sA u (u + t) hA (by omega) (by omega))
  · rcases h1 with h | h | ⟨hA, hB, h0, h⟩
    · rw [h]; intro b hb x hx; simp at hx
    · rw [List.drop_eq_nil_of_le (by omega)]; intro b hb; cases hb
    · intro b hb x hx
      have q := srt_drop O sB A[u - 1] v hB h b hb
      obtain ⟨t, ht, rfl⟩ := List.getElem_of_mem hx
      rw [List.length_take] at ht
      rw [List.getElem_take]
      by_cases e : t = u - 1
      · subst e; exact q
      · exact O.neg A[t] A[u - 1] b (List.pairwise_iff_getElem.1 sA t (u - 1) (by omega) hA (by omega)) q
  · intro b hb x hx
    have := List.pairwise_append.1 (show Srt lt (B.take v ++ B.drop v) by rw [List.take_append_drop]; exact sB)
    exact this.2.2 x hx b hb
theorem srt_tk {α : Type} {lt : α → α → Bool} {B : List α} (sB : Srt lt B) (v : Nat) : Srt lt (B.take v) ∧ Srt lt (B.drop v) := by
  have := List.pairwise_append.1 (show Srt lt (B.take v ++ B.drop v) by rw [List.take_append_drop]; exact sB)
  exact ⟨this.1, this.2.1⟩
variable {α : Type} [Inhabited α]
/-- What a merge gives. -/
def SymOk (enc : α → List Value) (kk : Nat) (cf : α → α → Int) (g : Nat) (cb : Array Value) (blk off cap : Nat) (d0 : Array α) (w0 : World) (K : Nat) : Prop :=
  ∀ (P A B Z : List α) (a m b : Nat) (w : World), A.length + B.length ≤ K → 0 < A.length → 0 < B.length → Srt (ltOf cf) A → Srt (ltOf cf) B → a = P.length → m = P.length + A.length → b = P.length + A.length + B.length → d0.size = (P ++ A ++ B ++ Z).length → SWK enc kk w0 blk off (P ++ A ++ B ++ Z).toArray w →
    Calls Try.prog 47 #[.slice (some ⟨blk, off, none⟩) d0.size cap, .int .i64 a, .int .i64 m, .int .i64 b, .func (.func g) #[] cb] w fun e w' => e = .returned (.tuple #[]) ∧ Aside (SWK enc kk w0 blk off (P ++ mergeS (ltOf cf) A B ++ Z).toArray w')
set_option maxHeartbeats 16000000 in
set_option maxRecDepth 1000000 in
theorem sym_step (enc : α → List Value) (kk : Nat) (hk5 : kk = 5) (cf : α → α → Int) (g : Nat) (cb : Array Value) (blk off cap : Nat) (O : WO (ltOf cf)) (d0 : Array α) (w0 : World) (R : RowK enc kk w0 blk off d0) (hsz : d0.size ≤ 1000000)
    (eg : ∀ args w, (callFunc g args).run Try.prog w = .ok (.enter g args) w) (hcmp : CmpLays Try.prog g cb enc kk cf blk off d0.size w0)
    (K : Nat) (IH : SymOk enc kk cf g cb blk off cap d0 w0 K)
    (P A B Z : List α) (a m b : Nat) (w : World) (hK : A.length + B.length ≤ K + 1) (hA : 2 ≤ A.length) (hB : 2 ≤ B.length) (sA : Srt (ltOf cf) A) (sB : Srt (ltOf cf) B) (ha : a = P.length) (hm : m = P.length + A.length) (hb : b = P.length + A.length + B.length) (hs : d0.size = (P ++ A ++ B ++ Z).length) (S : SWK enc kk w0 blk off (P ++ A ++ B ++ Z).toArray w) :
    Calls Try.prog 47 #[.slice (some ⟨blk, off, none⟩) d0.size cap, .int .i64 a, .int .i64 m, .int .i64 b, .func (.func g) #[] cb] w fun e w' => e = .returned (.tuple #[]) ∧ SWK enc kk w0 blk off (P ++ mergeS (ltOf cf) A B ++ Z).toArray w' := by
  have mixed : Try.prog.follows Departure.mixedOrders = true := by kernel_rfl
  have HC : Aside _ := hcmp
  have hl : Aside ((P ++ A ++ B ++ Z).toArray.size = d0.size) := by show _ = _; rw [hs]; simp
  have hS : Aside (b ≤ d0.size ∧ d0.size = P.length + A.length + B.length + Z.length) := by show _ ∧ _; rw [hs]; simp; omega
  have hAi : Aside (∀ i, a ≤ i → ∀ h : i - a < A.length, (P ++ A ++ B ++ Z).toArray[i]! = A[i - a]) := by
    show ∀ i, _
    intro i h1 h
    have := arr_at2 P A (B ++ Z) (i - a) h
    rw [show P.length + (i - a) = i by omega] at this
    rw [← this, List.append_assoc (P ++ A)]
  have hBi : Aside (∀ i, m ≤ i → ∀ h : i - m < B.length, (P ++ A ++ B ++ Z).toArray[i]! = B[i - m]) := by
    show ∀ i, _
    intro i h1 h
    have := arr_at2 (P ++ A) B Z (i - m) h
    rw [show (P ++ A).length + (i - m) = i by simp; omega] at this
    exact this
  obtain ⟨mid, hmid⟩ : ∃ x : Nat, x = (a + b) / 2 := ⟨_, rfl⟩
  obtain ⟨n, hn⟩ : ∃ x : Nat, x = mid + m := ⟨_, rfl⟩
  obtain ⟨p, hp⟩ : ∃ x : Nat, x + 1 = n := ⟨n - 1, by omega⟩
  have e1 : Aside (a + A.length = m ∧ m + B.length = b ∧ b ≤ 1000000 ∧ mid = (a + b) / 2 ∧ n = mid + m ∧ p + 1 = n ∧ b ≤ d0.size) := by show _ ∧ _; have := hS.out; omega
  -- the rest, once start is known
  have hrest : Aside (∀ s, a ≤ s → s ≤ m → s ≤ mid → mid - s ≤ B.length →
      (s = a ∨ mid - s = B.length ∨ ∃ hA : s - 1 - a < A.length, ∃ hB : mid - s < B.length, a < s ∧ ltOf cf B[mid - s] A[s - 1 - a] = false) →
      (s = m ∨ mid - s = 0 ∨ ∃ hA : s - a < A.length, ∃ hB : mid - 1 - s < B.length, s < mid ∧ ltOf cf B[mid - 1 - s] A[s - a] = true) →
      ∃ D1 D2 : Array α,
        (s < m → s < mid → ∀ w, Aside (SWK enc kk w0 blk off (P ++ A ++ B ++ Z).toArray w) → Calls Try.prog 49 #[.slice (some ⟨blk, off, none⟩) d0.size cap, .int .i64 s, .int .i64 m, .int .i64 ((n : Int) - (s : Int)), .func (.func g) #[] cb] w fun e w' => e = .returned (.tuple #[]) ∧ Aside (SWK enc kk w0 blk off D1 w')) ∧
        (¬ (s < m ∧ s < mid) → ∀ w, Aside (SWK enc kk w0 blk off (P ++ A ++ B ++ Z).toArray w) → Aside (SWK enc kk w0 blk off D1 w)) ∧
        (a < s → s < mid → ∀ w, Aside (SWK enc kk w0 blk off D1 w) → Calls Try.prog 47 #[.slice (some ⟨blk, off, none⟩) d0.size cap, .int .i64 a, .int .i64 s, .int .i64 mid, .func (.func g) #[] cb] w fun e w' => e = .returned (.tuple #[]) ∧ Aside (SWK enc kk w0 blk off D2 w')) ∧
        (¬ (a < s ∧ s < mid) → ∀ w, Aside (SWK enc kk w0 blk off D1 w) → Aside (SWK enc kk w0 blk off D2 w)) ∧
        (s < m → n - s < b → ∀ w, Aside (SWK enc kk w0 blk off D2 w) → Calls Try.prog 47 #[.slice (some ⟨blk, off, none⟩) d0.size cap, .int .i64 mid, .int .i64 ((n : Int) - (s : Int)), .int .i64 b, .func (.func g) #[] cb] w fun e w' => e = .returned (.tuple #[]) ∧ Aside (SWK enc kk w0 blk off (P ++ mergeS (ltOf cf) A B ++ Z).toArray w')) ∧
        (¬ (s < m ∧ n - s < b) → ∀ w, Aside (SWK enc kk w0 blk off D2 w) → Aside (SWK enc kk w0 blk off (P ++ mergeS (ltOf cf) A B ++ Z).toArray w))) := by
    show ∀ s, _
    intro s h1 h2 h3 h4 h5 h6
    have hcut := sym_cut O sA sB (s - a) (mid - s) (by omega) h4 (by
      rcases h5 with h | h | ⟨x1, x2, x3, x4⟩
      · exact .inl (by omega)
      · exact .inr (.inl h)
      · exact .inr (.inr ⟨by omega, x2, by omega, by rw [← x4]; congr 2; omega⟩)) (by
      rcases h6 with h | h | ⟨x1, x2, x3, x4⟩
      · exact .inl (by omega)
      · exact .inr (.inl h)
      · exact .inr (.inr ⟨x1, by omega, by omega, by rw [← x4]; congr 2; omega⟩))
    have eA : A.take (s - a) ++ A.drop (s - a) = A := List.take_append_drop _ _
    have eB : B.take (mid - s) ++ B.drop (mid - s) = B := List.take_append_drop _ _
    have lA1 : (A.take (s - a)).length = s - a := by rw [List.length_take]; omega
    have lA2 : (A.drop (s - a)).length = m - s := by rw [List.length_drop]; omega
    have lB1 : (B.take (mid - s)).length = mid - s := by rw [List.length_take]; omega
    have lB2 : (B.drop (mid - s)).length = b - (n - s) := by rw [List.length_drop]; omega
    have sA1 := (srt_tk sA (s - a)).1
    have sA2 := (srt_tk sA (s - a)).2
    have sB1 := (srt_tk sB (mid - s)).1
    have sB2 := (srt_tk sB (mid - s)).2
    generalize A.take (s - a) = A1 at *
    generalize A.drop (s - a) = A2 at *
    generalize B.take (mid - s) = B1 at *
    generalize B.drop (mid - s) = B2 at *
    have hln := hS.out.2
    have lM1 := mergeS_length (ltOf cf) A1 B1
    have lM2 := mergeS_length (ltOf cf) A2 B2
    rw [hcut]
    have eD : (P ++ A ++ B ++ Z) = P ++ A1 ++ A2 ++ (B1 ++ (B2 ++ Z)) := by rw [← eA, ← eB]; simp
    rw [eD]
    refine ⟨(P ++ A1 ++ B1 ++ (A2 ++ (B2 ++ Z))).toArray, (P ++ mergeS (ltOf cf) A1 B1 ++ (A2 ++ (B2 ++ Z))).toArray, ?_, ?_, ?_, ?_, ?_, ?_⟩
    · intro c1 c2 w S
      have := rotate_s enc kk hk5 g cb blk off cap (s : Int) (m : Int) ((n : Int) - (s : Int)) d0 (P ++ A1) A2 B1 (B2 ++ Z) (by omega) (by omega) w0 w R hsz (by rw [hs, ← eA, ← eB]; simp) (by simpa using S.out) (by simp; omega) (by simp; omega) (by simp; omega)
      refine this.mono ?_
      rintro e w' ⟨he, hw⟩
      exact ⟨he, by show SWK _ _ _ _ _ _ _; simpa using hw⟩
    · intro hno w S
      show SWK _ _ _ _ _ _ _
      have S := S.out
      rcases Nat.eq_zero_or_pos B1.length with h | h
      · obtain rfl : B1 = [] := List.length_eq_zero_iff.1 h
        simpa using S
      · obtain rfl : A2 = [] := List.length_eq_zero_iff.1 (by omega)
        simpa using S
    · intro c1 c2 w S
      exact IH P A1 B1 (A2 ++ (B2 ++ Z)) a s mid w (by omega) (by omega) (by omega) sA1 sB1 ha (by omega) (by omega) (by rw [hs, ← eA, ← eB]; simp; omega) S.out
    · intro hno w S
      show SWK _ _ _ _ _ _ _
      have S := S.out
      rcases Nat.eq_zero_or_pos B1.length with h | h
      · obtain rfl : B1 = [] := List.length_eq_zero_iff.1 h
        rw [mergeS_nil]; simpa using S
      · obtain rfl : A1 = [] := List.length_eq_zero_iff.1 (by omega)
        rw [mergeS_none (ltOf cf) B1 sB1]; simpa using S
    · intro c1 c2 w S
      have := IH (P ++ mergeS (ltOf cf) A1 B1) A2 B2 Z mid (n - s) b w (by omega) (by omega) (by omega) sA2 sB2 (by simp; omega) (by simp; omega) (by simp; omega) (by rw [hs, ← eA, ← eB]; simp; omega) (by simpa using S.out)
      rw [show ((n - s : Nat) : Int) = (n : Int) - (s : Int) by omega] at this
      simpa using this
    · intro hno w S
      show SWK _ _ _ _ _ _ _
      have S := S.out
      rcases Nat.eq_zero_or_pos A2.length with h | h
      · obtain rfl : A2 = [] := List.length_eq_zero_iff.1 h
        rw [mergeS_none (ltOf cf) B2 sB2]; simpa using S
      · obtain rfl : B2 = [] := List.length_eq_zero_iff.1 (by omega)
        rw [mergeS_nil]; simpa using S
  have S0 : Aside (SWK enc kk w0 blk off (P ++ A ++ B ++ Z).toArray w) := S
  obtain ⟨D, hD⟩ : ∃ D, D = (P ++ A ++ B ++ Z).toArray := ⟨_, rfl⟩
  obtain ⟨T, hTT⟩ : ∃ T, T = (P ++ mergeS (ltOf cf) A B ++ Z).toArray := ⟨_, rfl⟩
  rw [← hD] at S0 hl hAi hBi hrest
  rw [← hTT] at hrest ⊢
  have f0 : ((m : Int) - (a : Int) == 1) = false := by rw [beq_eq_false_iff_ne]; omega
  have f1 : ((b : Int) - (m : Int) == 1) = false := by rw [beq_eq_false_iff_ne]; omega
  have eh : ((a : Int) + (b : Int)) / 2 = (mid : Int) := by omega
  have en : (mid : Int) + (m : Int) = (n : Int) := by omega
  have ep : (n : Int) - 1 = (p : Int) := by omega
  have hz : (a : Int) < 1000000 ∧ (m : Int) < 1000000 ∧ (b : Int) ≤ 1000000 ∧ (mid : Int) ≤ 1000000 ∧ (n : Int) ≤ 2000000 ∧ (p : Int) ≤ 2000000 := by have := e1.out; omega
  clear S hs hcmp ha hm hb hD hTT hA hB hK hmid hn hp IH
  by_cases hmm : mid < m
  · have hz9 : (mid : Int) < (m : Int) := by omega
    obtain ⟨s0, hs0⟩ : ∃ x : Nat, x = n - b := ⟨_, rfl⟩
    obtain ⟨r0, hr0⟩ : ∃ x : Nat, x = mid := ⟨_, rfl⟩
    have e2 : Aside (a ≤ s0 ∧ s0 ≤ r0 ∧ r0 ≤ m ∧ r0 ≤ mid ∧ mid - s0 ≤ B.length ∧ (s0 = a ∨ mid - s0 = B.length) ∧ (r0 = m ∨ r0 = mid)) := by show _ ∧ _; have := e1.out; omega
    have es : (n : Int) - (b : Int) = (s0 : Int) := by have := e1.out; omega
    have t0 := Try.underlying0; have a0 := Try.isAgg0; have z0 := Try.sizeOf0; have v0 := Try.zeroValue0
    have t3 := Try.underlying3; have a3 := Try.isAgg3; have z3 := Try.sizeOf3; have v3 := Try.zeroValue3
    have t4 := Try.underlying4; have a4 := Try.isAgg4; have z4 := Try.sizeOf4; have v4 := Try.zeroValue4
    have t22 := Try.underlying29; have a22 := Try.isAgg29; have z22 := Try.sizeOf29; have v22 := Try.zeroValue29
    have t25 := Try.underlying56; have a25 := Try.isAgg56; have z25 := Try.sizeOf56; have v25 := Try.zeroValue56
    have t9 := Try.underlying83; have a9 := Try.isAgg83; have z9 := Try.sizeOf83; have v9 := Try.zeroValue83
    have eNr : ∀ args w, (callFunc 49 args).run Try.prog w = .ok (.enter 49 args) w := enters_of Try.func49 (by kernel_rfl) rfl
    have eNs : ∀ args w, (callFunc 47 args).run Try.prog w = .ok (.enter 47 args) w := enters_of Try.func47 (by kernel_rfl) rfl
    have aE := Try.isAgg35
    have zE : ∀ w, Sem.run Try.prog (Go.sizeOf 35) w = .ok kk w := by rw [hk5]; exact Try.sizeOf35
    have u22 := run_underlying Try.underlying29
    have FG := Try.func47
    clear hk5
    generalize Try.prog = PP at *
    go_enter FG, Try.ntmps47
    go_wp2
    go_loopg [20, 21] (r0 - s0) (fun kx vi vj wr => ∃ (s r : Nat), vi = .int .i64 s ∧ vj = .int .i64 r ∧ s0 ≤ s ∧ s ≤ r ∧ r ≤ r0 ∧ r - s ≤ kx ∧ Aside (s = s0 ∨ ∃ hA : s - 1 - a < A.length, ∃ hB : mid - s < B.length, a < s ∧ ltOf cf B[mid - s] A[s - 1 - a] = false) ∧ Aside (r = r0 ∨ ∃ hA : r - a < A.length, ∃ hB : mid - 1 - r < B.length, r < mid ∧ ltOf cf B[mid - 1 - r] A[r - a] = true) ∧ Aside (SWK enc kk w0 blk off D wr))
    case atStart => exact ⟨s0, r0, by rw [hs0], by rw [hr0], Nat.le_refl _, e2.out.2.1, Nat.le_refl _, Nat.le_refl _, .inl rfl, .inl rfl, S0⟩
    case round =>
      clear S0 es hz9 hs0 hr0
      obtain ⟨s, r, rfl, rfl, h1, h2, h3, hk, HI, HJ, S1⟩ := hrel
      have e1' := e1.out
      have e2' := e2.out
      by_cases hlt : s < r
      · have hltz : (s : Int) < (r : Int) := by omega
        obtain ⟨c, hc0⟩ : ∃ c : Nat, c = (s + r) / 2 := ⟨_, rfl⟩
        have ec : ((s : Int) + (r : Int)) / 2 = (c : Int) := by omega
        obtain ⟨q, hq0⟩ : ∃ q : Nat, q + c = p := ⟨p - c, by omega⟩
        have eq : ((p : Int) - (c : Int)).toNat = q := by omega
        have eqn : p - c = q := by omega
        have pa2 : (c : Int) ≤ (p : Int) := by omega
        have rq : IntKind.i64.wrap ((p : Int) - (c : Int)) = (p : Int) - (c : Int) := by rw [IntKind.wrap_i64]; omega
        have hb1 : s ≤ c ∧ c < r := by omega
        have hca : c - a < A.length := by omega
        have hqb : q - m < B.length := by omega
        have hz1 : (s : Int) ≤ 1000000 ∧ (r : Int) ≤ 1000000 ∧ (c : Int) ≤ 1000000 := by omega
        have l1 := S1.out.ld R hl.out PP q (by rw [hl.out]; omega)
        have l2 := S1.out.ld R hl.out PP c (by rw [hl.out]; omega)
        rw [hBi.out q (by omega) hqb] at l1
        rw [hAi.out c (by omega) hca] at l2
        obtain ⟨x, hx⟩ : ∃ x, x = A[c - a] := ⟨_, rfl⟩
        obtain ⟨y, hy⟩ : ∃ y, y = B[q - m] := ⟨_, rfl⟩
        rw [← hy] at l1
        rw [← hx] at l2
        have hc := S1.out.cmp HC.out hl.out y x
        have bh : (c : Int) < (d0.size : Int) := by omega
        have ba : (p : Int) - (c : Int) < (d0.size : Int) := by omega
        have ph : (0 : Int) ≤ (c : Int) := by omega
        have pa : (0 : Int) ≤ (p : Int) - (c : Int) := by omega
        have HX := Lib.hid hx
        have HY := Lib.hid hy
        have H1 := Lib.hid (And.intro hb1 (And.intro hq0 (And.intro h1 (And.intro h2 h3))))
        have hrt : Hid (ltOf cf y x = true → ∃ hA : c - a < A.length, ∃ hB : mid - 1 - c < B.length, c < mid ∧ ltOf cf B[mid - 1 - c] A[c - a] = true) := Lib.hid (fun h => ⟨hca, by omega, by omega, by rw [← h, HX.out, HY.out]; congr 2; omega⟩)
        have hrf : Hid (ltOf cf y x = false → ∃ hA : c + 1 - 1 - a < A.length, ∃ hB : mid - (c + 1) < B.length, a < c + 1 ∧ ltOf cf B[mid - (c + 1)] A[c + 1 - 1 - a] = false) := Lib.hid (fun h => ⟨by omega, by omega, by omega, by rw [← h, HX.out, HY.out]; congr 2; omega⟩)
        clear hx hy hb1 hc0 hq0 e1' e2' h1 h2 h3
        go_wp2_with fail
        cases hlv : (ltOf cf) y x with
        | false =>
          have hv : ¬ cf y x < 0 := of_decide_eq_false hlv
          have hd : decide (cf y x < 0) = false := decide_eq_false hv
          go_quiet_grown (first | (go_at_fn g; refine Calls.grown_of (hc _ _)))
          have S2 : Aside (SWK enc kk w0 blk off D (grow (wr.drewN nq) osq)) := S1.out.grown nq osq
          clear l1 l2 hc S1
          generalize grow (wr.drewN nq) osq = w2 at S2 ⊢
          clear nq osq
          go_wp2
          go_roundg (r - (c + 1))
          case measure => have := H1.out; omega
          case rel => exact ⟨c + 1, r, by simp, rfl, by have := H1.out; omega, by have := H1.out; omega, by have := H1.out; omega, Nat.le_refl _, .inr (hrf.out hlv), HJ, S2⟩
        | true =>
          have hv : cf y x < 0 := of_decide_eq_true hlv
          have hd : decide (cf y x < 0) = true := decide_eq_true hv
          go_quiet_grown (first | (go_at_fn g; refine Calls.grown_of (hc _ _)))
          have S2 : Aside (SWK enc kk w0 blk off D (grow (wr.drewN nq) osq)) := S1.out.grown nq osq
          clear l1 l2 hc S1
          generalize grow (wr.drewN nq) osq = w2 at S2 ⊢
          clear nq osq
          go_wp2
          go_roundg (c - s)
          case measure => have := H1.out; omega
          case rel => exact ⟨s, c, rfl, rfl, by have := H1.out; omega, by have := H1.out; omega, by have := H1.out; omega, Nat.le_refl _, HI, .inr (hrt.out hlv), S2⟩
      · obtain rfl : s = r := by omega
        have hr := hrest.out s (by omega) (by omega) (by omega) (by omega) (by
          rcases HI.out with h | h
          · rcases e2'.2.2.2.2.2.1 with h' | h'
            · exact .inl (by omega)
            · exact .inr (.inl (by rw [h]; exact h'))
          · exact .inr (.inr h)) (by
          rcases HJ.out with h | h
          · rcases e2'.2.2.2.2.2.2 with h' | h'
            · exact .inl (by omega)
            · exact .inr (.inl (by omega))
          · exact .inr (.inr h))
        obtain ⟨D1, D2, H1, N1, H2, N2, H3, N3⟩ := hr
        have H1 := Lib.hid H1; have N1 := Lib.hid N1; have H2 := Lib.hid H2; have N2 := Lib.hid N2; have H3 := Lib.hid H3; have N3 := Lib.hid N3
        have hns : s ≤ n := by omega
        have hz1 : (s : Int) ≤ 1000000 ∧ (s : Int) ≤ (n : Int) ∧ (s : Int) ≤ (m : Int) ∧ (s : Int) ≤ (mid : Int) ∧ (n : Int) - (s : Int) ≤ (b : Int) ∧ (a : Int) ≤ (s : Int) := by omega
        have hnm : n = mid + m := by omega
        clear hrest HI HJ e2' hAi hBi
        by_cases ca : s < m
        · by_cases cb : s < mid
          · by_cases cc : a < s
            · by_cases cd : n - s < b
              · first
                | (exfalso; omega)
                | skip
                  have g0 : (s : Int) < (m : Int) ∧ (mid : Int) < (n : Int) - (s : Int) := by omega
                  have g1 : (s : Int) < (mid : Int) ∧ (m : Int) < (n : Int) - (s : Int) := by omega
                  have g2 : (a : Int) < (s : Int) := by omega
                  have g3 : (n : Int) - (s : Int) < (b : Int) := by omega
                  clear hns hnm e1' h1 h2 h3 hk
                  go_wp2_with (first | (go_at_call 49; (with_reducible refine (H1.out (by omega) (by omega) _ S1).mono ?_); rintro e w2 ⟨rfl, T1⟩) | (go_at_call 47; (with_reducible refine (H2.out (by omega) (by omega) _ T1).mono ?_); rintro e w3 ⟨rfl, T2⟩) | (go_at_call 47; (with_reducible refine (H3.out (by omega) (by omega) _ T2).mono ?_); rintro e w4 ⟨rfl, T3⟩))
                  go_end0
                  exact ⟨rfl, T3.out⟩
              · first
                | (exfalso; omega)
                | skip
                  have g0 : (s : Int) < (m : Int) ∧ (mid : Int) < (n : Int) - (s : Int) := by omega
                  have g1 : (s : Int) < (mid : Int) ∧ (m : Int) < (n : Int) - (s : Int) := by omega
                  have g2 : (a : Int) < (s : Int) := by omega
                  have g3 : ¬ (n : Int) - (s : Int) < (b : Int) := by omega
                  clear hns hnm e1' h1 h2 h3 hk
                  go_wp2_with (first | (go_at_call 49; (with_reducible refine (H1.out (by omega) (by omega) _ S1).mono ?_); rintro e w2 ⟨rfl, T1⟩) | (go_at_call 47; (with_reducible refine (H2.out (by omega) (by omega) _ T1).mono ?_); rintro e w3 ⟨rfl, T2⟩; have U3 := N3.out (by omega) _ T2))
                  go_end0
                  exact ⟨rfl, U3.out⟩
            · by_cases cd : n - s < b
              · first
                | (exfalso; omega)
                | skip
                  have g0 : (s : Int) < (m : Int) ∧ (mid : Int) < (n : Int) - (s : Int) := by omega
                  have g1 : (s : Int) < (mid : Int) ∧ (m : Int) < (n : Int) - (s : Int) := by omega
                  have g2 : ¬ (a : Int) < (s : Int) := by omega
                  have g3 : (n : Int) - (s : Int) < (b : Int) := by omega
                  clear hns hnm e1' h1 h2 h3 hk
                  go_wp2_with (first | (go_at_call 49; (with_reducible refine (H1.out (by omega) (by omega) _ S1).mono ?_); rintro e w2 ⟨rfl, T1⟩; have U2 := N2.out (by omega) _ T1) | (go_at_call 47; (with_reducible refine (H3.out (by omega) (by omega) _ U2).mono ?_); rintro e w4 ⟨rfl, T3⟩))
                  go_end0
                  exact ⟨rfl, T3.out⟩
              · first
                | (exfalso; omega)
                | skip
                  have g0 : (s : Int) < (m : Int) ∧ (mid : Int) < (n : Int) - (s : Int) := by omega
                  have g1 : (s : Int) < (mid : Int) ∧ (m : Int) < (n : Int) - (s : Int) := by omega
                  have g2 : ¬ (a : Int) < (s : Int) := by omega
                  have g3 : ¬ (n : Int) - (s : Int) < (b : Int) := by omega
                  clear hns hnm e1' h1 h2 h3 hk
                  go_wp2_with (first | (go_at_call 49; (with_reducible refine (H1.out (by omega) (by omega) _ S1).mono ?_); rintro e w2 ⟨rfl, T1⟩; have U2 := N2.out (by omega) _ T1; have U3 := N3.out (by omega) _ U2))
                  go_end0
                  exact ⟨rfl, U3.out⟩
          · by_cases cc : a < s
            · by_cases cd : n - s < b
              · first
                | (exfalso; omega)
                | skip
                  have g0 : (s : Int) < (m : Int) ∧ (mid : Int) < (n : Int) - (s : Int) := by omega
                  have g1 : ¬ (s : Int) < (mid : Int) ∧ ¬ (m : Int) < (n : Int) - (s : Int) := by omega
                  have g2 : (a : Int) < (s : Int) := by omega
                  have g3 : (n : Int) - (s : Int) < (b : Int) := by omega
                  have U1 := N1.out (by omega) _ S1
                  have U2 := N2.out (by omega) _ U1
                  clear hns hnm e1' h1 h2 h3 hk
                  go_wp2_with (first | (go_at_call 47; (with_reducible refine (H3.out (by omega) (by omega) _ U2).mono ?_); rintro e w4 ⟨rfl, T3⟩))
                  go_end0
                  exact ⟨rfl, T3.out⟩
              · first
                | (exfalso; omega)
                | skip
                  have g0 : (s : Int) < (m : Int) ∧ (mid : Int) < (n : Int) - (s : Int) := by omega
                  have g1 : ¬ (s : Int) < (mid : Int) ∧ ¬ (m : Int) < (n : Int) - (s : Int) := by omega
                  have g2 : (a : Int) < (s : Int) := by omega
                  have g3 : ¬ (n : Int) - (s : Int) < (b : Int) := by omega
                  have U1 := N1.out (by omega) _ S1
                  have U2 := N2.out (by omega) _ U1
                  have U3 := N3.out (by omega) _ U2
                  clear hns hnm e1' h1 h2 h3 hk
                  go_wp2_with fail
                  go_end0
                  exact ⟨rfl, U3.out⟩
            · by_cases cd : n - s < b
              · first
                | (exfalso; omega)
                | skip
                  have g0 : (s : Int) < (m : Int) ∧ (mid : Int) < (n : Int) - (s : Int) := by omega
                  have g1 : ¬ (s : Int) < (mid : Int) ∧ ¬ (m : Int) < (n : Int) - (s : Int) := by omega
                  have g2 : ¬ (a : Int) < (s : Int) := by omega
                  have g3 : (n : Int) - (s : Int) < (b : Int) := by omega
                  have U1 := N1.out (by omega) _ S1
                  have U2 := N2.out (by omega) _ U1
                  clear hns hnm e1' h1 h2 h3 hk
                  go_wp2_with (first | (go_at_call 47; (with_reducible refine (H3.out (by omega) (by omega) _ U2).mono ?_); rintro e w4 ⟨rfl, T3⟩))
                  go_end0
                  exact ⟨rfl, T3.out⟩
              · first
                | (exfalso; omega)
                | skip
                  have g0 : (s : Int) < (m : Int) ∧ (mid : Int) < (n : Int) - (s : Int) := by omega
                  have g1 : ¬ (s : Int) < (mid : Int) ∧ ¬ (m : Int) < (n : Int) - (s : Int) := by omega
                  have g2 : ¬ (a : Int) < (s : Int) := by omega
                  have g3 : ¬ (n : Int) - (s : Int) < (b : Int) := by omega
                  have U1 := N1.out (by omega) _ S1
                  have U2 := N2.out (by omega) _ U1
                  have U3 := N3.out (by omega) _ U2
                  clear hns hnm e1' h1 h2 h3 hk
                  go_wp2_with fail
                  go_end0
                  exact ⟨rfl, U3.out⟩
        · by_cases cb : s < mid
          · by_cases cc : a < s
            · by_cases cd : n - s < b
              · first
                | (exfalso; omega)
                | skip
                  have g0 : ¬ (s : Int) < (m : Int) ∧ ¬ (mid : Int) < (n : Int) - (s : Int) := by omega
                  have g1 : (s : Int) < (mid : Int) ∧ (m : Int) < (n : Int) - (s : Int) := by omega
                  have g2 : (a : Int) < (s : Int) := by omega
                  have g3 : (n : Int) - (s : Int) < (b : Int) := by omega
                  have U1 := N1.out (by omega) _ S1
                  clear hns hnm e1' h1 h2 h3 hk
                  go_wp2_with (first | (go_at_call 47; (with_reducible refine (H2.out (by omega) (by omega) _ U1).mono ?_); rintro e w3 ⟨rfl, T2⟩; have U3 := N3.out (by omega) _ T2))
                  go_end0
                  exact ⟨rfl, U3.out⟩
              · first
                | (exfalso; omega)
                | skip
                  have g0 : ¬ (s : Int) < (m : Int) ∧ ¬ (mid : Int) < (n : Int) - (s : Int) := by omega
                  have g1 : (s : Int) < (mid : Int) ∧ (m : Int) < (n : Int) - (s : Int) := by omega
                  have g2 : (a : Int) < (s : Int) := by omega
                  have g3 : ¬ (n : Int) - (s : Int) < (b : Int) := by omega
                  have U1 := N1.out (by omega) _ S1
                  clear hns hnm e1' h1 h2 h3 hk
                  go_wp2_with (first | (go_at_call 47; (with_reducible refine (H2.out (by omega) (by omega) _ U1).mono ?_); rintro e w3 ⟨rfl, T2⟩; have U3 := N3.out (by omega) _ T2))
                  go_end0
                  exact ⟨rfl, U3.out⟩
            · by_cases cd : n - s < b
              · first
                | (exfalso; omega)
                | skip
                  have g0 : ¬ (s : Int) < (m : Int) ∧ ¬ (mid : Int) < (n : Int) - (s : Int) := by omega
                  have g1 : (s : Int) < (mid : Int) ∧ (m : Int) < (n : Int) - (s : Int) := by omega
                  have g2 : ¬ (a : Int) < (s : Int) := by omega
                  have g3 : (n : Int) - (s : Int) < (b : Int) := by omega
                  have U1 := N1.out (by omega) _ S1
                  have U2 := N2.out (by omega) _ U1
                  have U3 := N3.out (by omega) _ U2
                  clear hns hnm e1' h1 h2 h3 hk
                  go_wp2_with fail
                  go_end0
                  exact ⟨rfl, U3.out⟩
              · first
                | (exfalso; omega)
                | skip
                  have g0 : ¬ (s : Int) < (m : Int) ∧ ¬ (mid : Int) < (n : Int) - (s : Int) := by omega
                  have g1 : (s : Int) < (mid : Int) ∧ (m : Int) < (n : Int) - (s : Int) := by omega
                  have g2 : ¬ (a : Int) < (s : Int) := by omega
                  have g3 : ¬ (n : Int) - (s : Int) < (b : Int) := by omega
                  have U1 := N1.out (by omega) _ S1
                  have U2 := N2.out (by omega) _ U1
                  have U3 := N3.out (by omega) _ U2
                  clear hns hnm e1' h1 h2 h3 hk
                  go_wp2_with fail
                  go_end0
                  exact ⟨rfl, U3.out⟩
          · by_cases cc : a < s
            · by_cases cd : n - s < b
              · first
                | (exfalso; omega)
                | skip
                  have g0 : ¬ (s : Int) < (m : Int) ∧ ¬ (mid : Int) < (n : Int) - (s : Int) := by omega
                  have g1 : ¬ (s : Int) < (mid : Int) ∧ ¬ (m : Int) < (n : Int) - (s : Int) := by omega
                  have g2 : (a : Int) < (s : Int) := by omega
                  have g3 : (n : Int) - (s : Int) < (b : Int) := by omega
                  have U1 := N1.out (by omega) _ S1
                  have U2 := N2.out (by omega) _ U1
                  have U3 := N3.out (by omega) _ U2
                  clear hns hnm e1' h1 h2 h3 hk
                  go_wp2_with fail
                  go_end0
                  exact ⟨rfl, U3.out⟩
              · first
                | (exfalso; omega)
                | skip
                  have g0 : ¬ (s : Int) < (m : Int) ∧ ¬ (mid : Int) < (n : Int) - (s : Int) := by omega
                  have g1 : ¬ (s : Int) < (mid : Int) ∧ ¬ (m : Int) < (n : Int) - (s : Int) := by omega
                  have g2 : (a : Int) < (s : Int) := by omega
                  have g3 : ¬ (n : Int) - (s : Int) < (b : Int) := by omega
                  have U1 := N1.out (by omega) _ S1
                  have U2 := N2.out (by omega) _ U1
                  have U3 := N3.out (by omega) _ U2
                  clear hns hnm e1' h1 h2 h3 hk
                  go_wp2_with fail
                  go_end0
                  exact ⟨rfl, U3.out⟩
            · by_cases cd : n - s < b
              · first
                | (exfalso; omega)
                | skip
                  have g0 : ¬ (s : Int) < (m : Int) ∧ ¬ (mid : Int) < (n : Int) - (s : Int) := by omega
                  have g1 : ¬ (s : Int) < (mid : Int) ∧ ¬ (m : Int) < (n : Int) - (s : Int) := by omega
                  have g2 : ¬ (a : Int) < (s : Int) := by omega
                  have g3 : (n : Int) - (s : Int) < (b : Int) := by omega
                  have U1 := N1.out (by omega) _ S1
                  have U2 := N2.out (by omega) _ U1
                  have U3 := N3.out (by omega) _ U2
                  clear hns hnm e1' h1 h2 h3 hk
                  go_wp2_with fail
                  go_end0
                  exact ⟨rfl, U3.out⟩
              · first
                | (exfalso; omega)
                | skip
                  have g0 : ¬ (s : Int) < (m : Int) ∧ ¬ (mid : Int) < (n : Int) - (s : Int) := by omega
                  have g1 : ¬ (s : Int) < (mid : Int) ∧ ¬ (m : Int) < (n : Int) - (s : Int) := by omega
                  have g2 : ¬ (a : Int) < (s : Int) := by omega
                  have g3 : ¬ (n : Int) - (s : Int) < (b : Int) := by omega
                  have U1 := N1.out (by omega) _ S1
                  have U2 := N2.out (by omega) _ U1
                  have U3 := N3.out (by omega) _ U2
                  clear hns hnm e1' h1 h2 h3 hk
                  go_wp2_with fail
                  go_end0
                  exact ⟨rfl, U3.out⟩
  · have hz9 : ¬ (mid : Int) < (m : Int) := by omega
    obtain ⟨s0, hs0⟩ : ∃ x : Nat, x = a := ⟨_, rfl⟩
    obtain ⟨r0, hr0⟩ : ∃ x : Nat, x = m := ⟨_, rfl⟩
    have e2 : Aside (a ≤ s0 ∧ s0 ≤ r0 ∧ r0 ≤ m ∧ r0 ≤ mid ∧ mid - s0 ≤ B.length ∧ (s0 = a ∨ mid - s0 = B.length) ∧ (r0 = m ∨ r0 = mid)) := by show _ ∧ _; have := e1.out; omega
    have es : True := trivial
    have t0 := Try.underlying0; have a0 := Try.isAgg0; have z0 := Try.sizeOf0; have v0 := Try.zeroValue0
    have t3 := Try.underlying3; have a3 := Try.isAgg3; have z3 := Try.sizeOf3; have v3 := Try.zeroValue3
    have t4 := Try.underlying4; have a4 := Try.isAgg4; have z4 := Try.sizeOf4; have v4 := Try.zeroValue4
    have t22 := Try.underlying29; have a22 := Try.isAgg29; have z22 := Try.sizeOf29; have v22 := Try.zeroValue29
    have t25 := Try.underlying56; have a25 := Try.isAgg56; have z25 := Try.sizeOf56; have v25 := Try.zeroValue56
    have t9 := Try.underlying83; have a9 := Try.isAgg83; have z9 := Try.sizeOf83; have v9 := Try.zeroValue83
    have eNr : ∀ args w, (callFunc 49 args).run Try.prog w = .ok (.enter 49 args) w := enters_of Try.func49 (by kernel_rfl) rfl
    have eNs : ∀ args w, (callFunc 47 args).run Try.prog w = .ok (.enter 47 args) w := enters_of Try.func47 (by kernel_rfl) rfl
    have aE := Try.isAgg35
    have zE : ∀ w, Sem.run Try.prog (Go.sizeOf 35) w = .ok kk w := by rw [hk5]; exact Try.sizeOf35
    have u22 := run_underlying Try.underlying29
    have FG := Try.func47
    clear hk5
    generalize Try.prog = PP at *
    go_enter FG, Try.ntmps47
    go_wp2
    go_loopg [20, 21] (r0 - s0) (fun kx vi vj wr => ∃ (s r : Nat), vi = .int .i64 s ∧ vj = .int .i64 r ∧ s0 ≤ s ∧ s ≤ r ∧ r ≤ r0 ∧ r - s ≤ kx ∧ Aside (s = s0 ∨ ∃ hA : s - 1 - a < A.length, ∃ hB : mid - s < B.length, a < s ∧ ltOf cf B[mid - s] A[s - 1 - a] = false) ∧ Aside (r = r0 ∨ ∃ hA : r - a < A.length, ∃ hB : mid - 1 - r < B.length, r < mid ∧ ltOf cf B[mid - 1 - r] A[r - a] = true) ∧ Aside (SWK enc kk w0 blk off D wr))
    case atStart => exact ⟨s0, r0, by rw [hs0], by rw [hr0], Nat.le_refl _, e2.out.2.1, Nat.le_refl _, Nat.le_refl _, .inl rfl, .inl rfl, S0⟩
    case round =>
      clear S0 es hz9 hs0 hr0
      obtain ⟨s, r, rfl, rfl, h1, h2, h3, hk, HI, HJ, S1⟩ := hrel
      have e1' := e1.out
      have e2' := e2.out
      by_cases hlt : s < r
      · have hltz : (s : Int) < (r : Int) := by omega
        obtain ⟨c, hc0⟩ : ∃ c : Nat, c = (s + r) / 2 := ⟨_, rfl⟩
        have ec : ((s : Int) + (r : Int)) / 2 = (c : Int) := by omega
        obtain ⟨q, hq0⟩ : ∃ q : Nat, q + c = p := ⟨p - c, by omega⟩
        have eq : ((p : Int) - (c : Int)).toNat = q := by omega
        have eqn : p - c = q := by omega
        have pa2 : (c : Int) ≤ (p : Int) := by omega
        have rq : IntKind.i64.wrap ((p : Int) - (c : Int)) = (p : Int) - (c : Int) := by rw [IntKind.wrap_i64]; omega
        have hb1 : s ≤ c ∧ c < r := by omega
        have hca : c - a < A.length := by omega
        have hqb : q - m < B.length := by omega
        have hz1 : (s : Int) ≤ 1000000 ∧ (r : Int) ≤ 1000000 ∧ (c : Int) ≤ 1000000 := by omega
        have l1 := S1.out.ld R hl.out PP q (by rw [hl.out]; omega)
        have l2 := S1.out.ld R hl.out PP c (by rw [hl.out]; omega)
        rw [hBi.out q (by omega) hqb] at l1
        rw [hAi.out c (by omega) hca] at l2
        obtain ⟨x, hx⟩ : ∃ x, x = A[c - a] := ⟨_, rfl⟩
        obtain ⟨y, hy⟩ : ∃ y, y = B[q - m] := ⟨_, rfl⟩
        rw [← hy] at l1
        rw [← hx] at l2
        have hc := S1.out.cmp HC.out hl.out y x
        have bh : (c : Int) < (d0.size : Int) := by omega
        have ba : (p : Int) - (c : Int) < (d0.size : Int) := by omega
        have ph : (0 : Int) ≤ (c : Int) := by omega
        have pa : (0 : Int) ≤ (p : Int) - (c : Int) := by omega
        have HX := Lib.hid hx
        have HY := Lib.hid hy
        have H1 := Lib.hid (And.intro hb1 (And.intro hq0 (And.intro h1 (And.intro h2 h3))))
        have hrt : Hid (ltOf cf y x = true → ∃ hA : c - a < A.length, ∃ hB : mid - 1 - c < B.length, c < mid ∧ ltOf cf B[mid - 1 - c] A[c - a] = true) := Lib.hid (fun h => ⟨hca, by omega, by omega, by rw [← h, HX.out, HY.out]; congr 2; omega⟩)
        have hrf : Hid (ltOf cf y x = false → ∃ hA : c + 1 - 1 - a < A.length, ∃ hB : mid - (c + 1) < B.length, a < c + 1 ∧ ltOf cf B[mid - (c + 1)] A[c + 1 - 1 - a] = false) := Lib.hid (fun h => ⟨by omega, by omega, by omega, by rw [← h, HX.out, HY.out]; congr 2; omega⟩)
        clear hx hy hb1 hc0 hq0 e1' e2' h1 h2 h3
        go_wp2_with fail
        cases hlv : (ltOf cf) y x with
        | false =>
          have hv : ¬ cf y x < 0 := of_decide_eq_false hlv
          have hd : decide (cf y x < 0) = false := decide_eq_false hv
          go_quiet_grown (first | (go_at_fn g; refine Calls.grown_of (hc _ _)))
          have S2 : Aside (SWK enc kk w0 blk off D (grow (wr.drewN nq) osq)) := S1.out.grown nq osq
          clear l1 l2 hc S1
          generalize grow (wr.drewN nq) osq = w2 at S2 ⊢
          clear nq osq
          go_wp2
          go_roundg (r - (c + 1))
          case measure => have := H1.out; omega
          case rel => exact ⟨c + 1, r, by simp, rfl, by have := H1.out; omega, by have := H1.out; omega, by have := H1.out; omega, Nat.le_refl _, .inr (hrf.out hlv), HJ, S2⟩
        | true =>
          have hv : cf y x < 0 := of_decide_eq_true hlv
          have hd : decide (cf y x < 0) = true := decide_eq_true hv
          go_quiet_grown (first | (go_at_fn g; refine Calls.grown_of (hc _ _)))
          have S2 : Aside (SWK enc kk w0 blk off D (grow (wr.drewN nq) osq)) := S1.out.grown nq osq
          clear l1 l2 hc S1
          generalize grow (wr.drewN nq) osq = w2 at S2 ⊢
          clear nq osq
          go_wp2
          go_roundg (c - s)
          case measure => have := H1.out; omega
          case rel => exact ⟨s, c, rfl, rfl, by have := H1.out; omega, by have := H1.out; omega, by have := H1.out; omega, Nat.le_refl _, HI, .inr (hrt.out hlv), S2⟩
      · obtain rfl : s = r := by omega
        have hr := hrest.out s (by omega) (by omega) (by omega) (by omega) (by
          rcases HI.out with h | h
          · rcases e2'.2.2.2.2.2.1 with h' | h'
            · exact .inl (by omega)
            · exact .inr (.inl (by rw [h]; exact h'))
          · exact .inr (.inr h)) (by
          rcases HJ.out with h | h
          · rcases e2'.2.2.2.2.2.2 with h' | h'
            · exact .inl (by omega)
            · exact .inr (.inl (by omega))
          · exact .inr (.inr h))
        obtain ⟨D1, D2, H1, N1, H2, N2, H3, N3⟩ := hr
        have H1 := Lib.hid H1; have N1 := Lib.hid N1; have H2 := Lib.hid H2; have N2 := Lib.hid N2; have H3 := Lib.hid H3; have N3 := Lib.hid N3
        have hns : s ≤ n := by omega
        have hz1 : (s : Int) ≤ 1000000 ∧ (s : Int) ≤ (n : Int) ∧ (s : Int) ≤ (m : Int) ∧ (s : Int) ≤ (mid : Int) ∧ (n : Int) - (s : Int) ≤ (b : Int) ∧ (a : Int) ≤ (s : Int) := by omega
        have hnm : n = mid + m := by omega
        clear hrest HI HJ e2' hAi hBi
        by_cases ca : s < m
        · by_cases cb : s < mid
          · by_cases cc : a < s
            · by_cases cd : n - s < b
              · first
                | (exfalso; omega)
                | skip
                  have g0 : (s : Int) < (m : Int) ∧ (mid : Int) < (n : Int) - (s : Int) := by omega
                  have g1 : (s : Int) < (mid : Int) ∧ (m : Int) < (n : Int) - (s : Int) := by omega
                  have g2 : (a : Int) < (s : Int) := by omega
                  have g3 : (n : Int) - (s : Int) < (b : Int) := by omega
                  clear hns hnm e1' h1 h2 h3 hk
                  go_wp2_with (first | (go_at_call 49; (with_reducible refine (H1.out (by omega) (by omega) _ S1).mono ?_); rintro e w2 ⟨rfl, T1⟩) | (go_at_call 47; (with_reducible refine (H2.out (by omega) (by omega) _ T1).mono ?_); rintro e w3 ⟨rfl, T2⟩) | (go_at_call 47; (with_reducible refine (H3.out (by omega) (by omega) _ T2).mono ?_); rintro e w4 ⟨rfl, T3⟩))
                  go_end0
                  exact ⟨rfl, T3.out⟩
              · first
                | (exfalso; omega)
                | skip
                  have g0 : (s : Int) < (m : Int) ∧ (mid : Int) < (n : Int) - (s : Int) := by omega
                  have g1 : (s : Int) < (mid : Int) ∧ (m : Int) < (n : Int) - (s : Int) := by omega
                  have g2 : (a : Int) < (s : Int) := by omega
                  have g3 : ¬ (n : Int) - (s : Int) < (b : Int) := by omega
                  clear hns hnm e1' h1 h2 h3 hk
                  go_wp2_with (first | (go_at_call 49; (with_reducible refine (H1.out (by omega) (by omega) _ S1).mono ?_); rintro e w2 ⟨rfl, T1⟩) | (go_at_call 47; (with_reducible refine (H2.out (by omega) (by omega) _ T1).mono ?_); rintro e w3 ⟨rfl, T2⟩; have U3 := N3.out (by omega) _ T2))
                  go_end0
                  exact ⟨rfl, U3.out⟩
            · by_cases cd : n - s < b
              · first
                | (exfalso; omega)
                | skip
                  have g0 : (s : Int) < (m : Int) ∧ (mid : Int) < (n : Int) - (s : Int) := by omega
                  have g1 : (s : Int) < (mid : Int) ∧ (m : Int) < (n : Int) - (s : Int) := by omega
                  have g2 : ¬ (a : Int) < (s : Int) := by omega
                  have g3 : (n : Int) - (s : Int) < (b : Int) := by omega
                  clear hns hnm e1' h1 h2 h3 hk
                  go_wp2_with (first | (go_at_call 49; (with_reducible refine (H1.out (by omega) (by omega) _ S1).mono ?_); rintro e w2 ⟨rfl, T1⟩; have U2 := N2.out (by omega) _ T1) | (go_at_call 47; (with_reducible refine (H3.out (by omega) (by omega) _ U2).mono ?_); rintro e w4 ⟨rfl, T3⟩))
                  go_end0
                  exact ⟨rfl, T3.out⟩
              · first
                | (exfalso; omega)
                | skip
                  have g0 : (s : Int) < (m : Int) ∧ (mid : Int) < (n : Int) - (s : Int) := by omega
                  have g1 : (s : Int) < (mid : Int) ∧ (m : Int) < (n : Int) - (s : Int) := by omega
                  have g2 : ¬ (a : Int) < (s : Int) := by omega
                  have g3 : ¬ (n : Int) - (s : Int) < (b : Int) := by omega
                  clear hns hnm e1' h1 h2 h3 hk
                  go_wp2_with (first | (go_at_call 49; (with_reducible refine (H1.out (by omega) (by omega) _ S1).mono ?_); rintro e w2 ⟨rfl, T1⟩; have U2 := N2.out (by omega) _ T1; have U3 := N3.out (by omega) _ U2))
                  go_end0
                  exact ⟨rfl, U3.out⟩
          · by_cases cc : a < s
            · by_cases cd : n - s < b
              · first
                | (exfalso; omega)
                | skip
                  have g0 : (s : Int) < (m : Int) ∧ (mid : Int) < (n : Int) - (s : Int) := by omega
                  have g1 : ¬ (s : Int) < (mid : Int) ∧ ¬ (m : Int) < (n : Int) - (s : Int) := by omega
                  have g2 : (a : Int) < (s : Int) := by omega
                  have g3 : (n : Int) - (s : Int) < (b : Int) := by omega
                  have U1 := N1.out (by omega) _ S1
                  have U2 := N2.out (by omega) _ U1
                  clear hns hnm e1' h1 h2 h3 hk
                  go_wp2_with (first | (go_at_call 47; (with_reducible refine (H3.out (by omega) (by omega) _ U2).mono ?_); rintro e w4 ⟨rfl, T3⟩))
                  go_end0
                  exact ⟨rfl, T3.out⟩
              · first
                | (exfalso; omega)
                | skip
                  have g0 : (s : Int) < (m : Int) ∧ (mid : Int) < (n : Int) - (s : Int) := by omega
                  have g1 : ¬ (s : Int) < (mid : Int) ∧ ¬ (m : Int) < (n : Int) - (s : Int) := by omega
                  have g2 : (a : Int) < (s : Int) := by omega
                  have g3 : ¬ (n : Int) - (s : Int) < (b : Int) := by omega
                  have U1 := N1.out (by omega) _ S1
                  have U2 := N2.out (by omega) _ U1
                  have U3 := N3.out (by omega) _ U2
                  clear hns hnm e1' h1 h2 h3 hk
                  go_wp2_with fail
                  go_end0
                  exact ⟨rfl, U3.out⟩
            · by_cases cd : n - s < b
              · first
                | (exfalso; omega)
                | skip
                  have g0 : (s : Int) < (m : Int) ∧ (mid : Int) < (n : Int) - (s : Int) := by omega
                  have g1 : ¬ (s : Int) < (mid : Int) ∧ ¬ (m : Int) < (n : Int) - (s : Int) := by omega
                  have g2 : ¬ (a : Int) < (s : Int) := by omega
                  have g3 : (n : Int) - (s : Int) < (b : Int) := by omega
                  have U1 := N1.out (by omega) _ S1
                  have U2 := N2.out (by omega) _ U1
                  clear hns hnm e1' h1 h2 h3 hk
                  go_wp2_with (first | (go_at_call 47; (with_reducible refine (H3.out (by omega) (by omega) _ U2).mono ?_); rintro e w4 ⟨rfl, T3⟩))
                  go_end0
                  exact ⟨rfl, T3.out⟩
              · first
                | (exfalso; omega)
                | skip
                  have g0 : (s : Int) < (m : Int) ∧ (mid : Int) < (n : Int) - (s : Int) := by omega
                  have g1 : ¬ (s : Int) < (mid : Int) ∧ ¬ (m : Int) < (n : Int) - (s : Int) := by omega
                  have g2 : ¬ (a : Int) < (s : Int) := by omega
                  have g3 : ¬ (n : Int) - (s : Int) < (b : Int) := by omega
                  have U1 := N1.out (by omega) _ S1
                  have U2 := N2.out (by omega) _ U1
                  have U3 := N3.out (by omega) _ U2
                  clear hns hnm e1' h1 h2 h3 hk
                  go_wp2_with fail
                  go_end0
                  exact ⟨rfl, U3.out⟩
        · by_cases cb : s < mid
          · by_cases cc : a < s
            · by_cases cd : n - s < b
              · first
                | (exfalso; omega)
                | skip
                  have g0 : ¬ (s : Int) < (m : Int) ∧ ¬ (mid : Int) < (n : Int) - (s : Int) := by omega
                  have g1 : (s : Int) < (mid : Int) ∧ (m : Int) < (n : Int) - (s : Int) := by omega
                  have g2 : (a : Int) < (s : Int) := by omega
                  have g3 : (n : Int) - (s : Int) < (b : Int) := by omega
                  have U1 := N1.out (by omega) _ S1
                  clear hns hnm e1' h1 h2 h3 hk
                  go_wp2_with (first | (go_at_call 47; (with_reducible refine (H2.out (by omega) (by omega) _ U1).mono ?_); rintro e w3 ⟨rfl, T2⟩; have U3 := N3.out (by omega) _ T2))
                  go_end0
                  exact ⟨rfl, U3.out⟩
              · first
                | (exfalso; omega)
                | skip
                  have g0 : ¬ (s : Int) < (m : Int) ∧ ¬ (mid : Int) < (n : Int) - (s : Int) := by omega
                  have g1 : (s : Int) < (mid : Int) ∧ (m : Int) < (n : Int) - (s : Int) := by omega
                  have g2 : (a : Int) < (s : Int) := by omega
                  have g3 : ¬ (n : Int) - (s : Int) < (b : Int) := by omega
                  have U1 := N1.out (by omega) _ S1
                  clear hns hnm e1' h1 h2 h3 hk
                  go_wp2_with (first | (go_at_call 47; (with_reducible refine (H2.out (by omega) (by omega) _ U1).mono ?_); rintro e w3 ⟨rfl, T2⟩; have U3 := N3.out (by omega) _ T2))
                  go_end0
                  exact ⟨rfl, U3.out⟩
            · by_cases cd : n - s < b
              · first
                | (exfalso; omega)
                | skip
                  have g0 : ¬ (s : Int) < (m : Int) ∧ ¬ (mid : Int) < (n : Int) - (s : Int) := by omega
                  have g1 : (s : Int) < (mid : Int) ∧ (m : Int) < (n : Int) - (s : Int) := by omega
                  have g2 : ¬ (a : Int) < (s : Int) := by omega
                  have g3 : (n : Int) - (s : Int) < (b : Int) := by omega
                  have U1 := N1.out (by omega) _ S1
                  have U2 := N2.out (by omega) _ U1
                  have U3 := N3.out (by omega) _ U2
                  clear hns hnm e1' h1 h2 h3 hk
                  go_wp2_with fail
                  go_end0
                  exact ⟨rfl, U3.out⟩
              · first
                | (exfalso; omega)
                | skip
                  have g0 : ¬ (s : Int) < (m : Int) ∧ ¬ (mid : Int) < (n : Int) - (s : Int) := by omega
                  have g1 : (s : Int) < (mid : Int) ∧ (m : Int) < (n : Int) - (s : Int) := by omega
                  have g2 : ¬ (a : Int) < (s : Int) := by omega
                  have g3 : ¬ (n : Int) - (s : Int) < (b : Int) := by omega
                  have U1 := N1.out (by omega) _ S1
                  have U2 := N2.out (by omega) _ U1
                  have U3 := N3.out (by omega) _ U2
                  clear hns hnm e1' h1 h2 h3 hk
                  go_wp2_with fail
                  go_end0
                  exact ⟨rfl, U3.out⟩
          · by_cases cc : a < s
            · by_cases cd : n - s < b
              · first
                | (exfalso; omega)
                | skip
                  have g0 : ¬ (s : Int) < (m : Int) ∧ ¬ (mid : Int) < (n : Int) - (s : Int) := by omega
                  have g1 : ¬ (s : Int) < (mid : Int) ∧ ¬ (m : Int) < (n : Int) - (s : Int) := by omega
                  have g2 : (a : Int) < (s : Int) := by omega
                  have g3 : (n : Int) - (s : Int) < (b : Int) := by omega
                  have U1 := N1.out (by omega) _ S1
                  have U2 := N2.out (by omega) _ U1
                  have U3 := N3.out (by omega) _ U2
                  clear hns hnm e1' h1 h2 h3 hk
                  go_wp2_with fail
                  go_end0
                  exact ⟨rfl, U3.out⟩
              · first
                | (exfalso; omega)
                | skip
                  have g0 : ¬ (s : Int) < (m : Int) ∧ ¬ (mid : Int) < (n : Int) - (s : Int) := by omega
                  have g1 : ¬ (s : Int) < (mid : Int) ∧ ¬ (m : Int) < (n : Int) - (s : Int) := by omega
                  have g2 : (a : Int) < (s : Int) := by omega
                  have g3 : ¬ (n : Int) - (s : Int) < (b : Int) := by omega
                  have U1 := N1.out (by omega) _ S1
                  have U2 := N2.out (by omega) _ U1
                  have U3 := N3.out (by omega) _ U2
                  clear hns hnm e1' h1 h2 h3 hk
                  go_wp2_with fail
                  go_end0
                  exact ⟨rfl, U3.out⟩
            · by_cases cd : n - s < b
              · first
                | (exfalso; omega)
                | skip
                  have g0 : ¬ (s : Int) < (m : Int) ∧ ¬ (mid : Int) < (n : Int) - (s : Int) := by omega
                  have g1 : ¬ (s : Int) < (mid : Int) ∧ ¬ (m : Int) < (n : Int) - (s : Int) := by omega
                  have g2 : ¬ (a : Int) < (s : Int) := by omega
                  have g3 : (n : Int) - (s : Int) < (b : Int) := by omega
                  have U1 := N1.out (by omega) _ S1
                  have U2 := N2.out (by omega) _ U1
                  have U3 := N3.out (by omega) _ U2
                  clear hns hnm e1' h1 h2 h3 hk
                  go_wp2_with fail
                  go_end0
                  exact ⟨rfl, U3.out⟩
              · first
                | (exfalso; omega)
                | skip
                  have g0 : ¬ (s : Int) < (m : Int) ∧ ¬ (mid : Int) < (n : Int) - (s : Int) := by omega
                  have g1 : ¬ (s : Int) < (mid : Int) ∧ ¬ (m : Int) < (n : Int) - (s : Int) := by omega
                  have g2 : ¬ (a : Int) < (s : Int) := by omega
                  have g3 : ¬ (n : Int) - (s : Int) < (b : Int) := by omega
                  have U1 := N1.out (by omega) _ S1
                  have U2 := N2.out (by omega) _ U1
                  have U3 := N3.out (by omega) _ U2
                  clear hns hnm e1' h1 h2 h3 hk
                  go_wp2_with fail
                  go_end0
                  exact ⟨rfl, U3.out⟩
end Go.Proofs.Ytadjadakncidgaa.St

/- slices.SortStableFunc at elements of five cells, walked: it is the stable sort. -/
set_option linter.unusedVariables false
set_option linter.unusedSimpArgs false
namespace Go.Proofs.Ytadjadakncidgaa.St
open Go Go.RowKit Go.Lib Go.Sort Go.Shelf Go.Proofs.YtadjadakncidgaaW.PrintWords Go.Proofs.YtadjadakncidgaaW.PrintMore Go.Proofs.Ytadjadakncidgaa.RL Go.Proofs.Ytadjadakncidgaa.PL
variable {α : Type} [Inhabited α]
theorem sym_all (enc : α → List Value) (kk : Nat) (hk5 : kk = 5) (cf : α → α → Int) (g : Nat) (cb : Array Value) (blk off cap : Nat) (O : WO (ltOf cf)) (d0 : Array α) (w0 : World) (R : RowK enc kk w0 blk off d0) (hsz : d0.size ≤ 1000000)
    (eg : ∀ args w, (callFunc g args).run Try.prog w = .ok (.enter g args) w) (hcmp : CmpLays Try.prog g cb enc kk cf blk off d0.size w0) : ∀ K, SymOk enc kk cf g cb blk off cap d0 w0 K := by
  intro K
  induction K with
  | zero => intro P A B Z a m b w hK hA; omega
  | succ K IH =>
    intro P A B Z a m b w hK hA hB sA sB ha hm hb hs S
    match A, hA with
    | [x], _ =>
      have e : P ++ [x] ++ B ++ Z = P ++ x :: B ++ Z := by simp
      rw [e] at hs S
      exact sym_one enc kk hk5 cf g cb blk off cap O d0 w0 R hsz eg hcmp P B Z x hB sB a m b ha hm hb hs w S
    | x :: x2 :: A, _ =>
      match B, hB with
      | [y], _ =>
        have e : P ++ (x :: x2 :: A) ++ [y] ++ Z = P ++ (x :: x2 :: A) ++ y :: Z := by simp
        rw [e] at hs S
        exact sym_last enc kk hk5 cf g cb blk off cap O d0 w0 R hsz eg hcmp P (x :: x2 :: A) Z y (by simp) sA a m b ha hm hb hs w S
      | y :: y2 :: B, _ => exact sym_step enc kk hk5 cf g cb blk off cap O d0 w0 R hsz eg hcmp K IH P _ _ Z a m b w hK (by simp) (by simp) sA sB ha hm hb hs S
theorem ins_w (enc : α → List Value) (kk : Nat) (hk5 : kk = 5) (cf : α → α → Int) (g : Nat) (cb : Array Value) (blk off cap : Nat) (d0 : Array α) (w0 : World) (R : RowK enc kk w0 blk off d0) (hsz : d0.size ≤ 1000000)
    (eg : ∀ args w, (callFunc g args).run Try.prog w = .ok (.enter g args) w) (hcmp : CmpLays Try.prog g cb enc kk cf blk off d0.size w0) (P X Z : List α) (w : World) (hs : d0.size = (P ++ X ++ Z).toArray.size) (S : SWK enc kk w0 blk off (P ++ X ++ Z).toArray w) :
    Calls Try.prog 46 #[.slice (some ⟨blk, off, none⟩) (P ++ X ++ Z).toArray.size cap, .int .i64 P.length, .int .i64 ((P.length + X.length : Nat) : Int), .func (.func g) #[] cb] w fun e w' => e = .returned (.tuple #[]) ∧ SWK enc kk w0 blk off (P ++ isortB (ltOf cf) X ++ Z).toArray w' := by
  have hC : CmpLays Try.prog g cb enc kk cf blk off (P ++ X ++ Z).toArray.size w := fun m os dk hdk x y => by
    obtain ⟨n0, os0, rfl⟩ := S
    rw [sortWorldK_on enc kk w0 blk off n0 m (P ++ X ++ Z).toArray dk os0 os R.hblk hdk]
    exact hcmp _ _ dk (by omega) x y
  have h := AnyQ.insertionSortCmpFunc Try.sortCells kk Try.isAgg35 (by rw [hk5]; exact Try.sizeOf35) enc R.hk R.h1 cf g cb blk off cap P.length (P.length + X.length) (P ++ X ++ Z).toArray w eg hC (S.holds R.hblk R.hH hs.symm) (S.lt R.hblk) (by omega) (by simp <;> omega) (by omega)
  change Calls Try.prog 46 _ _ _ at h
  refine h.mono ?_
  rintro e w' ⟨rfl, n, os, rfl⟩
  rw [insertion_is]
  exact ⟨rfl, S.on R.hblk n _ os (by simp [isortB_length])⟩
theorem ins_l (enc : α → List Value) (kk : Nat) (hk5 : kk = 5) (cf : α → α → Int) (g : Nat) (cb : Array Value) (blk off cap : Nat) (d0 : Array α) (w0 : World) (R : RowK enc kk w0 blk off d0) (hsz : d0.size ≤ 1000000)
    (eg : ∀ args w, (callFunc g args).run Try.prog w = .ok (.enter g args) w) (hcmp : CmpLays Try.prog g cb enc kk cf blk off d0.size w0) (P X Z : List α) (w : World) (az bz : Int) (ha : az = (P.length : Int)) (hb : bz = ((P.length + X.length : Nat) : Int)) (hs : d0.size = (P ++ X ++ Z).length) (S : SWK enc kk w0 blk off (P ++ X ++ Z).toArray w) :
    Calls Try.prog 46 #[.slice (some ⟨blk, off, none⟩) d0.size cap, .int .i64 az, .int .i64 bz, .func (.func g) #[] cb] w fun e w' => e = .returned (.tuple #[]) ∧ Aside (SWK enc kk w0 blk off (P ++ isortB (ltOf cf) X ++ Z).toArray w') := by
  subst ha hb
  have hl : (P ++ X ++ Z).toArray.size = d0.size := by rw [hs]; simp
  simp only [List.length_append] at hs
  have := ins_w enc kk hk5 cf g cb blk off cap d0 w0 R hsz eg hcmp P X Z w hl.symm S
  rw [hl] at this
  exact this
theorem sym_l (enc : α → List Value) (kk : Nat) (hk5 : kk = 5) (cf : α → α → Int) (g : Nat) (cb : Array Value) (blk off cap : Nat) (O : WO (ltOf cf)) (d0 : Array α) (w0 : World) (R : RowK enc kk w0 blk off d0) (hsz : d0.size ≤ 1000000)
    (eg : ∀ args w, (callFunc g args).run Try.prog w = .ok (.enter g args) w) (hcmp : CmpLays Try.prog g cb enc kk cf blk off d0.size w0) (P X Y Z : List α) (hX : 0 < X.length) (hY : 0 < Y.length) (w : World) (az mz bz : Int) (ha : az = (P.length : Int)) (hm : mz = ((P.length + X.length : Nat) : Int)) (hb : bz = ((P.length + X.length + Y.length : Nat) : Int)) (hs : d0.size = (P ++ isortB (ltOf cf) X ++ isortB (ltOf cf) Y ++ Z).length) (S : SWK enc kk w0 blk off (P ++ isortB (ltOf cf) X ++ isortB (ltOf cf) Y ++ Z).toArray w) :
    Calls Try.prog 47 #[.slice (some ⟨blk, off, none⟩) d0.size cap, .int .i64 az, .int .i64 mz, .int .i64 bz, .func (.func g) #[] cb] w fun e w' => e = .returned (.tuple #[]) ∧ Aside (SWK enc kk w0 blk off (P ++ isortB (ltOf cf) (X ++ Y) ++ Z).toArray w') := by
  subst ha hm hb
  have := sym_all enc kk hk5 cf g cb blk off cap O d0 w0 R hsz eg hcmp _ P (isortB (ltOf cf) X) (isortB (ltOf cf) Y) Z P.length (P.length + X.length) (P.length + X.length + Y.length) w (Nat.le_refl _) (by rw [isortB_length]; exact hX) (by rw [isortB_length]; exact hY) (isortB_srt O X) (isortB_srt O Y) rfl (by rw [isortB_length]) (by rw [isortB_length, isortB_length]) hs S
  rw [merge_blocks O] at this
  exact this
set_option maxHeartbeats 8000000 in
set_option maxRecDepth 1000000 in
theorem stable_s (enc : α → List Value) (kk : Nat) (hk5 : kk = 5) (cf : α → α → Int) (g : Nat) (cb : Array Value) (blk off cap : Nat) (O : WO (ltOf cf)) (l0 : List α) (w0 : World) (R : RowK enc kk w0 blk off l0.toArray) (hsz : l0.length ≤ 100000)
    (eg : ∀ args w, (callFunc g args).run Try.prog w = .ok (.enter g args) w) (hcmp : CmpLays Try.prog g cb enc kk cf blk off l0.length w0) (w : World) (S : SWK enc kk w0 blk off l0.toArray w) :
    Calls Try.prog 38 #[.slice (some ⟨blk, off, none⟩) l0.length cap, .int .i64 l0.length, .func (.func g) #[] cb] w fun e w' => e = .returned (.tuple #[]) ∧ Aside (SWK enc kk w0 blk off (isortB (ltOf cf) l0).toArray w') := by
  have hins := ins_l enc kk hk5 cf g cb blk off cap l0.toArray w0 R (by simp; omega) eg (by simpa using hcmp)
  have hsym := sym_l enc kk hk5 cf g cb blk off cap O l0.toArray w0 R (by simp; omega) eg (by simpa using hcmp)
  have hl0 : l0.toArray.size = l0.length := by simp
  rw [hl0] at hins hsym
  have HI := Lib.hid hins
  have HM := Lib.hid hsym
  have S0 : Aside (SWK enc kk w0 blk off ([] ++ l0).toArray w) := S
  obtain ⟨n, hn⟩ : ∃ n, n = l0.length := ⟨_, rfl⟩
  rw [← hn]
  rw [← hn] at hsz HI HM
  have HN := Lib.hid hn
  clear hins hsym hcmp S hl0 hn R
  clear hk5
  go_enter Try.func38, Try.ntmps38
  go_wp2
  go_loopg [7, 8] (n) (fun kx vi vj wr => ∃ (l r z : List α), vi = .int .i64 l.length ∧ vj = .int .i64 ((l.length : Int) + 20) ∧ l.length ≤ n ∧ n - l.length ≤ kx ∧ Aside (l ++ z = l0) ∧ Aside (PS (ltOf cf) 20 l r) ∧ Aside (SWK enc kk w0 blk off (r ++ z).toArray wr))
  case atStart => exact ⟨[], [], l0, rfl, rfl, Nat.zero_le _, by simp, rfl, .nil, S0⟩
  case round =>
    clear S0
    obtain ⟨l, r, z, rfl, rfl, h1, hk, HZ, HP, S1⟩ := hrel
    have hz : l.length + z.length = n := by have := HZ.out; rw [HN.out, ← this]; simp
    have hrl := HP.out.len
    by_cases hlt : l.length + 20 ≤ n
    · have hc : Calls Try.prog 46 #[.slice (some ⟨blk, off, none⟩) n cap, .int .i64 l.length, .int .i64 ((l.length : Int) + 20), .func (.func g) #[] cb] wr fun e w' => e = .returned (.tuple #[]) ∧ Aside (SWK enc kk w0 blk off (r ++ isortB (ltOf cf) (z.take 20) ++ z.drop 20).toArray w') :=
        HI.out r (z.take 20) (z.drop 20) wr _ _ (by omega) (by rw [List.length_take]; omega) (by rw [List.append_assoc, List.take_append_drop]; simp; omega) (by rw [List.append_assoc, List.take_append_drop]; exact S1.out)
      have hnew : ∀ w', Aside (SWK enc kk w0 blk off (r ++ isortB (ltOf cf) (z.take 20) ++ z.drop 20).toArray w') → ∃ (l' r' z' : List α), Value.int .i64 ((l.length : Int) + 20) = .int .i64 l'.length ∧ Value.int .i64 ((l.length : Int) + 20 + 20) = .int .i64 ((l'.length : Int) + 20) ∧ l'.length ≤ n ∧ n - l'.length ≤ n - (l.length + 20) ∧ Aside (l' ++ z' = l0) ∧ Aside (PS (ltOf cf) 20 l' r') ∧ Aside (SWK enc kk w0 blk off (r' ++ z').toArray w') := fun w' hw => by
        refine ⟨l ++ z.take 20, r ++ isortB (ltOf cf) (z.take 20), z.drop 20, by congr 1; simp; omega, by congr 1; simp; omega, by simp; omega, by simp; omega, ?_, .snoc _ HP.out (by rw [List.length_take]; omega), hw⟩
        show _ = _
        rw [List.append_assoc, List.take_append_drop]; exact HZ.out
      have Hc := Lib.hid hc
      have Hn := Lib.hid hnew
      clear hc hnew HI HM S1 HP HZ hrl hz HN
      generalize l.length = a at *
      have hz2 : (a : Int) + 20 ≤ (n : Int) := by omega
      go_wp2_with (go_at_call 46; (with_reducible refine Hc.out.mono ?_); rintro e wa ⟨rfl, hwa⟩)
      go_roundg (n - (a + 20))
      case measure => omega
      case rel => exact Hn.out _ hwa
    · have hc : Calls Try.prog 46 #[.slice (some ⟨blk, off, none⟩) n cap, .int .i64 l.length, .int .i64 n, .func (.func g) #[] cb] wr fun e w' => e = .returned (.tuple #[]) ∧ Aside (SWK enc kk w0 blk off (r ++ isortB (ltOf cf) z).toArray w') := by
        have := HI.out r z [] wr (l.length : Int) (n : Int) (by omega) (by omega) (by simp; omega) (by simpa using S1.out)
        simpa using this
      have hcs : CS (ltOf cf) 20 l0 (r ++ isortB (ltOf cf) z) := by rw [← HZ.out]; exact HP.out.join (.last z (by omega))
      have HC := Lib.hid hcs
      have Hc := Lib.hid hc
      clear hc hcs HI S1 HP HZ hrl hz
      generalize r ++ isortB (ltOf cf) z = d1 at *
      generalize l.length = a at *
      have hz2 : ¬ (a : Int) + 20 ≤ (n : Int) := by omega
      go_wp2_with (go_at_call 46; (with_reducible refine Hc.out.mono ?_); rintro e wa ⟨rfl, hwa⟩)
      clear Hc hlt hz2 hk h1
      go_loopg [6] (n) (fun kx v6 wr => ∃ (bs : Nat) (d : List α), v6 = .int .i64 bs ∧ 20 ≤ bs ∧ bs ≤ 2 * n + 20 ∧ n - bs ≤ kx ∧ Aside (CS (ltOf cf) bs l0 d) ∧ Aside (SWK enc kk w0 blk off d.toArray wr))
      case atStart => exact ⟨20, d1, rfl, Nat.le_refl _, by omega, by omega, HC.out, hwa⟩
      case round =>
        clear hwa HC
        obtain ⟨bs, d, rfl, hb1, hb2, hkb, HC, S1⟩ := hrel
        by_cases hlt : bs < n
        · have hz2 : (bs : Int) < (n : Int) := by omega
          have hz3 : (n : Int) ≤ 100000 := by omega
          go_wp2_with fail
          go_loopg [7, 8] (n) (fun kx vi vj wr => ∃ (l r z y : List α), vi = .int .i64 l.length ∧ vj = .int .i64 ((l.length : Int) + 2 * (bs : Int)) ∧ l.length ≤ n ∧ n - l.length ≤ kx ∧ Aside (l ++ z = l0) ∧ Aside (PS (ltOf cf) (2 * bs) l r) ∧ Aside (CS (ltOf cf) bs z y) ∧ Aside (SWK enc kk w0 blk off (r ++ y).toArray wr))
          case atStart => exact ⟨[], [], l0, d, rfl, by simp, Nat.zero_le _, by simp, rfl, .nil, HC, S1⟩
          case round =>
            clear S1 HC
            obtain ⟨l, r, z, y, rfl, rfl, h1, hk, HZ, HP, HQ, S1⟩ := hrel
            have hz : l.length + z.length = n := by have := HZ.out; rw [HN.out, ← this]; simp
            have hrl := HP.out.len
            by_cases hlt2 : l.length + 2 * bs ≤ n
            · obtain ⟨x1, x2, z2, y2, hzx, hyx, lx1, lx2, HQ2⟩ := HQ.out.two (by omega) (by omega)
              have hlz : z.length = x1.length + x2.length + z2.length := by rw [hzx]; simp; omega
              have hly := HQ2.len
              have hc : Calls Try.prog 47 #[.slice (some ⟨blk, off, none⟩) n cap, .int .i64 l.length, .int .i64 ((l.length : Int) + (bs : Int)), .int .i64 ((l.length : Int) + 2 * (bs : Int)), .func (.func g) #[] cb] wr fun e w' => e = .returned (.tuple #[]) ∧ Aside (SWK enc kk w0 blk off (r ++ isortB (ltOf cf) (x1 ++ x2) ++ y2).toArray w') :=
                HM.out r x1 x2 y2 (by omega) (by omega) wr _ _ _ (by omega) (by omega) (by omega) (by simp [isortB_length]; omega) (by have := S1.out; rw [hyx] at this; simpa using this)
              have hnew : ∀ w', Aside (SWK enc kk w0 blk off (r ++ isortB (ltOf cf) (x1 ++ x2) ++ y2).toArray w') → ∃ (l' r' z' y' : List α), Value.int .i64 ((l.length : Int) + 2 * (bs : Int)) = .int .i64 l'.length ∧ Value.int .i64 ((l.length : Int) + 2 * (bs : Int) + 2 * (bs : Int)) = .int .i64 ((l'.length : Int) + 2 * (bs : Int)) ∧ l'.length ≤ n ∧ n - l'.length ≤ n - (l.length + 2 * bs) ∧ Aside (l' ++ z' = l0) ∧ Aside (PS (ltOf cf) (2 * bs) l' r') ∧ Aside (CS (ltOf cf) bs z' y') ∧ Aside (SWK enc kk w0 blk off (r' ++ y').toArray w') := fun w' hw => by
                refine ⟨l ++ (x1 ++ x2), r ++ isortB (ltOf cf) (x1 ++ x2), z2, y2, by congr 1; simp; omega, by congr 1; simp; omega, by simp; omega, by simp; omega, ?_, .snoc _ HP.out (by simp; omega), HQ2, hw⟩
                show _ = _
                rw [← HZ.out, hzx, List.append_assoc]
              have Hc := Lib.hid hc
              have Hn := Lib.hid hnew
              clear hc hnew HM S1 HP HZ HQ HQ2 hrl hz hzx hyx lx1 lx2 hlz hly HN
              generalize l.length = a at *
              have hz4 : (a : Int) + 2 * (bs : Int) ≤ (n : Int) := by omega
              go_wp2_with (go_at_call 47; (with_reducible refine Hc.out.mono ?_); rintro e wa ⟨rfl, hwa⟩)
              go_roundg (n - (a + 2 * bs))
              case measure => omega
              case rel => exact Hn.out _ hwa
            · have hend : ∀ w', Aside (SWK enc kk w0 blk off (r ++ isortB (ltOf cf) z).toArray w') → ∃ (bs' : Nat) (d' : List α), Value.int .i64 ((bs : Int) * 2) = .int .i64 bs' ∧ 20 ≤ bs' ∧ bs' ≤ 2 * n + 20 ∧ n - bs' ≤ n - 2 * bs ∧ Aside (CS (ltOf cf) bs' l0 d') ∧ Aside (SWK enc kk w0 blk off d'.toArray w') := fun w' hw => by
                refine ⟨2 * bs, _, by congr 1; omega, by omega, by omega, Nat.le_refl _, ?_, hw⟩
                show CS _ _ _ _
                rw [← HZ.out]
                exact HP.out.join (.last z (by omega))
              have Hn := Lib.hid hend
              by_cases hm : l.length + bs < n
              · obtain ⟨x1, z2, y2, hzx, hyx, lx1, HQ2⟩ := HQ.out.split (by omega)
                have hlz : z.length = x1.length + z2.length := by rw [hzx]; simp
                have hy2 := HQ2.short (by omega)
                have hc : Calls Try.prog 47 #[.slice (some ⟨blk, off, none⟩) n cap, .int .i64 l.length, .int .i64 ((l.length : Int) + (bs : Int)), .int .i64 (n : Int), .func (.func g) #[] cb] wr fun e w' => e = .returned (.tuple #[]) ∧ Aside (SWK enc kk w0 blk off (r ++ isortB (ltOf cf) z).toArray w') := by
                  have := HM.out r x1 z2 [] (by omega) (by omega) wr (l.length : Int) ((l.length : Int) + (bs : Int)) (n : Int) (by omega) (by omega) (by omega) (by simp [isortB_length]; omega) (by have := S1.out; rw [hyx, hy2] at this; simpa using this)
                  rw [hzx]
                  simpa using this
                have Hc := Lib.hid hc
                clear hc hend HM S1 HP HZ HQ HQ2 hrl hz hzx hyx lx1 hlz hy2 HN
                generalize l.length = a at *
                have hz4 : ¬ (a : Int) + 2 * (bs : Int) ≤ (n : Int) := by omega
                have hz5 : (a : Int) + (bs : Int) < (n : Int) := by omega
                go_wp2_with (go_at_call 47; (with_reducible refine Hc.out.mono ?_); rintro e wa ⟨rfl, hwa⟩)
                go_roundg (n - 2 * bs)
                case measure => omega
                case rel => exact Hn.out _ hwa
              · have hwa : Aside (SWK enc kk w0 blk off (r ++ isortB (ltOf cf) z).toArray wr) := by
                  have := HQ.out.short (by omega)
                  rw [← this]; exact S1
                clear hend HM S1 HP HZ HQ hrl hz HN
                generalize l.length = a at *
                have hz4 : ¬ (a : Int) + 2 * (bs : Int) ≤ (n : Int) := by omega
                have hz5 : ¬ (a : Int) + (bs : Int) < (n : Int) := by omega
                go_wp2_with fail
                go_roundg (n - 2 * bs)
                case measure => omega
                case rel => exact Hn.out _ hwa
        · have hz2 : ¬ (bs : Int) < (n : Int) := by omega
          have hR : Aside (SWK enc kk w0 blk off (isortB (ltOf cf) l0).toArray wr) := by
            have := HC.out.short (by have := HN.out; omega)
            rw [← this]; exact S1
          go_wp2_with fail
          go_end0
          exact ⟨rfl, hR⟩
/-- slices.SortStableFunc over a row of its own: the stable sort. -/
theorem sort_s (enc : α → List Value) (kk : Nat) (hk5 : kk = 5) (cf : α → α → Int) (g : Nat) (cb : Array Value) (blk off cap : Nat) (O : WO (ltOf cf)) (l0 : List α) (w0 : World) (R : RowK enc kk w0 blk off l0.toArray) (hsz : l0.length ≤ 100000)
    (eg : ∀ args w, (callFunc g args).run Try.prog w = .ok (.enter g args) w) (hcmp : CmpLays Try.prog g cb enc kk cf blk off l0.length w0) :
    Calls Try.prog 23 #[.slice (some ⟨blk, off, none⟩) l0.length cap, .func (.func g) #[] cb] w0 fun e w' => e = .returned (.tuple #[]) ∧ SWK enc kk w0 blk off (isortB (ltOf cf) l0).toArray w' := by
  have hi := stable_s enc kk hk5 cf g cb blk off cap O l0 w0 R hsz eg hcmp w0 (SWK.start R.hH)
  have Hi := Lib.hid hi
  clear hi hcmp R
  clear hk5
  go_enter Try.func23, Try.ntmps23
  go_wp2_with fail
  refine (Hi.out).mono ?_
  rintro e w1 ⟨rfl, S⟩
  go_wp2_with fail
  go_end0
  exact ⟨rfl, S.out⟩
end Go.Proofs.Ytadjadakncidgaa.St

