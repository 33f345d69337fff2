/- router.Rank: fewer than twenty offers; walked. -/
import Derived.Test.YtadjadakncidgaaRou1
import Derived.Laws.MakeOwn
import Derived.Laws.OwnMore
import Derived.WalkLawsBesides
set_option linter.unusedVariables false
set_option linter.unusedSimpArgs false
namespace Go.Proofs.Ytadjadakncidgaa.Hand
open Go Go.RowKit Go.Lib Go.Sort Go.Shelf Go.Proofs.YtadjadakncidgaaW.PrintWords Go.Proofs.YtadjadakncidgaaW.PrintMore Go.Proofs.Ytadjadakncidgaa.St
/-- A row of offers that is read. -/
def OffR (W : World) (A : Option Addr) (l : List Off) : Prop := ∀ i (h : i < l.length), ∃ x, A = some x ∧ W.cell? (x.add (i * 5)) = some (.int .i64 l[i].f0) ∧ W.cell? (x.add (i * 5 + 1)) = some (.int .i64 l[i].f1) ∧ W.cell? (x.add (i * 5 + 2)) = some (.int .i64 l[i].f2) ∧ W.cell? (x.add (i * 5 + 3)) = some (.int .i64 l[i].f3) ∧ W.cell? (x.add (i * 5 + 4)) = some (.bool l[i].f4)
theorem OffR.below {W W' : World} {A : Option Addr} {l : List Off} (h : OffR W A l) (hb : Below W.heap.size W W') : OffR W' A l := by
  intro i hi
  obtain ⟨x, rfl, c0, c1, c2, c3, c4⟩ := h i hi
  exact ⟨x, rfl, (hb.cell (World.block_lt_of_cell? W _ c0)).trans c0, (hb.cell (World.block_lt_of_cell? W _ c1)).trans c1, (hb.cell (World.block_lt_of_cell? W _ c2)).trans c2, (hb.cell (World.block_lt_of_cell? W _ c3)).trans c3, (hb.cell (World.block_lt_of_cell? W _ c4)).trans c4⟩
/-- The cells of offers, one behind the other. -/
def offC (l : List Off) : List Value := l.flatMap encO
theorem offC_len (l : List Off) : (offC l).length = l.length * 5 := by
  unfold offC
  induction l with
  | nil => rfl
  | cons x l ih => rw [List.flatMap_cons, List.length_append, ih, encO_len, List.length_cons]; omega
theorem offC_cons (x : Off) (l : List Off) : offC (x :: l) = encO x ++ offC l := List.flatMap_cons
theorem offC_at (l : List Off) (i c : Nat) (hi : i < l.length) (hc : c < 5) : (offC l)[i * 5 + c]? = (encO l[i])[c]? := by
  induction l generalizing i with
  | nil => simp at hi
  | cons x l ih =>
    rw [offC_cons]
    cases i with
    | zero => rw [List.getElem?_append_left (by rw [encO_len]; omega)]; simp
    | succ i =>
      rw [List.getElem?_append_right (by rw [encO_len]; omega), encO_len, show (i + 1) * 5 + c - 5 = i * 5 + c by omega, ih i (by simpa using hi)]
      rfl
theorem offC_one (l : List Off) : ∀ v ∈ offC l, v.oneCell' = true := by
  intro v hv
  unfold offC at hv
  obtain ⟨x, _, hx⟩ := List.mem_flatMap.1 hv
  exact encO_one x v hx
theorem OffR.src {W : World} {x : Addr} {l : List Off} (h : OffR W (some x) l) : ∀ j v, (offC l)[j]? = some v → W.cell? (x.add j) = some v := by
  intro j v hj
  have hlt : j < l.length * 5 := by rw [← offC_len]; exact (List.getElem?_eq_some_iff.1 hj).1
  obtain ⟨i, c, hc, rfl⟩ : ∃ i c, c < 5 ∧ j = i * 5 + c := ⟨j / 5, j % 5, Nat.mod_lt _ (by omega), by omega⟩
  have hi : i < l.length := by omega
  rw [offC_at l i c hi hc] at hj
  obtain ⟨y, e, c0, c1, c2, c3, c4⟩ := h i hi
  cases e
  rcases c with _ | _ | _ | _ | _ | c
  · simp [encO] at hj; rw [← hj]; exact c0
  · simp [encO] at hj; rw [← hj]; exact c1
  · simp [encO] at hj; rw [← hj]; exact c2
  · simp [encO] at hj; rw [← hj]; exact c3
  · simp [encO] at hj; rw [← hj]; exact c4
  · omega
theorem copy_offers (w : World) (g n : Nat) (A : Option Addr) (c : Nat) (l : List Off) (cur : Array Value) (hn : l.length = n) (hcur : cur.size = n * 5) (hg : w.heap[g]? = some (.cells cur 35 (0, 0))) (hl : OffR w A l) (hA : A = none → n = 0) :
    (Builtin.copy_ #[29, 29] 3 #[.slice (some ⟨g, 0, none⟩) n n, .slice A n c]).run Try.prog w = .ok (.int .i64 n) (w.setRow g (offC l).toArray) := by
  have info : (Try.prog.info? 35).map (·.size) = some 5 := by kernel_rfl
  cases A with
  | none =>
    obtain rfl := hA rfl
    have hl0 : l = [] := List.eq_nil_of_length_eq_zero hn
    subst hl0
    have e : (offC []).toArray = cur := by apply Array.ext'; simp [offC]; exact (Array.size_eq_zero_iff.1 (by simpa using hcur))
    rw [e, setRow_self w g cur _ _ hg]
    cases hq : Try.prog.info? 35 with
    | none => rw [hq] at info; simp at info
    | some i =>
      have hi : i.size = 5 := by rw [hq] at info; simpa using info
      have hl0 : ∀ (x : Addr), (loadCells x 0).run Try.prog w = .ok #[] w := fun x => by simpa using run_loadCells_list (P := Try.prog) w x [] (by simp)
      simp [Builtin.copy_, run_underlying Try.underlying29, Builtin.lenOf, Builtin.firstCells, sizeOf, typeInfo, hq, hi, storeCells, hl0]
      rfl
  | some x =>
    have hsrc := hl.src
    have hlen : (offC l).length = n * 5 := by rw [offC_len, hn]
    have h1 := run_loadCells_list (P := Try.prog) w x (offC l) hsrc
    have h2 := run_storeCells_at Try.prog g 0 35 (offC l) 0 cur w hg (by rw [hlen, hcur]; omega) (offC_one l)
    have e : (cur.toList.take (0 + 0) ++ offC l ++ cur.toList.drop (0 + 0 + (offC l).length)).toArray = (offC l).toArray := by
      rw [hlen, List.drop_of_length_le (by simp [hcur])]
      simp
    rw [e] at h2
    cases hq : Try.prog.info? 35 with
    | none => rw [hq] at info; simp at info
    | some i =>
      have hi : i.size = 5 := by rw [hq] at info; simpa using info
      have hmin : Nat.min n n * 5 = (offC l).length := by rw [hlen]; simp
      simp [Builtin.copy_, run_underlying Try.underlying29, Builtin.lenOf, Builtin.firstCells, sizeOf, typeInfo, hq, hi]
      rw [hlen] at h1
      simp [h1, h2]
      rfl
theorem make_offers (n : Nat) (hn : n ≤ 3000000) (w : World) : (Instr.makeSlice 29 (.int .i64 n) (.int .i64 n)).run Try.prog w = .ok (.slice (some ⟨w.heap.size, 0, none⟩) n n) (w.alloc (.cells (madeCells #[.int .i64 0, .int .i64 0, .int .i64 0, .int .i64 0, .bool false] (n * 5)) 35)) := by
  have info : (Try.prog.info? 35).map (fun i => (i.zero, i.size, i.bytes)) = some (some (.agg #[.int .i64 0, .int .i64 0, .int .i64 0, .int .i64 0, .bool false]), 5, 40) := by kernel_rfl
  obtain ⟨i0, hi, hz0, hz1, hz2⟩ := info_parts info
  have := run_makeSlice (P := Try.prog) (w := w) 29 35 i0 _ Try.underlying29 hi hz0 .i64 .i64 (n : Int) (n : Int) (by omega) (Int.le_refl _) (by rw [hz1]; omega) (by rw [hz2]; omega) (by omega)
  rw [this, hz1]
  have e : (Value.agg #[.int .i64 0, .int .i64 0, .int .i64 0, .int .i64 0, .bool false]).cells = #[.int .i64 0, .int .i64 0, .int .i64 0, .int .i64 0, .bool false] := by kernel_rfl
  rw [e]
  rfl
theorem madeCells_size (z : Array Value) (m : Nat) : (madeCells z m).size = m := by simp [madeCells]
theorem holdsK_blk {w : World} {g : Nat} {l : List Off} (h : Blk w g 35 (offC l).toArray) : HoldsK encO 5 w g 0 l.toArray := by
  intro j hj
  rw [size_flatK] at hj
  simp only [List.size_toArray] at hj
  refine ⟨?_, h.frozen _⟩
  rw [Nat.zero_add, h.cell j, get_flatK _ _ _ _ (by simpa using hj)]
  have hd : j / 5 < l.length := by omega
  have hm : j % 5 < 5 := Nat.mod_lt _ (by omega)
  have e := offC_at l (j / 5) (j % 5) hd hm
  rw [show j / 5 * 5 + j % 5 = j by omega] at e
  have e2 : l.toArray[j / 5]! = l[j / 5] := by simp [hd]
  rw [e2]
  have hlt : j % 5 < (encO l[j / 5]).length := hm
  have e3 : (offC l).toArray[j]? = (offC l)[j]? := by simp
  rw [e3, e, List.getElem?_eq_getElem hlt]
  simp [hlt]
theorem holdsK_read {w : World} {g : Nat} {l : List Off} (h : HoldsK encO 5 w g 0 l.toArray) : OffR w (some ⟨g, 0, none⟩) l := by
  intro i hi
  have e2 : l.toArray[i]! = l[i] := by simp [hi]
  have c := fun c (hc : c < 5) => (HoldsK.cell h (i := i) (c := c) (by simpa using hi) hc).1
  have ad : ∀ m, (⟨g, 0, none⟩ : Addr).add m = ⟨g, 0 + m, none⟩ := fun m => by unfold Addr.add; split <;> simp_all
  refine ⟨_, rfl, ?_, ?_, ?_, ?_, ?_⟩
  · have := c 0 (by omega); rw [e2] at this; rw [ad]; simpa [encO] using this
  · have := c 1 (by omega); rw [e2] at this; rw [ad]; simpa [encO, Nat.add_assoc] using this
  · have := c 2 (by omega); rw [e2] at this; rw [ad]; simpa [encO, Nat.add_assoc] using this
  · have := c 3 (by omega); rw [e2] at this; rw [ad]; simpa [encO, Nat.add_assoc] using this
  · have := c 4 (by omega); rw [e2] at this; rw [ad]; simpa [encO, Nat.add_assoc] using this
theorem swk_below {w W : World} {blk B : Nat} {d : Array Off} (h : SWK encO 5 w blk 0 d W) (hB : B ≤ blk) (hb : B ≤ w.heap.size) : Below B w W := by
  obtain ⟨n, os, rfl⟩ := h
  have h1 : Below B w (putRowK encO 5 (Sort.ahead w n) blk 0 d) := by
    refine ⟨rfl, rfl, rfl, ?_, fun k hk => ?_⟩
    · rw [size_putRowK]; exact Nat.le_refl _
    · show ((Sort.ahead w n).heap.modify blk _)[k]? = _
      rw [Array.getElem?_modify, if_neg (by omega)]
      rfl
  refine h1.trans ⟨rfl, rfl, rfl, ?_, fun k hk => ?_⟩
  · unfold sortWorldK; rw [size_grow]; omega
  · show ((putRowK encO 5 (Sort.ahead w n) blk 0 d).heap ++ os)[k]? = _
    rw [Array.getElem?_append_left (by rw [size_putRowK]; show k < w.heap.size; omega)]
end Go.Proofs.Ytadjadakncidgaa.Hand
namespace Go.Proofs.Ytadjadakncidgaa.Hand
open Go Go.RowKit Go.Lib Go.Sort Go.Shelf Go.Proofs.YtadjadakncidgaaW.PrintWords Go.Proofs.YtadjadakncidgaaW.PrintMore Go.Proofs.Ytadjadakncidgaa.St
/-- The builtin copy, by its run. -/
theorem wpList_copy_run {P : Program} {w : World} {ops : Array Oper} {rest : List Oper} {o : Oper} {a : Act} {Q : Exit → Act → World → Prop} (hgd : o.guard = none) (d s : Operand) (dT sT : TypeId)
    (ho : o.op = .call { callee := .builtin .copy, args := #[d, s], argTypes := #[dT, sT] }) (vd vs : Value) (hd : a.eval d = vd) (hs : a.eval s = vs) (r : Value) (w' : World)
    (hrun : (Builtin.copy_ #[dT, sT] o.type #[vd, vs]).run P w = .ok r w') (h : wpList P ops Q rest (a.put o.dst r) w') : wpList P ops Q (o :: rest) a w := by
  refine wpList_plain hgd fun K hK => ?_
  unfold Oper.wp
  simp [execOp, ho, resolve, invoke, builtin, hd, hs, hrun, Result.andThen]
  exact hK _ _ h
/-- The same as the print has it. -/
theorem offR_of {w : World} {A : Option Addr} {l : List Off} (h : Kd.C U.k35 w A l.length l) : OffR w A l := by
  intro i hi
  obtain ⟨ad, e, c0, c1, c2, c3, c4⟩ := U.at_T35 h i (by omega) (by omega)
  have e2 : U.rd_T35 l (i : Int) = l[i] := by unfold U.rd_T35; simp [hi]
  rw [e2] at c0 c1 c2 c3 c4
  simp only [Int.toNat_natCast] at c0 c1 c2 c3 c4
  refine ⟨ad, e, c0, ?_, ?_, ?_, ?_⟩
  · rw [add_field _ _ 1 (by omega)]; exact c1
  · rw [add_field _ _ 2 (by omega)]; exact c2
  · rw [add_field _ _ 3 (by omega)]; exact c3
  · rw [add_field _ _ 4 (by omega)]; exact c4
theorem offR_to {w : World} {A : Option Addr} {l : List Off} (hl : l.length ≤ 9223372036854775807) (h : OffR w A l) : Kd.C U.k35 w A l.length l := by
  refine ⟨rfl, hl, fun hp => ?_⟩
  obtain ⟨x, rfl, _⟩ := h 0 hp
  refine ⟨x, rfl, fun j p hj => ?_⟩
  have hlt : j < l.length := (List.getElem?_eq_some_iff.1 hj).1
  have e : l[j] = p := (List.getElem?_eq_some_iff.1 hj).2
  refine ⟨encO p, rfl, U.k35_mk _ _, fun i u hu => ?_⟩
  have hi : i < 5 := (List.getElem?_eq_some_iff.1 hu).1
  refine OffR.src h (j * 5 + i) u ?_
  rw [offC_at l j i hlt hi, e]
  exact hu
set_option maxHeartbeats 1000000 in
theorem rank_few (A : Option Addr) (c n : Nat) (l : List Off) (hn : l.length = n) (h20 : n < 20) (w : World) (hl : OffR w A l) (hA : A = none → n = 0) :
    Calls Try.prog 11 #[.slice A n c] w fun e w' => e = .returned (.slice (some ⟨w.heap.size, 0, none⟩) n n) ∧ OffR w' (some ⟨w.heap.size, 0, none⟩) (isortB ahd l) ∧ Below w.heap.size w w' ∧ w.heap.size < w'.heap.size := by
  have hm := fun w => make_offers n (by omega) w
  have z : (madeCells #[.int .i64 0, .int .i64 0, .int .i64 0, .int .i64 0, .bool false] (n * 5)).size = n * 5 := madeCells_size _ _
  generalize madeCells #[.int .i64 0, .int .i64 0, .int .i64 0, .int .i64 0, .bool false] (n * 5) = cur at *
  have B1 : Below w.heap.size w (w.alloc (.cells cur 35)) := (Below.refl _ _).alloc (Nat.le_refl _) _
  have g1 := Blk.new w 35 cur
  have hcp := copy_offers (w.alloc (.cells cur 35)) w.heap.size n A c l cur hn z g1 (hl.below B1) hA
  have g2 : Blk ((w.alloc (.cells cur 35)).setRow w.heap.size (offC l).toArray) w.heap.size 35 (offC l).toArray := setRow_heap _ _ _ _ _ _ g1
  have B2 : Below w.heap.size w ((w.alloc (.cells cur 35)).setRow w.heap.size (offC l).toArray) := B1.trans ⟨rfl, rfl, rfl, by simp [World.setRow], fun k hk => setRow_other _ _ k _ (by omega)⟩
  have hso := sort_few w.heap.size 0 n n l hn h20 _ (holdsK_blk g2) g2.lt
  have Hc := Lib.hid hcp
  have HB := Lib.hid B2
  have Hs := Lib.hid hso
  have Hg := Lib.hid g2
  have HP : Hid (∀ (_ : Nat) (_ : Array Obj), HoldsK encO 5 ((w.alloc (.cells cur 35)).setRow w.heap.size (offC l).toArray) w.heap.size 0 l.toArray) := fun _ _ => holdsK_blk g2
  clear hcp B2 hso B1 g1 g2 hl hA z
  go_enter Try.func11, Try.ntmps11
  go_wp2_with (refine wpList_copy_run rfl (.tmp 7) (.tmp 8) 29 29 rfl _ _ rfl rfl _ _ (Hc.out) ?_)
  refine (Hs.out).mono ?_
  rintro e w1 ⟨rfl, S⟩
  have hlt := Hg.out.lt
  have hh : HoldsK encO 5 w1 w.heap.size 0 (isortB ahd l).toArray := SWK.holds S hlt (HP.out 0 #[]) (by simp [isortB_length])
  have bb := swk_below S (Nat.le_refl _) HB.out.size
  have r := HB.out.trans bb
  have o := holdsK_read hh
  have sz : w.heap.size < w1.heap.size := Nat.lt_of_lt_of_le hlt bb.size
  clear S hh bb
  have HO := Lib.hid o
  clear o
  go_wp2_with fail
  go_ret
  exact ⟨rfl, HO.out, r, sz⟩
end Go.Proofs.Ytadjadakncidgaa.Hand
