/- Offers as the document has them, walked. -/
import Derived.Test.YtadjadakncidgaaRou4
set_option linter.unusedVariables false
set_option linter.unusedSimpArgs false
namespace Go.Proofs.Ytadjadakncidgaa.Hand
open Go Go.RowKit Go.Proofs.YtadjadakncidgaaW.PrintWords Go.Proofs.YtadjadakncidgaaW.PrintMore Go.Proofs.Ytadjadakncidgaa.RL Go.Proofs.Ytadjadakncidgaa.PL Go.Proofs.Ytadjadakncidgaa.St
abbrev Ofd := U.S36
def cvO (x : Off) : Ofd := ⟨x.f0, x.f1, x.f2, x.f3, x.f4⟩
theorem info_ofd : (Try.prog.info? 36).map (fun i => (i.zero, i.size, i.bytes)) = some (some (.agg #[.int .i64 0, .int .i64 0, .int .i64 0, .int .i64 0, .bool false]), 5, 40) := by kernel_rfl
set_option maxHeartbeats 4000000 in
set_option maxRecDepth 100000 in
theorem plain_walk (A : Option Addr) (c n : Nat) (l : List Off) (hn : l.length = n) (h3 : n ≤ 1000000) (w : World) (hl : OffR w A l) :
    Calls Try.prog 13 #[.slice A n c] w fun e w' => ∃ v0_ : Value, e = .returned v0_ ∧ Kd.R U.k36 36 w' w.heap.size (fun _ => True) v0_ (l.map cvO) ∧ Below w.heap.size w w' := by
  have HL := Lib.hid hl
  have HN := Lib.hid hn
  have Hinf := Lib.hid info_ofd
  clear hl hn
  go_enter Try.func13, Try.ntmps13
  go_wp2_with fail
  go_loopw [3, 8] (fun v i wr => ∃ k : Nat, k ≤ n ∧ i = .int .i64 k ∧ w.heap.size ≤ wr.heap.size ∧ Hid (Kd.R U.k36 36 wr w.heap.size (fun _ => True) v ((l.take k).map cvO) ∧ Below w.heap.size w wr)) (fun _ i _ => n - (intOf i).toNat)
  case atStart => exact ⟨0, Nat.zero_le _, rfl, Nat.le_refl _, Lib.hid ⟨Kd.R_nil _ _ _ _ _, Below.refl _ _⟩⟩
  case round =>
    obtain ⟨k, hk, rfl, hsz, H⟩ := hrel
    by_cases hlt : k < n
    · obtain ⟨r, b⟩ := H.out
      obtain ⟨x, rfl, c0, c1, c2, c3, c4⟩ := HL.out k (by rw [HN.out]; exact hlt)
      have old : ∀ {a : Addr} {v : Value}, w.cell? a = some v → wr.cell? a = some v := fun h => (b.cell (World.block_lt_of_cell? w _ h)).trans h
      replace c0 := old c0; replace c1 := old c1; replace c2 := old c2; replace c3 := old c3; replace c4 := old c4
      have hkl : k < l.length := by rw [HN.out]; exact hlt
      have htk : (l.take (k + 1)).map cvO = (l.take k).map cvO ++ [cvO l[k]] := by rw [List.take_succ_eq_append_getElem hkl, List.map_append]; rfl
      have hlen : ((l.take k).map cvO).length = k := by rw [List.length_map, List.length_take]; omega
      have HT := Lib.hid htk
      have HLn := Lib.hid hlen
      rw [add_field _ _ _ (by omega)] at c1 c2 c3 c4
      have q0 : (x.add (k * 5)).block < wr.heap.size := World.block_lt_of_cell? wr _ c0
      generalize l[k] = y at *
      clear old htk hlen hkl
      have kbx := Blk.new wr 35 #[.int .i64 y.f0, .int .i64 y.f1, .int .i64 y.f2, .int .i64 y.f3, .bool y.f4]
      have R5 := Lib.hid (Kd.R_below r ((Below.refl wr.heap.size wr).alloc (Nat.le_refl _) (.cells #[.int .i64 y.f0, .int .i64 y.f1, .int .i64 y.f2, .int .i64 y.f3, .bool y.f4] 35)))
      have B5 := Lib.hid (b.alloc b.size (.cells #[.int .i64 y.f0, .int .i64 y.f1, .int .i64 y.f2, .int .i64 y.f3, .bool y.f4] 35))
      have KX := Lib.hid kbx
      have hs5 : w.heap.size ≤ (wr.alloc (.cells #[.int .i64 y.f0, .int .i64 y.f1, .int .i64 y.f2, .int .i64 y.f3, .bool y.f4] 35)).heap.size := by simp; omega
      clear r b kbx H
      have tot : ((l.take k).map cvO).length + 1 ≤ 1000000 := by rw [HLn.out]; omega
      go_upto_region 5 with (fail)
      generalize hW5 : (wr.alloc (.cells #[.int .i64 y.f0, .int .i64 y.f1, .int .i64 y.f2, .int .i64 y.f3, .bool y.f4] 35)) = W5 at *
      generalize wr.heap.size = bx at *
      have x0 : W5.cell? ⟨bx, 0, none⟩ = some (.int .i64 y.f0) := KX.out.cell 0
      have x1 : W5.cell? ⟨bx, 1, none⟩ = some (.int .i64 y.f1) := KX.out.cell 1
      have x2 : W5.cell? ⟨bx, 2, none⟩ = some (.int .i64 y.f2) := KX.out.cell 2
      have x3 : W5.cell? ⟨bx, 3, none⟩ = some (.int .i64 y.f3) := KX.out.cell 3
      have x4 : W5.cell? ⟨bx, 4, none⟩ = some (.bool y.f4) := KX.out.cell 4
      clear hW5
      go_wp2_with (at_builtin; (refine Kd.R_append U.k36 (w0 := w) w.heap.size rfl (.tmp 12) (.tmp 14) 31 36 (.agg #[.int .i64 0, .int .i64 0, .int .i64 0, .int .i64 0, .bool false]) 40 rfl Try.underlying31 Hinf.out rfl (by decide) (by omega) u3 ((l.take k).map cvO) (cvO y) [.int .i64 y.f0, .int .i64 y.f1, .int .i64 y.f2, .int .i64 y.f3, .bool y.f4] (fun _ => True) (fun _ => False) rfl rfl (U.k36_mkM _ _ _ (cvO y)) (fun _ hk => hk.elim) (fun _ _ => trivial) R5.out B5.out hs5 (by omega) ?_); intro v1 w6 ho hb hg hat)
      have s6 : w.heap.size ≤ w6.heap.size := hb.size
      have HF := Lib.hid (show Kd.R U.k36 36 w6 w.heap.size (fun _ => True) v1 ((l.take (k + 1)).map cvO) ∧ Below w.heap.size w w6 from ⟨by rw [HT.out]; exact ho, hb⟩)
      clear ho hb hg hat R5 B5 KX HT HLn
      go_wp2_with fail
      go_roundw
      case rel => exact ⟨k + 1, by omega, by go_num, s6, HF⟩
      case measure => simp [intOf]; omega
    · obtain rfl : k = n := by omega
      go_wp2_with fail
      go_ret
      obtain ⟨r, b⟩ := H.out
      rw [List.take_of_length_le (by rw [HN.out]; exact Nat.le_refl _)] at r
      exact ⟨_, rfl, r, b⟩
def spigotlaw23_plain.f (l0 : List Off) : Option (List Ofd) := if l0.length ≤ 1000000 then some (l0.map cvO) else none
theorem spigotlaw23_plain.calls (A0 : Option Addr) (c0 : Nat) (l0 : List Off) (r : List Ofd) (w : World) (hr0 : Kd.C U.k35 w A0 l0.length l0) (hc0 : l0.length ≤ c0) (h : spigotlaw23_plain.f l0 = some r) :
    Calls Try.prog 13 #[.slice A0 l0.length c0] w fun e w' => ∃ v0_ : Value, e = .returned v0_ ∧ Kd.R U.k36 36 w' w.heap.size (fun _ => True) v0_ r ∧ Below w.heap.size w w' := by
  unfold spigotlaw23_plain.f at h
  split at h
  case isFalse => cases h
  case isTrue hlen =>
    have h := Option.some.inj h
    subst h
    exact plain_walk A0 c0 _ l0 rfl hlen w (offR_of hr0)
end Go.Proofs.Ytadjadakncidgaa.Hand
