/- The document's numbers as values: what holds one, and Of, Mul, Add, Neg, Int over them. -/
import Derived.Test.YtenlifjfehnldaaNeg
import Derived.Test.YtenlifjfehnldaaHandI
set_option linter.unusedVariables false
set_option linter.unusedSimpArgs false
namespace Go.Proofs.Ytenlifjfehnldaa.Hand
open Go Go.RowKit Go.Proofs.YtenlifjfehnldaaW.PrintWords Go.Proofs.YtenlifjfehnldaaW.PrintMore Go.Proofs.Ytenlifjfehnldaa.RL Go.Proofs.Ytenlifjfehnldaa.PL
/-- The digits of z lie at A (made since block base). -/
def Num (w : World) (base : Nat) (z : Int) (A : Option Addr) (c : Nat) : Prop := Kd.R Kd.bool 4 w base (fun _ => True) (.slice A (enc z).2.length c) (enc z).2
def numV (z : Int) (A : Option Addr) (c : Nat) : Value := .agg #[.bool (enc z).1, .slice A (enc z).2.length c]
def numC (z : Int) (A : Option Addr) (c : Nat) : Array Value := #[.bool (enc z).1, .slice A (enc z).2.length c]
theorem Num.C {w : World} {b : Nat} {z : Int} {A : Option Addr} {c : Nat} (h : Num w b z A c) : (enc z).2.length ≤ c ∧ Kd.C Kd.bool w A (enc z).2.length (enc z).2 := (Kd.R_reads' h).2
theorem Num.below {w w' : World} {b : Nat} {z : Int} {A : Option Addr} {c : Nat} (h : Num w b z A c) (hb : Below w.heap.size w w') : Num w' b z A c := Kd.R_below h hb
theorem Num.lower {w : World} {b b' : Nat} {z : Int} {A : Option Addr} {c : Nat} (h : Num w b z A c) (hb : b' ≤ b) : Num w b' z A c := Kd.R_lower h hb
theorem enc_zero : enc 0 = (false, []) := by unfold enc; simp [Bl.nbits]
theorem Num.zero (w : World) (b : Nat) : Num w b 0 none 0 := by unfold Num; rw [enc_zero]; exact Kd.R_nil _ _ _ _ _
theorem numV_zero : numV 0 none 0 = .agg #[.bool false, .slice none 0 0] := by unfold numV; rw [enc_zero]; rfl
theorem numC_zero : numC 0 none 0 = #[.bool false, .slice none 0 0] := by unfold numC; rw [enc_zero]; rfl
theorem Num.put {w : World} {b : Nat} {z : Int} {A : Option Addr} {c : Nat} (h : Num w b z A c) {g : Nat} {cs : Array Value} (hb : Blk w g 51 cs) (k : Nat) (u : Value) : Num (w.setCell ⟨g, k, none⟩ u) b z A c :=
  Kd.R_set h hb (by intro q hq; have hq' : q = 4 := by simpa [Kd.bool, Kd.scalar] using hq
                    subst hq'; decide) k u
theorem Num.neg {w : World} {b : Nat} {z : Int} {A : Option Addr} {c : Nat} (h : Num w b z A c) : Num w b (-z) A c := by
  have e : (enc (-z)).2 = (enc z).2 := by show Bl.nbits (-z).natAbs = Bl.nbits z.natAbs; rw [Int.natAbs_neg]
  unfold Num; rw [e]; exact h
theorem num_of (a : Int) (ha : in64 a) (w : World) :
    Calls Try.prog 21 #[.int .i64 a] w fun e w' => ∃ A c, e = .returned (numV a A c) ∧ Num w' w.heap.size a A c ∧ Below w.heap.size w w' := by
  refine (spigotref01_Of.calls a _ _ w (by unfold spigotref01_Of.f; rw [if_pos ha])).mono ?_
  rintro e w' ⟨v, rfl, r, b⟩
  obtain ⟨A, c, rfl⟩ := Kd.R_slice r
  exact ⟨A, c, rfl, r, b⟩
theorem num_mul (a b : Int) (ha : small a) (hb : small b) (A0 A1 : Option Addr) (c0 c1 b0 b1 : Nat) (w : World) (h0 : Num w b0 a A0 c0) (h1 : Num w b1 b A1 c1) :
    Calls Try.prog 20 #[numV a A0 c0, numV b A1 c1] w fun e w' => ∃ A c, e = .returned (numV (a * b) A c) ∧ Num w' w.heap.size (a * b) A c ∧ Below w.heap.size w w' := by
  refine (spigotref01_Mul.calls _ A0 c0 _ _ A1 c1 _ _ _ w h0.C.2 h0.C.1 h1.C.2 h1.C.1 (by unfold spigotref01_Mul.f; rw [if_pos ⟨okB_enc ha, okB_enc hb⟩, dec_enc, dec_enc])).mono ?_
  rintro e w' ⟨v, rfl, r, b⟩
  obtain ⟨A, c, rfl⟩ := Kd.R_slice r
  exact ⟨A, c, rfl, r, b⟩
theorem num_add (a b : Int) (ha : small a) (hb : small b) (A0 A1 : Option Addr) (c0 c1 b0 b1 : Nat) (w : World) (h0 : Num w b0 a A0 c0) (h1 : Num w b1 b A1 c1) :
    Calls Try.prog 35 #[numV a A0 c0, numV b A1 c1] w fun e w' => ∃ A c, e = .returned (numV (a + b) A c) ∧ Num w' w.heap.size (a + b) A c ∧ Below w.heap.size w w' := by
  refine (spigotref01_Add.calls _ A0 c0 _ _ A1 c1 _ _ _ w h0.C.2 h0.C.1 h1.C.2 h1.C.1 (by unfold spigotref01_Add.f; rw [if_pos ⟨okB_enc ha, okB_enc hb⟩, dec_enc, dec_enc])).mono ?_
  rintro e w' ⟨v, rfl, r, b⟩
  obtain ⟨A, c, rfl⟩ := Kd.R_slice r
  exact ⟨A, c, rfl, r, b⟩
theorem num_neg (z : Int) (A : Option Addr) (c b0 : Nat) (w : World) (h0 : Num w b0 z A c) :
    Calls Try.prog 34 #[numV z A c] w fun e w' => e = .returned (numV (-z) A c) ∧ Num w' b0 (-z) A c ∧ Below w.heap.size w w' := by
  have e1 : (enc (-z)).2 = (enc z).2 := by show Bl.nbits (-z).natAbs = Bl.nbits z.natAbs; rw [Int.natAbs_neg]
  refine (neg_enc z A c w).mono ?_
  rintro e w' ⟨rfl, b⟩
  exact ⟨by unfold numV; rw [e1], (h0.neg).below b, b⟩
theorem num_int (z : Int) (hz : small z) (A : Option Addr) (c b0 : Nat) (w : World) (h0 : Num w b0 z A c) :
    Calls Try.prog 24 #[numV z A c] w fun e w' => e = .returned (.tuple #[.int .i64 (intV z).1, .bool (intV z).2]) ∧ Below w.heap.size w w' :=
  spigotref01_Int.calls _ A c _ _ _ w h0.C.2 h0.C.1 (int_is z hz)
/-- A number written into a block that lay there as nothing. -/
theorem num_put {W6 w3 : World} {g b c : Nat} {z : Int} {A : Option Addr} {cs : Array Value} (h3 : Below W6.heap.size W6 w3) (hB : Blk w3 g 51 cs) (hcs : cs.size = 2) (hg : W6.heap.size ≤ g) (hn : Num w3 b z A c) (hb : W6.heap.size ≤ b) :
    Below W6.heap.size W6 ((w3.setCell ⟨g, 0, none⟩ (.bool (enc z).1)).setCell ⟨g, 1, none⟩ (.slice A (enc z).2.length c)) ∧ W6.heap.size ≤ g ∧
    Blk ((w3.setCell ⟨g, 0, none⟩ (.bool (enc z).1)).setCell ⟨g, 1, none⟩ (.slice A (enc z).2.length c)) g 51 (numC z A c) ∧
    Num ((w3.setCell ⟨g, 0, none⟩ (.bool (enc z).1)).setCell ⟨g, 1, none⟩ (.slice A (enc z).2.length c)) W6.heap.size z A c := by
  refine ⟨(h3.setCell hg _).setCell hg _, hg, ?_, ((hn.put hB 0 _).put (hB.put 0 _) 1 _).lower hb⟩
  have h := (hB.put 0 (.bool (enc z).1)).put 1 (.slice A (enc z).2.length c)
  have e : (cs.setIfInBounds 0 (.bool (enc z).1)).setIfInBounds 1 (.slice A (enc z).2.length c) = numC z A c := by
    obtain ⟨l⟩ := cs
    match l, hcs with
    | [x, y], _ => rfl
  rw [← e]; exact h
theorem num_new {W6 w3 : World} {b c : Nat} {z : Int} {A : Option Addr} (h3 : Below W6.heap.size W6 w3) (hn : Num w3 b z A c) (hb : W6.heap.size ≤ b) :
    Below W6.heap.size W6 (w3.alloc (.cells (numC z A c) 51)) ∧ W6.heap.size ≤ w3.heap.size ∧ Blk (w3.alloc (.cells (numC z A c) 51)) w3.heap.size 51 (numC z A c) ∧ Num (w3.alloc (.cells (numC z A c) 51)) W6.heap.size z A c :=
  ⟨h3.alloc h3.size _, h3.size, Blk.new _ _ _, (hn.lower hb).below ((Below.refl _ _).alloc (Nat.le_refl _) _)⟩
end Go.Proofs.Ytenlifjfehnldaa.Hand
