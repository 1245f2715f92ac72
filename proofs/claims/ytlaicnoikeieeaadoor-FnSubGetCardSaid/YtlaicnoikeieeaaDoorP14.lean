/- Contracts of functions of the program: each as a Lean function, and that its call does what that says; printed by cprint.py (this session) over print.py of the kit. Conditions: the hypotheses of each theorem. -/
import Derived.Test.YtlaicnoikeieeaaDoorP0
import Derived.Test.YtlaicnoikeieeaaDoorP9
import Derived.Test.YtlaicnoikeieeaaDoorP11
import Derived.Test.YtlaicnoikeieeaaDoorP12
import Derived.Test.YtlaicnoikeieeaaDoorP13
namespace Go.Proofs.YtlaicnoikeieeaaDoor.P
open Go.RowKit Go.Proofs.YtlaicnoikeieeaaDoorW.PrintWords Go.Proofs.YtlaicnoikeieeaaDoorW.PrintLast Go.Proofs.YtlaicnoikeieeaaDoorW.PrintMore
attribute [local go_sem] max2_int min2_int max_two min_two max_three min_three max_four min_four   -- for this text's walks alone
set_option linter.unusedVariables false
set_option linter.unusedSimpArgs false

/-! ### impl_bindings_unify: function 95 -/
def cellEq (x y : Cat.Cell) : Bool := x.f0 == y.f0 && (x.f1 == y.f1 && (x.f2.toList == y.f2.toList))
theorem cellEq_iff (x y : Cat.Cell) : cellEq x y = true ↔ x = y := by
 unfold cellEq
 constructor
 ·intro h
  simp only [Bool.and_eq_true, beq_iff_eq] at h
  exact Cat.Cell.ext' h.1 h.2.1 (Cat.ba_ext (by rw [← Lib.toList_data, ← Lib.toList_data]; exact h.2.2))
 ·rintro rfl; simp
theorem eqC46 (d : Nat) (w : World) (x y : Cat.Cell) : (Op.equalIn (d + 2) 46 (.agg #[.int .i64 x.f0, .int .i64 x.f1, .string x.f2]) (.agg #[.int .i64 y.f0, .int .i64 y.f1, .string y.f2])).run Tryd.prog w = .ok (cellEq x y) w := by
 refine eqA_of Tryd.underlying46 (by kernel_rfl) ?_
 unfold cellEq
 refine eqf_cons (by rfl) (by go_simp; rfl) (by go_simp; rfl) (by go_simp) ?_
 refine eqf_cons (by rfl) (by go_simp; rfl) (by go_simp; rfl) (by go_simp) ?_
 exact eqf_last (by rfl) (by go_simp; rfl) (by go_simp; rfl) (by go_simp)
theorem head_cells (c : Cat.Cell) (l : List Cat.Cell) (W : World) (A : Option Addr) (h : Kd.C k46 W A (c :: l).length (c :: l)) : ∃ ad : Addr, A = some ad ∧ W.cell? ad = some (.int .i64 c.f0) ∧ W.cell? ⟨ad.block, ad.off + 1, none⟩ = some (.int .i64 c.f1) ∧ W.cell? ⟨ad.block, ad.off + 2, none⟩ = some (.string c.f2) := by
 obtain ⟨ad, e1, h0, h1, h2⟩ := at_T46 h 0 (Int.le_refl _) (by rw [List.length_cons]; omega)
 exact ⟨ad, e1, h0, h1, h2⟩
/-- what unify and bind leave -/
def UPost (w0 W : World) (row : Option Nat) (q : Option (List Cat.Bind)) (e : Ending) (w' : World) : Prop :=
 ∃ v1 row1, e = .returned (.tuple #[v1, .bool q.isSome]) ∧ (∀ s', q = some s' → Binds w0 w' v1 s' row1) ∧ W.grownBy w' row ∧ (row1 = row ∨ ∃ g, row1 = some g ∧ W.heap.size ≤ g)
theorem UPost.from {w0 W W1 : World} {row : Option Nat} {q : Option (List Cat.Bind)} {e : Ending} {w' : World} (hb : W.grownBy W1 row) (h : UPost w0 W1 row q e w') : UPost w0 W row q e w' := by
 obtain ⟨v1, row1, h1, h2, h3, h4⟩ := h
 refine ⟨v1, row1, h1, h2, grown_both hb h3, ?_⟩
 rcases h4 with h4 | ⟨g, h4, h5⟩
 ·exact .inl h4
 ·exact .inr ⟨g, h4, Nat.le_trans hb.size h5⟩
/-- arguments in memory: a row of the call's own whose elements are only read, and lie in no block of the bindings' row -/
def ARows (W : World) (row : Option Nat) (v : Value) (ls : List (List Cat.Cell)) : Prop := ∃ base, Kd.N (Kd.slice 46 k46) 26 W base (fun k => some k ≠ row) v ls
theorem ARows.step {W w' : World} {row row1 : Option Nat} {v : Value} {ls : List (List Cat.Cell)} (h : ARows W row v ls) (hg : W.grownBy w' row) (hr : row1 = row ∨ ∃ g, row1 = some g ∧ W.heap.size ≤ g) : ARows w' row1 v ls := by
 obtain ⟨base, h⟩ := h
 refine ⟨base, Kd.N_mono (Kd.N_grown (Kd.N_bound h) hg (fun k hk => hk.1)) (fun k hk => ?_)⟩
 rcases hr with rfl | ⟨g, rfl, hg'⟩
 ·exact hk.1
 ·intro e; injection e with e; have := hk.2; omega
theorem ARows.at_ {W : World} {row : Option Nat} {A : Option Addr} {n c : Nat} {ls : List (List Cat.Cell)} (h : ARows W row (.slice A n c) ls) (j : Nat) (hj : j < ls.length) : n = ls.length ∧ ∃ ad A1 c1, A = some ad ∧ W.cell? (ad.add j) = some (.slice A1 (ls[j]).length c1) ∧ (ls[j]).length ≤ c1 ∧ Kd.F k46 W (fun k => some k ≠ row) A1 (ls[j]).length (ls[j]) := by
 obtain ⟨base, h⟩ := h
 obtain ⟨e1, _, _⟩ := Kd.N_reads' h
 obtain ⟨g, cap, e2, _⟩ := Kd.N_form h (by omega)
 injection e2 with e2 e3 e4
 subst e2 e4
 obtain ⟨cs, hcl, hM, hcc⟩ := Kd.N_get h [] (j : Int) (by omega) (by omega)
 rw [Int.toNat_natCast] at hM hcc
 have eg : ls.getD j [] = ls[j] := by simp [List.getD, hj]
 rw [eg] at hM
 obtain ⟨A1, c1, rfl, ul, ge⟩ := Kd.FK_slice_open hM
 have hv := hcc 0 _ rfl
 rw [Nat.add_zero, show (Kd.slice 46 k46).sz = 1 from rfl, Nat.mul_one] at hv
 exact ⟨e1, _, A1, c1, rfl, hv, ul, Kd.F_mono ge (fun k hk => hk.1)⟩
theorem grown_row {W wr w5 : World} {row row' : Option Nat} (h : W.grownBy wr row) (hr : row' = row ∨ ∃ g, row' = some g ∧ W.heap.size ≤ g) (h5 : wr.grownBy w5 row') : W.grownBy w5 row :=
 ⟨h5.os.trans h.os, h5.tape.trans h.tape, h5.output.trans h.output, Nat.le_trans h.size h5.size, fun i hi hg => (h5.block i (Nat.lt_of_lt_of_le hi h.size) (by
  rcases hr with rfl | ⟨g, rfl, hg'⟩
  ·exact hg
  ·intro e; injection e with e; omega)).trans (h.block i hi hg)⟩
theorem row_row {W wr : World} {row row' row5 : Option Nat} (h : W.grownBy wr row) (hr : row' = row ∨ ∃ g, row' = some g ∧ W.heap.size ≤ g) (h5 : row5 = row' ∨ ∃ g, row5 = some g ∧ wr.heap.size ≤ g) : row5 = row ∨ ∃ g, row5 = some g ∧ W.heap.size ≤ g := by
 rcases h5 with rfl | ⟨g, rfl, hg⟩
 ·exact hr
 ·exact .inr ⟨g, rfl, Nat.le_trans h.size hg⟩
/-! ### impl_bindings_one: function 69 -/
theorem Binds.none_ {w0 W : World} (h : Below w0.heap.size w0 W) : Binds w0 W (.slice none 0 0) [] none :=
 ⟨h, by simp, [], ⟨rfl, .inl ⟨rfl, none, rfl, fun _ => rfl, fun b e => by cases e⟩⟩, fun j x hj => by simp at hj⟩
end Go.Proofs.YtlaicnoikeieeaaDoor.P
