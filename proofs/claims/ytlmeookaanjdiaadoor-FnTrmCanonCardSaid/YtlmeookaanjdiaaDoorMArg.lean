/- Arguments, shifts, names with arguments: what both answer. -/
import Derived.Test.YtlmeookaanjdiaaDoorMTrm
import Derived.Test.YtlmeookaanjdiaaDoorP6
import Derived.Test.YtlmeookaanjdiaaDoorP4
import Derived.Test.YtlmeookaanjdiaaDoorP4
namespace Go.Proofs.YtlmeookaanjdiaaDoor.P
set_option linter.unusedVariables false
set_option linter.unusedSimpArgs false
open Go.RowKit Go.Proofs.YtlmeookaanjdiaaDoor.Cat Go.Proofs.YtlmeookaanjdiaaDoorW.PrintWords Go.Proofs.YtlmeookaanjdiaaDoorW.PrintLast

/-- the arguments of a term -/
def argsOf (l : List Cell) : List (List Cell) := cut (ar (l.headD ⟨0, 0, ⟨#[]⟩⟩)) l.tail
/-- one of them -/
def argOf (l : List Cell) (k : Int) : List Cell := if isTerm l = true ∧ 0 ≤ k ∧ k < ((argsOf l).length : Int) then (argsOf l).getD k.toNat [] else []

theorem args_spec {l : List Cell} (h : isTerm l = true) : ∃ c gs, l = c :: gs.flatten ∧ argsOf l = gs ∧ gs.length = ar c ∧ (∀ x ∈ gs, Forest 1 x) ∧ okl l ∧ l.length ≤ 40 := by
  obtain ⟨h1, h2, h3, h4⟩ := isTerm_iff.1 h
  obtain ⟨c, r, e, hr⟩ := h4.one
  obtain ⟨f1, f2, f3⟩ := cut_spec hr
  refine ⟨c, cut (ar c) r, by rw [f1, e], by rw [e]; rfl, f2, f3, h3, h2⟩

theorem arity_ok {c : Cell} (h : cellOk c = true) : impl_TrmCell_arity.f c.f0 c.f1 c.f2 = some ((ar c : Nat) : Int) := (cellOk_ar h).1

theorem size_app {u r : List Cell} (hu : Forest 1 u) : Cat.sizeOf (u ++ r) = u.length := by
  unfold Cat.sizeOf
  rw [hu.skip_app]
  simp

theorem clone_ok (l : List Cell) (h : l.length ≤ 1099511627776) : slices_Clone_TrmCell.f l = some l := by
  unfold slices_Clone_TrmCell.f
  rw [if_pos (by omega)]

theorem arg_small {l : List Cell} (h : isTerm l = true) {x : List Cell} (hx : x ∈ argsOf l) : x.length ≤ 39 ∧ Forest 1 x ∧ okl x := by
  obtain ⟨c, gs, e, ea, hn, hf, ho, hl⟩ := args_spec h
  rw [ea] at hx
  have hs : ∀ d ∈ x, d ∈ gs.flatten := fun d hd => List.mem_flatten.2 ⟨x, hx, hd⟩
  have hlen : x.length ≤ gs.flatten.length := (List.sublist_flatten_of_mem hx).length_le
  rw [e] at hl
  simp only [List.length_cons] at hl
  exact ⟨by omega, hf x hx, fun d hd => ho d (by rw [e]; exact List.mem_cons_of_mem _ (hs d hd))⟩

theorem arg_term {l : List Cell} (h : isTerm l = true) {x : List Cell} (hx : x ∈ argsOf l) : isTerm x = true := by
  obtain ⟨a, b, c⟩ := arg_small h hx
  exact isTerm_iff.2 ⟨b.len, by omega, c, b⟩

theorem getD_mem {α : Type} (l : List α) (i : Nat) (d : α) (h : i < l.length) : l.getD i d ∈ l := by
  simp only [List.getD_eq_getElem?_getD, List.getElem?_eq_getElem h, Option.getD_some]
  exact List.getElem_mem h

theorem argOf_len (l : List Cell) (k : Int) : (argOf l k).length ≤ 39 := by
  unfold argOf
  by_cases h : isTerm l = true ∧ 0 ≤ k ∧ k < ((argsOf l).length : Int)
  · rw [if_pos h]
    exact (arg_small h.1 (getD_mem _ _ _ (by omega))).1
  · rw [if_neg h]; simp

end Go.Proofs.YtlmeookaanjdiaaDoor.P
