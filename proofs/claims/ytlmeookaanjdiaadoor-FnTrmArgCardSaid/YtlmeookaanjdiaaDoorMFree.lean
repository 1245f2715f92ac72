/- Variables of places, by the reference and by the program: frees; canon; the same. -/
import Derived.Test.YtlmeookaanjdiaaDoorMBase
namespace Go.Proofs.YtlmeookaanjdiaaDoor.P
set_option linter.unusedVariables false
set_option linter.unusedSimpArgs false
open Go.RowKit Go.Proofs.YtlmeookaanjdiaaDoor.Cat Go.Proofs.YtlmeookaanjdiaaDoorW.PrintWords Go.Proofs.YtlmeookaanjdiaaDoorW.PrintLast

theorem rdI (a r : List Int) (c : Int) : rd (a ++ c :: r) ((a.length : Nat) : Int) = c := by simp [rd, List.getD]

theorem freesOn_len : ∀ (r : List Cell) (acc : List Int), (freesOn acc r).length ≤ acc.length + r.length
  | [], acc => by simp [freesOn]
  | c :: r, acc => by
    unfold freesOn
    split
    · have := freesOn_len r (acc ++ [c.f1]); simp at this ⊢; omega
    · have := freesOn_len r acc; simp at this ⊢; omega

end Go.Proofs.YtlmeookaanjdiaaDoor.P
