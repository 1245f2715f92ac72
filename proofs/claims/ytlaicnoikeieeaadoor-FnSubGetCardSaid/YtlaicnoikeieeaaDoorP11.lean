/- Contracts of functions of the program: each as a Lean function, and that its call does what that says; printed by cprint.py (this session) over print.py of the kit. Conditions: the hypotheses of each theorem. -/
import Derived.Test.YtlaicnoikeieeaaDoorP0
namespace Go.Proofs.YtlaicnoikeieeaaDoor.P
open Go.RowKit Go.Proofs.YtlaicnoikeieeaaDoorW.PrintWords Go.Proofs.YtlaicnoikeieeaaDoorW.PrintLast Go.Proofs.YtlaicnoikeieeaaDoorW.PrintMore
attribute [local go_sem] max2_int min2_int max_two min_two max_three min_three max_four min_four   -- for this text's walks alone
set_option linter.unusedVariables false
set_option linter.unusedSimpArgs false

/-! ### impl_bindings_get: function 103 -/
/-- the last k numbers below n, the greatest first -/
def down (n k : Nat) : List Nat := (List.range k).map fun t => n - 1 - t
section
attribute [local go_sem] Oper.semAt_some
end
/-! ### impl_bindings_fill: function 96 -/
/-! ### impl_bindings_full: function 75 -/
/-! ### slices_Clip_bindings: function 94 -/
end Go.Proofs.YtlaicnoikeieeaaDoor.P
