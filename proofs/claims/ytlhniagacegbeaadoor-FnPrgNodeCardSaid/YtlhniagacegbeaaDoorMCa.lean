/- The laws' own comparisons. -/
import Derived.Test.YtlhniagacegbeaaDoorMTrm
import Derived.Test.YtlhniagacegbeaaDoorMFree
import Derived.Test.YtlhniagacegbeaaDoorP7
namespace Go.Proofs.YtlhniagacegbeaaDoor.P
set_option linter.unusedVariables false
set_option linter.unusedSimpArgs false
open Go.RowKit Go.Proofs.YtlhniagacegbeaaDoor.Cat Go.Proofs.YtlhniagacegbeaaDoorW.PrintWords Go.Proofs.YtlhniagacegbeaaDoorW.PrintLast
theorem caOk_ok:laws_caOk.f=some true:=by
 have h:isTerm [(⟨2,1,⟨#[]⟩⟩:Cell)]=true:=by decide
 unfold laws_caOk.f
 rw [iok,h]
 rfl
end Go.Proofs.YtlhniagacegbeaaDoor.P
