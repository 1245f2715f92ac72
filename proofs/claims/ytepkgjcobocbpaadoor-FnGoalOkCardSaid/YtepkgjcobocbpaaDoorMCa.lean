/- The laws' own comparisons. -/
import Derived.Test.YtepkgjcobocbpaaDoorMTrm
import Derived.Test.YtepkgjcobocbpaaDoorMFree
import Derived.Test.YtepkgjcobocbpaaDoorP6
namespace Go.Proofs.YtepkgjcobocbpaaDoor.P
set_option linter.unusedVariables false
set_option linter.unusedSimpArgs false
open Go.RowKit Go.Proofs.YtepkgjcobocbpaaDoor.Cat Go.Proofs.YtepkgjcobocbpaaDoorW.PrintWords Go.Proofs.YtepkgjcobocbpaaDoorW.PrintLast

theorem caOk_ok:laws_caOk.f=some true:=by
 have h:isTerm [(⟨2,1,⟨#[]⟩⟩:Cell)]=true:=by decide
 unfold laws_caOk.f
 rw [iok,h]
 rfl
end Go.Proofs.YtepkgjcobocbpaaDoor.P
