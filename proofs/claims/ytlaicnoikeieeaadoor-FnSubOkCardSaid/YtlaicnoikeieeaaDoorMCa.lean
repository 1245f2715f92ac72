/- The laws' own comparisons. -/
import Derived.Test.YtlaicnoikeieeaaDoorMTrm
import Derived.Test.YtlaicnoikeieeaaDoorMFree
import Derived.Test.YtlaicnoikeieeaaDoorP14
namespace Go.Proofs.YtlaicnoikeieeaaDoor.P
set_option linter.unusedVariables false
set_option linter.unusedSimpArgs false
open Go.RowKit Go.Proofs.YtlaicnoikeieeaaDoor.Cat Go.Proofs.YtlaicnoikeieeaaDoorW.PrintWords Go.Proofs.YtlaicnoikeieeaaDoorW.PrintLast

theorem caOk_ok:laws_caOk.f=some true:=by
 have h:isTerm [(⟨2,1,⟨#[]⟩⟩:Cell)]=true:=by decide
 unfold laws_caOk.f
 rw [iok,h]
 rfl
end Go.Proofs.YtlaicnoikeieeaaDoor.P
