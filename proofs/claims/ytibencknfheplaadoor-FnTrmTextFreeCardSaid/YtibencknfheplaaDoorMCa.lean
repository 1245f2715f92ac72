/- The laws' own comparisons. -/
import Derived.Test.YtibencknfheplaaDoorMTrm
import Derived.Test.YtibencknfheplaaDoorMFree
import Derived.Test.YtibencknfheplaaDoorP7
namespace Go.Proofs.YtibencknfheplaaDoor.P
set_option linter.unusedVariables false
set_option linter.unusedSimpArgs false
open Go.RowKit Go.Proofs.YtibencknfheplaaDoor.Cat Go.Proofs.YtibencknfheplaaDoorW.PrintWords Go.Proofs.YtibencknfheplaaDoorW.PrintLast

theorem caOk_ok:laws_caOk.f=some true:=by
 have h:isTerm [(⟨2,1,⟨#[]⟩⟩:Cell)]=true:=by decide
 unfold laws_caOk.f
 rw [iok,h]
 rfl
end Go.Proofs.YtibencknfheplaaDoor.P
