/- Closed facts of the row of FnPrgNode: each computed by the kernel. Conditions: none. -/
import Derived.Test.YtlhniagacegbeaaDoorRows
import Derived.Test.YtlhniagacegbeaaDoorTie
import Derived.Test.YtlhniagacegbeaaDoorCards
import Derived.WalkKit
import Derived.ProofKit
import Derived.OpenShut
import Derived.ShutString
import Derived.ChangeOld
import Derived.Below
import Derived.SizedLaws
import Derived.LaidMore
import Derived.Lay
import Derived.SevenTiedAt
import Derived.Stop.Joined
namespace Go.Proofs.YtlhniagacegbeaaDoor.RowFnPrgNode
open Go.ChangeShapes Go.WideShapes Go.ChangeAt Go.RowKit
set_option linter.unusedVariables false
set_option linter.unusedSimpArgs false
theorem own:ownKnob Tryd.prog.godebug=none:=by kernel_rfl
theorem jf0:(Rows.fnPrgNodeRow.wf (OpenSpec.ofChange Rows.fnPrgNodeSpec))=true:=by kernel_rfl
theorem jf2:(mapsRowed Tryd.prog)=true:=by kernel_rfl
theorem jf4:(namedTie Tryd.prog Rows.fnPrgNodeRow.named Rows.fnPrgNodeSpec.vars)=true:=by kernel_rfl
theorem jf6:((Tryd.prog.stops == []))=true:=by kernel_rfl
theorem jf8:((Tryd.prog.stopKnobs == []))=true:=by kernel_rfl
theorem jf10:((Rows.fnPrgNodeRow.unfollowed == Tryd.prog.unfollowed 4))=true:=by kernel_rfl
theorem jf12:((Rows.fnPrgNodeRow.named == Tryd.prog.varsNamed 4))=true:=by kernel_rfl
theorem jf14:((Rows.fnPrgNodeRow.ifaces == (Tryd.f4.params.toList++Rows.fnPrgNodeSpec.plain.varTypes Tryd.prog).any (Tryd.prog.ifacesRec ·)))=true:=by kernel_rfl
theorem jf16:((Rows.fnPrgNodeRow.loops == (Tryd.f4.params.toList++Rows.fnPrgNodeSpec.plain.varTypes Tryd.prog).any (Tryd.prog.loopsFrom ·)))=true:=by kernel_rfl
theorem jf18:(Rows.fnPrgNodeSpec.vars.all (Tryd.prog.varReadable ·))=true:=by kernel_rfl
theorem jf20:((Rows.fnPrgNodeRow.ifacesOut == Tryd.f4.resultTypes.toList.any (Tryd.prog.ifacesRec ·)))=true:=by kernel_rfl
theorem jf22:((Rows.fnPrgNodeRow.plainKeys == Tryd.prog.plainKeys))=true:=by kernel_rfl
theorem jf24:(Tryd.prog.stopsHeard)=true:=by kernel_rfl
theorem jf26:((Rows.fnPrgNodeRow.lifted == Tryd.prog.liftsFinal))=true:=by kernel_rfl
theorem jf28:((Rows.fnPrgNodeRow.kinds == (if Rows.fnPrgNodeRow.domain.isEmpty then [] else Tryd.f4.params.toList.map fun t=>match Tryd.prog.underlying t with|some (.int k)=>some k|_=>none)))=true:=by kernel_rfl
theorem jf30:((Rows.fnPrgNodeRow.veiled == (Tryd.f4.params.toList++Rows.fnPrgNodeSpec.plain.varTypes Tryd.prog++Tryd.f4.resultTypes.toList).any (Tryd.prog.veiledRec ·)))=true:=by kernel_rfl
theorem named_ : Tryd.prog.funcNamed "loop.example/catechist/laws.FnPrgNode" = some 4 := by kernel_rfl
theorem wrap_:Tryd.f4.isWrapper Tryd.prog Rows.fnPrgNodeRow.wrapper Rows.fnPrgNodeRow.mainSum:=by unfold Func.isWrapper;first|(rw [if_pos (by decide +kernel)];kernel_rfl)|(rw [if_neg (by decide +kernel)];exact ⟨rfl,rfl⟩)
theorem main_ : Tryd.prog.mainIs = some (true, "f045b175de8376598349c0e5f4aa9405467945c4d811aaec98045cf7205f6236".toList) := by kernel_rfl
theorem stand_:([33].all fun u=>!Tryd.prog.wantsStandIn u)=true:=by kernel_rfl
end Go.Proofs.YtlhniagacegbeaaDoor.RowFnPrgNode
