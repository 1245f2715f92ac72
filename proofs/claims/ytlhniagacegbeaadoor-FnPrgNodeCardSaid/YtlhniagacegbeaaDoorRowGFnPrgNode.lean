/- Closed facts of the row of FnPrgNode: each computed by the kernel. Conditions: none. -/
import Derived.Test.YtlhniagacegbeaaDoorRows
import Derived.Test.YtlhniagacegbeaaDoorTie
import Derived.Test.YtlhniagacegbeaaDoorCards
import Derived.WalkKit
import Derived.ProofKit
import Derived.OpenShut
import Derived.ShutString
import Derived.ChangeOld
import Derived.Below
import Derived.SizedLaws
import Derived.LaidMore
import Derived.Lay
import Derived.SevenTiedAt
import Derived.Stop.Joined
namespace Go.Proofs.YtlhniagacegbeaaDoor.RowFnPrgNode
open Go.ChangeShapes Go.WideShapes Go.ChangeAt Go.RowKit
set_option linter.unusedVariables false
set_option linter.unusedSimpArgs false
theorem laidOut:laidOutB Tryd.prog=true:=by kernel_rfl
theorem jf1:(laidOutB Tryd.prog)=true:=by kernel_rfl
theorem jf3:(Tryd.f4.params.all (Tryd.prog.readableRec ·))=true:=by kernel_rfl
theorem jf5:((Rows.fnPrgNodeRow.stops == []))=true:=by kernel_rfl
theorem jf7:((Rows.fnPrgNodeRow.knobs == []))=true:=by kernel_rfl
theorem jf9:((Rows.fnPrgNodeRow.inPlace == Tryd.prog.inPlace 4))=true:=by kernel_rfl
theorem jf11:((Rows.fnPrgNodeRow.recurses == Tryd.prog.recurses 4))=true:=by kernel_rfl
theorem jf13:((Rows.fnPrgNodeRow.maps == (Tryd.f4.params.toList++Rows.fnPrgNodeSpec.plain.varTypes Tryd.prog).any (Tryd.prog.mapsRec ·)))=true:=by kernel_rfl
theorem jf15:((Rows.fnPrgNodeRow.mapsOut == Tryd.prog.mapsAmong Tryd.f4.resultTypes.toList))=true:=by kernel_rfl
theorem jf17:((Rows.fnPrgNodeRow.wideKeys == (Tryd.f4.params.toList++Rows.fnPrgNodeSpec.plain.varTypes Tryd.prog++Tryd.f4.resultTypes.toList).any (Tryd.prog.wideKeysFrom ·)))=true:=by kernel_rfl
theorem jf19:(Tryd.f4.resultTypes.all (fun t=>Tryd.prog.readableRec t && decide (t<Tryd.prog.types.size)))=true:=by kernel_rfl
theorem jf21:((Rows.fnPrgNodeRow.loopsOut == Tryd.f4.resultTypes.toList.any (Tryd.prog.loopsFrom ·)))=true:=by kernel_rfl
theorem jf23:(Rows.fnPrgNodeRow.shortTexts.isNone)=true:=by kernel_rfl
theorem jf25:(Tryd.prog.mayEnter)=true:=by kernel_rfl
theorem jf27:((Tryd.prog.make == some Rows.fnPrgNodeRow.make))=true:=by kernel_rfl
theorem jf29:((Rows.fnPrgNodeRow.pinned == Rows.fnPrgNodeRow.pinnedBy))=true:=by kernel_rfl
theorem jf31:(Rows.fnPrgNodeRow.veiledFits Tryd.prog Tryd.f4.params.toList (Tryd.f4.params.toList++Rows.fnPrgNodeSpec.plain.varTypes Tryd.prog++Tryd.f4.resultTypes.toList))=true:=by kernel_rfl
theorem inst_:Tryd.f4.isInstance Tryd.prog Rows.fnPrgNodeRow.origin Rows.fnPrgNodeRow.targs:=of_decide_eq_true (by kernel_rfl)
theorem wfb_:Rows.fnPrgNodeRow.wfByText (OpenSpec.ofChange Rows.fnPrgNodeSpec)=true:=by kernel_rfl
theorem looks_:false=Tryd.prog.looks []:=by kernel_rfl
theorem goes_:false=Rows.fnPrgNodeRow.goesBy Tryd.prog:=by kernel_rfl
end Go.Proofs.YtlhniagacegbeaaDoor.RowFnPrgNode
