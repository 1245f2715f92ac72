/- Closed facts of the row of FnExactGoalText: each computed by the kernel. Conditions: none. -/
import Derived.Test.YtlhniagacegbeaaDoorRows
import Derived.Test.YtlhniagacegbeaaDoorTie
import Derived.Test.YtlhniagacegbeaaDoorCards
import Derived.Lib.LaidTab
import Derived.Stop.LaidErr
import Derived.Lib.AppendIntMem
import Derived.WalkKit
import Derived.ProofKit
import Derived.OpenShut
import Derived.ShutString
import Derived.ChangeOld
import Derived.Below
import Derived.SizedLaws
import Derived.LaidMore
import Derived.Lay
import Derived.SevenTiedAt
import Derived.Stop.Joined
namespace Go.Proofs.YtlhniagacegbeaaDoor.RowFnExactGoalText
open Go.ChangeShapes Go.WideShapes Go.ChangeAt Go.RowKit
set_option linter.unusedVariables false
set_option linter.unusedSimpArgs false
theorem laidOut:laidOutB Tryd.prog=true:=by kernel_rfl
theorem jf1:(laidOutB Tryd.prog)=true:=by kernel_rfl
theorem jf3:(Tryd.f3.params.all (Tryd.prog.readableRec ·))=true:=by kernel_rfl
theorem jf5:((Rows.fnExactGoalTextRow.stops == []))=true:=by kernel_rfl
theorem jf7:((Rows.fnExactGoalTextRow.knobs == []))=true:=by kernel_rfl
theorem jf9:((Rows.fnExactGoalTextRow.inPlace == Tryd.prog.inPlace 3))=true:=by kernel_rfl
theorem jf11:((Rows.fnExactGoalTextRow.recurses == Tryd.prog.recurses 3))=true:=by kernel_rfl
theorem jf13:((Rows.fnExactGoalTextRow.maps == (Tryd.f3.params.toList++Rows.fnExactGoalTextSpec.plain.varTypes Tryd.prog).any (Tryd.prog.mapsRec ·)))=true:=by kernel_rfl
theorem jf15:((Rows.fnExactGoalTextRow.mapsOut == Tryd.prog.mapsAmong Tryd.f3.resultTypes.toList))=true:=by kernel_rfl
theorem jf17:((Rows.fnExactGoalTextRow.wideKeys == (Tryd.f3.params.toList++Rows.fnExactGoalTextSpec.plain.varTypes Tryd.prog++Tryd.f3.resultTypes.toList).any (Tryd.prog.wideKeysFrom ·)))=true:=by kernel_rfl
theorem jf19:(Tryd.f3.resultTypes.all (fun t=>Tryd.prog.readableRec t && decide (t<Tryd.prog.types.size)))=true:=by kernel_rfl
theorem jf21:((Rows.fnExactGoalTextRow.loopsOut == Tryd.f3.resultTypes.toList.any (Tryd.prog.loopsFrom ·)))=true:=by kernel_rfl
theorem jf23:(Rows.fnExactGoalTextRow.shortTexts.isNone)=true:=by kernel_rfl
theorem jf25:(Tryd.prog.mayEnter)=true:=by kernel_rfl
theorem jf27:((Tryd.prog.make == some Rows.fnExactGoalTextRow.make))=true:=by kernel_rfl
theorem jf29:((Rows.fnExactGoalTextRow.pinned == Rows.fnExactGoalTextRow.pinnedBy))=true:=by kernel_rfl
theorem jf31:(Rows.fnExactGoalTextRow.veiledFits Tryd.prog Tryd.f3.params.toList (Tryd.f3.params.toList++Rows.fnExactGoalTextSpec.plain.varTypes Tryd.prog++Tryd.f3.resultTypes.toList))=true:=by kernel_rfl
theorem inst_:Tryd.f3.isInstance Tryd.prog Rows.fnExactGoalTextRow.origin Rows.fnExactGoalTextRow.targs:=of_decide_eq_true (by kernel_rfl)
theorem wfb_:Rows.fnExactGoalTextRow.wfByText (OpenSpec.ofChange Rows.fnExactGoalTextSpec)=true:=by kernel_rfl
theorem looks_:false=Tryd.prog.looks []:=by kernel_rfl
theorem goes_:false=Rows.fnExactGoalTextRow.goesBy Tryd.prog:=by kernel_rfl
end Go.Proofs.YtlhniagacegbeaaDoor.RowFnExactGoalText
