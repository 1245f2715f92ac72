/- Closed facts of the row of FnExactGoalRead: each computed by the kernel. Conditions: none. -/
import Derived.Test.YtlhniagacegbeaaGreatDoorRows
import Derived.Test.YtlhniagacegbeaaGreatDoorTie
import Derived.Test.YtlhniagacegbeaaGreatDoorCards
import Derived.Lib.LaidTab
import Derived.Stop.LaidErr
import Derived.Lib.AppendIntMem
import Derived.WalkKit
import Derived.ProofKit
import Derived.OpenShut
import Derived.ShutString
import Derived.ChangeOld
import Derived.Below
import Derived.SizedLaws
import Derived.LaidMore
import Derived.Lay
import Derived.SevenTiedAt
import Derived.Stop.Joined
namespace Go.Proofs.YtlhniagacegbeaaGreatDoor.RowFnExactGoalRead
open Go.ChangeShapes Go.WideShapes Go.ChangeAt Go.RowKit
set_option linter.unusedVariables false
set_option linter.unusedSimpArgs false
theorem laidOut:laidOutB Tryz.prog=true:=by kernel_rfl
theorem jf1:(laidOutB Tryz.prog)=true:=by kernel_rfl
theorem jf3:(Tryz.f3.params.all (Tryz.prog.readableRec ·))=true:=by kernel_rfl
theorem jf5:((Rows.fnExactGoalReadRow.stops == []))=true:=by kernel_rfl
theorem jf7:((Rows.fnExactGoalReadRow.knobs == []))=true:=by kernel_rfl
theorem jf9:((Rows.fnExactGoalReadRow.inPlace == Tryz.prog.inPlace 3))=true:=by kernel_rfl
theorem jf11:((Rows.fnExactGoalReadRow.recurses == Tryz.prog.recurses 3))=true:=by kernel_rfl
theorem jf13:((Rows.fnExactGoalReadRow.maps == (Tryz.f3.params.toList++Rows.fnExactGoalReadSpec.plain.varTypes Tryz.prog).any (Tryz.prog.mapsRec ·)))=true:=by kernel_rfl
theorem jf15:((Rows.fnExactGoalReadRow.mapsOut == Tryz.prog.mapsAmong Tryz.f3.resultTypes.toList))=true:=by kernel_rfl
theorem jf17:((Rows.fnExactGoalReadRow.wideKeys == (Tryz.f3.params.toList++Rows.fnExactGoalReadSpec.plain.varTypes Tryz.prog++Tryz.f3.resultTypes.toList).any (Tryz.prog.wideKeysFrom ·)))=true:=by kernel_rfl
theorem jf19:(Tryz.f3.resultTypes.all (fun t=>Tryz.prog.readableRec t && decide (t<Tryz.prog.types.size)))=true:=by kernel_rfl
theorem jf21:((Rows.fnExactGoalReadRow.loopsOut == Tryz.f3.resultTypes.toList.any (Tryz.prog.loopsFrom ·)))=true:=by kernel_rfl
theorem jf23:(Rows.fnExactGoalReadRow.shortTexts.isNone)=true:=by kernel_rfl
theorem jf25:(Tryz.prog.mayEnter)=true:=by kernel_rfl
theorem jf27:((Tryz.prog.make == some Rows.fnExactGoalReadRow.make))=true:=by kernel_rfl
theorem jf29:((Rows.fnExactGoalReadRow.pinned == Rows.fnExactGoalReadRow.pinnedBy))=true:=by kernel_rfl
theorem jf31:(Rows.fnExactGoalReadRow.veiledFits Tryz.prog Tryz.f3.params.toList (Tryz.f3.params.toList++Rows.fnExactGoalReadSpec.plain.varTypes Tryz.prog++Tryz.f3.resultTypes.toList))=true:=by kernel_rfl
theorem inst_:Tryz.f3.isInstance Tryz.prog Rows.fnExactGoalReadRow.origin Rows.fnExactGoalReadRow.targs:=of_decide_eq_true (by kernel_rfl)
theorem wfb_:Rows.fnExactGoalReadRow.wfByText (OpenSpec.ofChange Rows.fnExactGoalReadSpec)=true:=by kernel_rfl
theorem looks_:true=Tryz.prog.looks []:=by kernel_rfl
theorem goes_:false=Rows.fnExactGoalReadRow.goesBy Tryz.prog:=by kernel_rfl
end Go.Proofs.YtlhniagacegbeaaGreatDoor.RowFnExactGoalRead
