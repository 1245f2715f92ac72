/- Closed facts of the row of FnGoalOk: each computed by the kernel. Conditions: none. -/
import Derived.Test.YtepkgjcobocbpaaDoorRows
import Derived.Test.YtepkgjcobocbpaaDoorTie
import Derived.Test.YtepkgjcobocbpaaDoorCards
import Derived.WalkKit
import Derived.ProofKit
import Derived.OpenShut
import Derived.ShutString
import Derived.ChangeOld
import Derived.Below
import Derived.SizedLaws
import Derived.LaidMore
import Derived.Lay
import Derived.SevenTiedAt
import Derived.Stop.Joined
namespace Go.Proofs.YtepkgjcobocbpaaDoor.RowFnGoalOk
open Go.ChangeShapes Go.WideShapes Go.ChangeAt Go.RowKit
set_option linter.unusedVariables false
set_option linter.unusedSimpArgs false
theorem laidOut:laidOutB Tryd.prog=true:=by kernel_rfl
theorem jf1:(laidOutB Tryd.prog)=true:=by kernel_rfl
theorem jf3:(Tryd.f4.params.all (Tryd.prog.readableRec ·))=true:=by kernel_rfl
theorem jf5:((Rows.fnGoalOkRow.stops == []))=true:=by kernel_rfl
theorem jf7:((Rows.fnGoalOkRow.knobs == []))=true:=by kernel_rfl
theorem jf9:((Rows.fnGoalOkRow.inPlace == Tryd.prog.inPlace 4))=true:=by kernel_rfl
theorem jf11:((Rows.fnGoalOkRow.recurses == Tryd.prog.recurses 4))=true:=by kernel_rfl
theorem jf13:((Rows.fnGoalOkRow.maps == (Tryd.f4.params.toList++Rows.fnGoalOkSpec.plain.varTypes Tryd.prog).any (Tryd.prog.mapsRec ·)))=true:=by kernel_rfl
theorem jf15:((Rows.fnGoalOkRow.mapsOut == Tryd.prog.mapsAmong Tryd.f4.resultTypes.toList))=true:=by kernel_rfl
theorem jf17:((Rows.fnGoalOkRow.wideKeys == (Tryd.f4.params.toList++Rows.fnGoalOkSpec.plain.varTypes Tryd.prog++Tryd.f4.resultTypes.toList).any (Tryd.prog.wideKeysFrom ·)))=true:=by kernel_rfl
theorem jf19:(Tryd.f4.resultTypes.all (fun t=>Tryd.prog.readableRec t && decide (t<Tryd.prog.types.size)))=true:=by kernel_rfl
theorem jf21:((Rows.fnGoalOkRow.loopsOut == Tryd.f4.resultTypes.toList.any (Tryd.prog.loopsFrom ·)))=true:=by kernel_rfl
theorem jf23:(Rows.fnGoalOkRow.shortTexts.isNone)=true:=by kernel_rfl
theorem jf25:(Tryd.prog.mayEnter)=true:=by kernel_rfl
theorem jf27:((Tryd.prog.make == some Rows.fnGoalOkRow.make))=true:=by kernel_rfl
theorem jf29:((Rows.fnGoalOkRow.pinned == Rows.fnGoalOkRow.pinnedBy))=true:=by kernel_rfl
theorem jf31:(Rows.fnGoalOkRow.veiledFits Tryd.prog Tryd.f4.params.toList (Tryd.f4.params.toList++Rows.fnGoalOkSpec.plain.varTypes Tryd.prog++Tryd.f4.resultTypes.toList))=true:=by kernel_rfl
theorem inst_:Tryd.f4.isInstance Tryd.prog Rows.fnGoalOkRow.origin Rows.fnGoalOkRow.targs:=of_decide_eq_true (by kernel_rfl)
theorem wfb_:Rows.fnGoalOkRow.wfByText (OpenSpec.ofChange Rows.fnGoalOkSpec)=true:=by kernel_rfl
theorem looks_:false=Tryd.prog.looks []:=by kernel_rfl
theorem goes_:false=Rows.fnGoalOkRow.goesBy Tryd.prog:=by kernel_rfl
end Go.Proofs.YtepkgjcobocbpaaDoor.RowFnGoalOk
