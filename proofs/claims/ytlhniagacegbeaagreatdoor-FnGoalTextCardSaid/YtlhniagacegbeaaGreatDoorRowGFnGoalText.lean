/- Closed facts of the row of FnGoalText: each computed by the kernel. Conditions: none. -/
import Derived.Test.YtlhniagacegbeaaGreatDoorRows
import Derived.Test.YtlhniagacegbeaaGreatDoorTie
import Derived.Test.YtlhniagacegbeaaGreatDoorCards
import Derived.Lib.LaidTab
import Derived.Stop.LaidErr
import Derived.Lib.AppendIntMem
import Derived.WalkKit
import Derived.ProofKit
import Derived.OpenShut
import Derived.ShutString
import Derived.ChangeOld
import Derived.Below
import Derived.SizedLaws
import Derived.LaidMore
import Derived.Lay
import Derived.SevenTiedAt
import Derived.Stop.Joined
namespace Go.Proofs.YtlhniagacegbeaaGreatDoor.RowFnGoalText
open Go.ChangeShapes Go.WideShapes Go.ChangeAt Go.RowKit
set_option linter.unusedVariables false
set_option linter.unusedSimpArgs false
theorem laidOut:laidOutB Tryz.prog=true:=by kernel_rfl
/-- the wrap of a row that asks of variables, the world's shape handed on -/
theorem jf1:(laidOutB Tryz.prog)=true:=by kernel_rfl
theorem jf3:(Tryz.f4.params.all (Tryz.prog.readableRec ·))=true:=by kernel_rfl
theorem jf5:((Rows.fnGoalTextRow.stops == []))=true:=by kernel_rfl
theorem jf7:((Rows.fnGoalTextRow.knobs == []))=true:=by kernel_rfl
theorem jf9:((Rows.fnGoalTextRow.inPlace == Tryz.prog.inPlace 4))=true:=by kernel_rfl
theorem jf11:((Rows.fnGoalTextRow.recurses == Tryz.prog.recurses 4))=true:=by kernel_rfl
theorem jf13:((Rows.fnGoalTextRow.maps == (Tryz.f4.params.toList++Rows.fnGoalTextSpec.plain.varTypes Tryz.prog).any (Tryz.prog.mapsRec ·)))=true:=by kernel_rfl
theorem jf15:((Rows.fnGoalTextRow.mapsOut == Tryz.prog.mapsAmong Tryz.f4.resultTypes.toList))=true:=by kernel_rfl
theorem jf17:((Rows.fnGoalTextRow.wideKeys == (Tryz.f4.params.toList++Rows.fnGoalTextSpec.plain.varTypes Tryz.prog++Tryz.f4.resultTypes.toList).any (Tryz.prog.wideKeysFrom ·)))=true:=by kernel_rfl
theorem jf19:(Tryz.f4.resultTypes.all (fun t=>Tryz.prog.readableRec t && decide (t<Tryz.prog.types.size)))=true:=by kernel_rfl
theorem jf21:((Rows.fnGoalTextRow.loopsOut == Tryz.f4.resultTypes.toList.any (Tryz.prog.loopsFrom ·)))=true:=by kernel_rfl
theorem jf23:(Rows.fnGoalTextRow.shortTexts.isNone)=true:=by kernel_rfl
theorem jf25:(Tryz.prog.mayEnter)=true:=by kernel_rfl
theorem jf27:((Tryz.prog.make == some Rows.fnGoalTextRow.make))=true:=by kernel_rfl
theorem jf29:((Rows.fnGoalTextRow.pinned == Rows.fnGoalTextRow.pinnedBy))=true:=by kernel_rfl
theorem jf31:(Rows.fnGoalTextRow.veiledFits Tryz.prog Tryz.f4.params.toList (Tryz.f4.params.toList++Rows.fnGoalTextSpec.plain.varTypes Tryz.prog++Tryz.f4.resultTypes.toList))=true:=by kernel_rfl
theorem inst_:Tryz.f4.isInstance Tryz.prog Rows.fnGoalTextRow.origin Rows.fnGoalTextRow.targs:=of_decide_eq_true (by kernel_rfl)
theorem wfb_:Rows.fnGoalTextRow.wfByText (OpenSpec.ofChange Rows.fnGoalTextSpec)=true:=by kernel_rfl
theorem looks_:true=Tryz.prog.looks []:=by kernel_rfl
theorem goes_:false=Rows.fnGoalTextRow.goesBy Tryz.prog:=by kernel_rfl
end Go.Proofs.YtlhniagacegbeaaGreatDoor.RowFnGoalText
