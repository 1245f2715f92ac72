/- Closed facts of the row of FnTrmTextFree: each computed by the kernel. Conditions: none. -/
import Derived.Test.YtibencknfheplaaDoorRows
import Derived.Test.YtibencknfheplaaDoorTie
import Derived.Test.YtibencknfheplaaDoorCards
import Derived.Lib.LaidTab
import Derived.Stop.LaidErr
import Derived.Lib.AppendIntMem
import Derived.WalkKit
import Derived.ProofKit
import Derived.OpenShut
import Derived.ShutString
import Derived.ChangeOld
import Derived.Below
import Derived.SizedLaws
import Derived.LaidMore
import Derived.Lay
import Derived.SevenTiedAt
import Derived.Stop.Joined
namespace Go.Proofs.YtibencknfheplaaDoor.RowFnTrmTextFree
open Go.ChangeShapes Go.WideShapes Go.ChangeAt Go.RowKit
set_option linter.unusedVariables false
set_option linter.unusedSimpArgs false
theorem laidOut:laidOutB Tryd.prog=true:=by kernel_rfl
theorem jf1:(laidOutB Tryd.prog)=true:=by kernel_rfl
theorem jf3:(Tryd.f4.params.all (Tryd.prog.readableRec ·))=true:=by kernel_rfl
theorem jf5:((Rows.fnTrmTextFreeRow.stops == []))=true:=by kernel_rfl
theorem jf7:((Rows.fnTrmTextFreeRow.knobs == []))=true:=by kernel_rfl
theorem jf9:((Rows.fnTrmTextFreeRow.inPlace == Tryd.prog.inPlace 4))=true:=by kernel_rfl
theorem jf11:((Rows.fnTrmTextFreeRow.recurses == Tryd.prog.recurses 4))=true:=by kernel_rfl
theorem jf13:((Rows.fnTrmTextFreeRow.maps == (Tryd.f4.params.toList++Rows.fnTrmTextFreeSpec.plain.varTypes Tryd.prog).any (Tryd.prog.mapsRec ·)))=true:=by kernel_rfl
theorem jf15:((Rows.fnTrmTextFreeRow.mapsOut == Tryd.prog.mapsAmong Tryd.f4.resultTypes.toList))=true:=by kernel_rfl
theorem jf17:((Rows.fnTrmTextFreeRow.wideKeys == (Tryd.f4.params.toList++Rows.fnTrmTextFreeSpec.plain.varTypes Tryd.prog++Tryd.f4.resultTypes.toList).any (Tryd.prog.wideKeysFrom ·)))=true:=by kernel_rfl
theorem jf19:(Tryd.f4.resultTypes.all (fun t=>Tryd.prog.readableRec t && decide (t<Tryd.prog.types.size)))=true:=by kernel_rfl
theorem jf21:((Rows.fnTrmTextFreeRow.loopsOut == Tryd.f4.resultTypes.toList.any (Tryd.prog.loopsFrom ·)))=true:=by kernel_rfl
theorem jf23:(Rows.fnTrmTextFreeRow.shortTexts.isNone)=true:=by kernel_rfl
theorem jf25:(Tryd.prog.mayEnter)=true:=by kernel_rfl
theorem jf27:((Tryd.prog.make == some Rows.fnTrmTextFreeRow.make))=true:=by kernel_rfl
theorem jf29:((Rows.fnTrmTextFreeRow.pinned == Rows.fnTrmTextFreeRow.pinnedBy))=true:=by kernel_rfl
theorem jf31:(Rows.fnTrmTextFreeRow.veiledFits Tryd.prog Tryd.f4.params.toList (Tryd.f4.params.toList++Rows.fnTrmTextFreeSpec.plain.varTypes Tryd.prog++Tryd.f4.resultTypes.toList))=true:=by kernel_rfl
theorem inst_:Tryd.f4.isInstance Tryd.prog Rows.fnTrmTextFreeRow.origin Rows.fnTrmTextFreeRow.targs:=of_decide_eq_true (by kernel_rfl)
theorem wfb_:Rows.fnTrmTextFreeRow.wfByText (OpenSpec.ofChange Rows.fnTrmTextFreeSpec)=true:=by kernel_rfl
theorem looks_:true=Tryd.prog.looks []:=by kernel_rfl
theorem goes_:false=Rows.fnTrmTextFreeRow.goesBy Tryd.prog:=by kernel_rfl
end Go.Proofs.YtibencknfheplaaDoor.RowFnTrmTextFree
