/- Closed facts of the row of FnSubArgs: each computed by the kernel. Conditions: none. -/
import Derived.Test.YtlaicnoikeieeaaDoorRows
import Derived.Test.YtlaicnoikeieeaaDoorTie
import Derived.Test.YtlaicnoikeieeaaDoorCards
import Derived.WalkKit
import Derived.ProofKit
import Derived.OpenShut
import Derived.ShutString
import Derived.ChangeOld
import Derived.Below
import Derived.SizedLaws
import Derived.LaidMore
import Derived.Lay
import Derived.SevenTiedAt
import Derived.Stop.Joined
namespace Go.Proofs.YtlaicnoikeieeaaDoor.RowFnSubArgs
open Go.ChangeShapes Go.WideShapes Go.ChangeAt Go.RowKit
set_option linter.unusedVariables false
set_option linter.unusedSimpArgs false
theorem laidOut:laidOutB Tryd.prog=true:=by kernel_rfl
theorem jf1:(laidOutB Tryd.prog)=true:=by kernel_rfl
theorem jf3:(Tryd.f12.params.all (Tryd.prog.readableRec ·))=true:=by kernel_rfl
theorem jf5:((Rows.fnSubArgsRow.stops == []))=true:=by kernel_rfl
theorem jf7:((Rows.fnSubArgsRow.knobs == []))=true:=by kernel_rfl
theorem jf9:((Rows.fnSubArgsRow.inPlace == Tryd.prog.inPlace 12))=true:=by kernel_rfl
theorem jf11:((Rows.fnSubArgsRow.recurses == Tryd.prog.recurses 12))=true:=by kernel_rfl
theorem jf13:((Rows.fnSubArgsRow.maps == (Tryd.f12.params.toList++Rows.fnSubArgsSpec.plain.varTypes Tryd.prog).any (Tryd.prog.mapsRec ·)))=true:=by kernel_rfl
theorem jf15:((Rows.fnSubArgsRow.mapsOut == Tryd.prog.mapsAmong Tryd.f12.resultTypes.toList))=true:=by kernel_rfl
theorem jf17:((Rows.fnSubArgsRow.wideKeys == (Tryd.f12.params.toList++Rows.fnSubArgsSpec.plain.varTypes Tryd.prog++Tryd.f12.resultTypes.toList).any (Tryd.prog.wideKeysFrom ·)))=true:=by kernel_rfl
theorem jf19:(Tryd.f12.resultTypes.all (fun t=>Tryd.prog.readableRec t && decide (t<Tryd.prog.types.size)))=true:=by kernel_rfl
theorem jf21:((Rows.fnSubArgsRow.loopsOut == Tryd.f12.resultTypes.toList.any (Tryd.prog.loopsFrom ·)))=true:=by kernel_rfl
theorem jf23:(Rows.fnSubArgsRow.shortTexts.isNone)=true:=by kernel_rfl
theorem jf25:(Tryd.prog.mayEnter)=true:=by kernel_rfl
theorem jf27:((Tryd.prog.make == some Rows.fnSubArgsRow.make))=true:=by kernel_rfl
theorem jf29:((Rows.fnSubArgsRow.pinned == Rows.fnSubArgsRow.pinnedBy))=true:=by kernel_rfl
theorem jf31:(Rows.fnSubArgsRow.veiledFits Tryd.prog Tryd.f12.params.toList (Tryd.f12.params.toList++Rows.fnSubArgsSpec.plain.varTypes Tryd.prog++Tryd.f12.resultTypes.toList))=true:=by kernel_rfl
theorem inst_:Tryd.f12.isInstance Tryd.prog Rows.fnSubArgsRow.origin Rows.fnSubArgsRow.targs:=of_decide_eq_true (by kernel_rfl)
theorem wfb_:Rows.fnSubArgsRow.wfByText (OpenSpec.ofChange Rows.fnSubArgsSpec)=true:=by kernel_rfl
theorem looks_:false=Tryd.prog.looks []:=by kernel_rfl
theorem goes_:false=Rows.fnSubArgsRow.goesBy Tryd.prog:=by kernel_rfl
end Go.Proofs.YtlaicnoikeieeaaDoor.RowFnSubArgs
