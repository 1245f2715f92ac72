/- Closed facts of the row of FnSubFull: each computed by the kernel. Conditions: none. -/
import Derived.Test.YtlaicnoikeieeaaDoorRows
import Derived.Test.YtlaicnoikeieeaaDoorTie
import Derived.Test.YtlaicnoikeieeaaDoorCards
import Derived.WalkKit
import Derived.ProofKit
import Derived.OpenShut
import Derived.ShutString
import Derived.ChangeOld
import Derived.Below
import Derived.SizedLaws
import Derived.LaidMore
import Derived.Lay
import Derived.SevenTiedAt
import Derived.Stop.Joined
namespace Go.Proofs.YtlaicnoikeieeaaDoor.RowFnSubFull
open Go.ChangeShapes Go.WideShapes Go.ChangeAt Go.RowKit
set_option linter.unusedVariables false
set_option linter.unusedSimpArgs false
theorem laidOut:laidOutB Tryd.prog=true:=by kernel_rfl
theorem jf1:(laidOutB Tryd.prog)=true:=by kernel_rfl
theorem jf3:(Tryd.f8.params.all (Tryd.prog.readableRec ·))=true:=by kernel_rfl
theorem jf5:((Rows.fnSubFullRow.stops == []))=true:=by kernel_rfl
theorem jf7:((Rows.fnSubFullRow.knobs == []))=true:=by kernel_rfl
theorem jf9:((Rows.fnSubFullRow.inPlace == Tryd.prog.inPlace 8))=true:=by kernel_rfl
theorem jf11:((Rows.fnSubFullRow.recurses == Tryd.prog.recurses 8))=true:=by kernel_rfl
theorem jf13:((Rows.fnSubFullRow.maps == (Tryd.f8.params.toList++Rows.fnSubFullSpec.plain.varTypes Tryd.prog).any (Tryd.prog.mapsRec ·)))=true:=by kernel_rfl
theorem jf15:((Rows.fnSubFullRow.mapsOut == Tryd.prog.mapsAmong Tryd.f8.resultTypes.toList))=true:=by kernel_rfl
theorem jf17:((Rows.fnSubFullRow.wideKeys == (Tryd.f8.params.toList++Rows.fnSubFullSpec.plain.varTypes Tryd.prog++Tryd.f8.resultTypes.toList).any (Tryd.prog.wideKeysFrom ·)))=true:=by kernel_rfl
theorem jf19:(Tryd.f8.resultTypes.all (fun t=>Tryd.prog.readableRec t && decide (t<Tryd.prog.types.size)))=true:=by kernel_rfl
theorem jf21:((Rows.fnSubFullRow.loopsOut == Tryd.f8.resultTypes.toList.any (Tryd.prog.loopsFrom ·)))=true:=by kernel_rfl
theorem jf23:(Rows.fnSubFullRow.shortTexts.isNone)=true:=by kernel_rfl
theorem jf25:(Tryd.prog.mayEnter)=true:=by kernel_rfl
theorem jf27:((Tryd.prog.make == some Rows.fnSubFullRow.make))=true:=by kernel_rfl
theorem jf29:((Rows.fnSubFullRow.pinned == Rows.fnSubFullRow.pinnedBy))=true:=by kernel_rfl
theorem jf31:(Rows.fnSubFullRow.veiledFits Tryd.prog Tryd.f8.params.toList (Tryd.f8.params.toList++Rows.fnSubFullSpec.plain.varTypes Tryd.prog++Tryd.f8.resultTypes.toList))=true:=by kernel_rfl
theorem inst_:Tryd.f8.isInstance Tryd.prog Rows.fnSubFullRow.origin Rows.fnSubFullRow.targs:=of_decide_eq_true (by kernel_rfl)
theorem wfb_:Rows.fnSubFullRow.wfByText (OpenSpec.ofChange Rows.fnSubFullSpec)=true:=by kernel_rfl
theorem looks_:false=Tryd.prog.looks []:=by kernel_rfl
theorem goes_:false=Rows.fnSubFullRow.goesBy Tryd.prog:=by kernel_rfl
end Go.Proofs.YtlaicnoikeieeaaDoor.RowFnSubFull
