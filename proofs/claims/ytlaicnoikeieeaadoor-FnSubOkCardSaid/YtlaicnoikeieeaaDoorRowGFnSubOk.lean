/- Closed facts of the row of FnSubOk: each computed by the kernel. Conditions: none. -/
import Derived.Test.YtlaicnoikeieeaaDoorRows
import Derived.Test.YtlaicnoikeieeaaDoorTie
import Derived.Test.YtlaicnoikeieeaaDoorCards
import Derived.WalkKit
import Derived.ProofKit
import Derived.OpenShut
import Derived.ShutString
import Derived.ChangeOld
import Derived.Below
import Derived.SizedLaws
import Derived.LaidMore
import Derived.Lay
import Derived.SevenTiedAt
import Derived.Stop.Joined
namespace Go.Proofs.YtlaicnoikeieeaaDoor.RowFnSubOk
open Go.ChangeShapes Go.WideShapes Go.ChangeAt Go.RowKit
set_option linter.unusedVariables false
set_option linter.unusedSimpArgs false
theorem laidOut:laidOutB Tryd.prog=true:=by kernel_rfl
theorem jf1:(laidOutB Tryd.prog)=true:=by kernel_rfl
theorem jf3:(Tryd.f5.params.all (Tryd.prog.readableRec ·))=true:=by kernel_rfl
theorem jf5:((Rows.fnSubOkRow.stops == []))=true:=by kernel_rfl
theorem jf7:((Rows.fnSubOkRow.knobs == []))=true:=by kernel_rfl
theorem jf9:((Rows.fnSubOkRow.inPlace == Tryd.prog.inPlace 5))=true:=by kernel_rfl
theorem jf11:((Rows.fnSubOkRow.recurses == Tryd.prog.recurses 5))=true:=by kernel_rfl
theorem jf13:((Rows.fnSubOkRow.maps == (Tryd.f5.params.toList++Rows.fnSubOkSpec.plain.varTypes Tryd.prog).any (Tryd.prog.mapsRec ·)))=true:=by kernel_rfl
theorem jf15:((Rows.fnSubOkRow.mapsOut == Tryd.prog.mapsAmong Tryd.f5.resultTypes.toList))=true:=by kernel_rfl
theorem jf17:((Rows.fnSubOkRow.wideKeys == (Tryd.f5.params.toList++Rows.fnSubOkSpec.plain.varTypes Tryd.prog++Tryd.f5.resultTypes.toList).any (Tryd.prog.wideKeysFrom ·)))=true:=by kernel_rfl
theorem jf19:(Tryd.f5.resultTypes.all (fun t=>Tryd.prog.readableRec t && decide (t<Tryd.prog.types.size)))=true:=by kernel_rfl
theorem jf21:((Rows.fnSubOkRow.loopsOut == Tryd.f5.resultTypes.toList.any (Tryd.prog.loopsFrom ·)))=true:=by kernel_rfl
theorem jf23:(Rows.fnSubOkRow.shortTexts.isNone)=true:=by kernel_rfl
theorem jf25:(Tryd.prog.mayEnter)=true:=by kernel_rfl
theorem jf27:((Tryd.prog.make == some Rows.fnSubOkRow.make))=true:=by kernel_rfl
theorem jf29:((Rows.fnSubOkRow.pinned == Rows.fnSubOkRow.pinnedBy))=true:=by kernel_rfl
theorem jf31:(Rows.fnSubOkRow.veiledFits Tryd.prog Tryd.f5.params.toList (Tryd.f5.params.toList++Rows.fnSubOkSpec.plain.varTypes Tryd.prog++Tryd.f5.resultTypes.toList))=true:=by kernel_rfl
theorem inst_:Tryd.f5.isInstance Tryd.prog Rows.fnSubOkRow.origin Rows.fnSubOkRow.targs:=of_decide_eq_true (by kernel_rfl)
theorem wfb_:Rows.fnSubOkRow.wfByText (OpenSpec.ofChange Rows.fnSubOkSpec)=true:=by kernel_rfl
theorem looks_:false=Tryd.prog.looks []:=by kernel_rfl
theorem goes_:false=Rows.fnSubOkRow.goesBy Tryd.prog:=by kernel_rfl
end Go.Proofs.YtlaicnoikeieeaaDoor.RowFnSubOk
