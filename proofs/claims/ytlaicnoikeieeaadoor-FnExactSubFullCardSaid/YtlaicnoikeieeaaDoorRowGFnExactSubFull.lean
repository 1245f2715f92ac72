/- Closed facts of the row of FnExactSubFull: each computed by the kernel. Conditions: none. -/
import Derived.Test.YtlaicnoikeieeaaDoorRows
import Derived.Test.YtlaicnoikeieeaaDoorTie
import Derived.Test.YtlaicnoikeieeaaDoorCards
import Derived.WalkKit
import Derived.ProofKit
import Derived.OpenShut
import Derived.ShutString
import Derived.ChangeOld
import Derived.Below
import Derived.SizedLaws
import Derived.LaidMore
import Derived.Lay
import Derived.SevenTiedAt
import Derived.Stop.Joined
namespace Go.Proofs.YtlaicnoikeieeaaDoor.RowFnExactSubFull
open Go.ChangeShapes Go.WideShapes Go.ChangeAt Go.RowKit
set_option linter.unusedVariables false
set_option linter.unusedSimpArgs false
theorem laidOut:laidOutB Tryd.prog=true:=by kernel_rfl
theorem jf1:(laidOutB Tryd.prog)=true:=by kernel_rfl
theorem jf3:(Tryd.f7.params.all (Tryd.prog.readableRec ·))=true:=by kernel_rfl
theorem jf5:((Rows.fnExactSubFullRow.stops == []))=true:=by kernel_rfl
theorem jf7:((Rows.fnExactSubFullRow.knobs == []))=true:=by kernel_rfl
theorem jf9:((Rows.fnExactSubFullRow.inPlace == Tryd.prog.inPlace 7))=true:=by kernel_rfl
theorem jf11:((Rows.fnExactSubFullRow.recurses == Tryd.prog.recurses 7))=true:=by kernel_rfl
theorem jf13:((Rows.fnExactSubFullRow.maps == (Tryd.f7.params.toList++Rows.fnExactSubFullSpec.plain.varTypes Tryd.prog).any (Tryd.prog.mapsRec ·)))=true:=by kernel_rfl
theorem jf15:((Rows.fnExactSubFullRow.mapsOut == Tryd.prog.mapsAmong Tryd.f7.resultTypes.toList))=true:=by kernel_rfl
theorem jf17:((Rows.fnExactSubFullRow.wideKeys == (Tryd.f7.params.toList++Rows.fnExactSubFullSpec.plain.varTypes Tryd.prog++Tryd.f7.resultTypes.toList).any (Tryd.prog.wideKeysFrom ·)))=true:=by kernel_rfl
theorem jf19:(Tryd.f7.resultTypes.all (fun t=>Tryd.prog.readableRec t && decide (t<Tryd.prog.types.size)))=true:=by kernel_rfl
theorem jf21:((Rows.fnExactSubFullRow.loopsOut == Tryd.f7.resultTypes.toList.any (Tryd.prog.loopsFrom ·)))=true:=by kernel_rfl
theorem jf23:(Rows.fnExactSubFullRow.shortTexts.isNone)=true:=by kernel_rfl
theorem jf25:(Tryd.prog.mayEnter)=true:=by kernel_rfl
theorem jf27:((Tryd.prog.make == some Rows.fnExactSubFullRow.make))=true:=by kernel_rfl
theorem jf29:((Rows.fnExactSubFullRow.pinned == Rows.fnExactSubFullRow.pinnedBy))=true:=by kernel_rfl
theorem jf31:(Rows.fnExactSubFullRow.veiledFits Tryd.prog Tryd.f7.params.toList (Tryd.f7.params.toList++Rows.fnExactSubFullSpec.plain.varTypes Tryd.prog++Tryd.f7.resultTypes.toList))=true:=by kernel_rfl
theorem inst_:Tryd.f7.isInstance Tryd.prog Rows.fnExactSubFullRow.origin Rows.fnExactSubFullRow.targs:=of_decide_eq_true (by kernel_rfl)
theorem wfb_:Rows.fnExactSubFullRow.wfByText (OpenSpec.ofChange Rows.fnExactSubFullSpec)=true:=by kernel_rfl
theorem looks_:false=Tryd.prog.looks []:=by kernel_rfl
theorem goes_:false=Rows.fnExactSubFullRow.goesBy Tryd.prog:=by kernel_rfl
end Go.Proofs.YtlaicnoikeieeaaDoor.RowFnExactSubFull
