/- Closed facts of the row of FnExactSubGet: each computed by the kernel. Conditions: none. -/
import Derived.Test.YtepkgjcobocbpaaRows
import Derived.WalkKit
import Derived.ProofKit
import Derived.OpenShut
import Derived.ShutString
import Derived.ChangeOld
import Derived.Below
import Derived.SizedLaws
namespace Go.Proofs.Ytepkgjcobocbpaa.RowFnExactSubGet
open Go.ChangeShapes Go.WideShapes Go.ChangeAt Go.RowKit
set_option linter.unusedVariables false
set_option linter.unusedSimpArgs false
theorem laidOut:laidOutB Try.prog=true:=by kernel_rfl
theorem jf1:(laidOutB Try.prog)=true:=by kernel_rfl
theorem jf3:(Try.f3.params.all (Try.prog.readableRec ·))=true:=by kernel_rfl
theorem jf5:((Rows.fnExactSubGetRow.stops == []))=true:=by kernel_rfl
theorem jf7:((Rows.fnExactSubGetRow.knobs == []))=true:=by kernel_rfl
theorem jf9:((Rows.fnExactSubGetRow.inPlace == Try.prog.inPlace 3))=true:=by kernel_rfl
theorem jf11:((Rows.fnExactSubGetRow.recurses == Try.prog.recurses 3))=true:=by kernel_rfl
theorem jf13:((Rows.fnExactSubGetRow.maps == (Try.f3.params.toList++Rows.fnExactSubGetSpec.plain.varTypes Try.prog).any (Try.prog.mapsRec ·)))=true:=by kernel_rfl
theorem jf15:((Rows.fnExactSubGetRow.mapsOut == Try.prog.mapsAmong Try.f3.resultTypes.toList))=true:=by kernel_rfl
theorem jf17:((Rows.fnExactSubGetRow.wideKeys == (Try.f3.params.toList++Rows.fnExactSubGetSpec.plain.varTypes Try.prog++Try.f3.resultTypes.toList).any (Try.prog.wideKeysFrom ·)))=true:=by kernel_rfl
theorem jf19:(Try.f3.resultTypes.all (fun t=>Try.prog.readableRec t && decide (t<Try.prog.types.size)))=true:=by kernel_rfl
theorem jf21:((Rows.fnExactSubGetRow.loopsOut == Try.f3.resultTypes.toList.any (Try.prog.loopsFrom ·)))=true:=by kernel_rfl
theorem jf23:(Rows.fnExactSubGetRow.shortTexts.isNone)=true:=by kernel_rfl
theorem jf25:(Try.prog.mayEnter)=true:=by kernel_rfl
theorem jf27:((Try.prog.make == some Rows.fnExactSubGetRow.make))=true:=by kernel_rfl
theorem jf29:((Rows.fnExactSubGetRow.pinned == Rows.fnExactSubGetRow.pinnedBy))=true:=by kernel_rfl
theorem jf31:(Rows.fnExactSubGetRow.veiledFits Try.prog Try.f3.params.toList (Try.f3.params.toList++Rows.fnExactSubGetSpec.plain.varTypes Try.prog++Try.f3.resultTypes.toList))=true:=by kernel_rfl
theorem inst_:Try.f3.isInstance Try.prog Rows.fnExactSubGetRow.origin Rows.fnExactSubGetRow.targs:=of_decide_eq_true (by kernel_rfl)
end Go.Proofs.Ytepkgjcobocbpaa.RowFnExactSubGet
