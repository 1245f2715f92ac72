/- Closed facts of the row of FnExactTrmRead: each computed by the kernel. Conditions: none. -/
import Derived.Test.YtibencknfheplaaDoorRows
import Derived.Test.YtibencknfheplaaDoorTie
import Derived.Test.YtibencknfheplaaDoorCards
import Derived.Lib.LaidTab
import Derived.Stop.LaidErr
import Derived.Lib.AppendIntMem
import Derived.WalkKit
import Derived.ProofKit
import Derived.OpenShut
import Derived.ShutString
import Derived.ChangeOld
import Derived.Below
import Derived.SizedLaws
import Derived.LaidMore
import Derived.Lay
import Derived.SevenTiedAt
import Derived.Stop.Joined
namespace Go.Proofs.YtibencknfheplaaDoor.RowFnExactTrmRead
open Go.ChangeShapes Go.WideShapes Go.ChangeAt Go.RowKit
set_option linter.unusedVariables false
set_option linter.unusedSimpArgs false
theorem laidOut:laidOutB Tryd.prog=true:=by kernel_rfl
theorem jf1:(laidOutB Tryd.prog)=true:=by kernel_rfl
theorem jf3:(Tryd.f5.params.all (Tryd.prog.readableRec ·))=true:=by kernel_rfl
theorem jf5:((Rows.fnExactTrmReadRow.stops == []))=true:=by kernel_rfl
theorem jf7:((Rows.fnExactTrmReadRow.knobs == []))=true:=by kernel_rfl
theorem jf9:((Rows.fnExactTrmReadRow.inPlace == Tryd.prog.inPlace 5))=true:=by kernel_rfl
theorem jf11:((Rows.fnExactTrmReadRow.recurses == Tryd.prog.recurses 5))=true:=by kernel_rfl
theorem jf13:((Rows.fnExactTrmReadRow.maps == (Tryd.f5.params.toList++Rows.fnExactTrmReadSpec.plain.varTypes Tryd.prog).any (Tryd.prog.mapsRec ·)))=true:=by kernel_rfl
theorem jf15:((Rows.fnExactTrmReadRow.mapsOut == Tryd.prog.mapsAmong Tryd.f5.resultTypes.toList))=true:=by kernel_rfl
theorem jf17:((Rows.fnExactTrmReadRow.wideKeys == (Tryd.f5.params.toList++Rows.fnExactTrmReadSpec.plain.varTypes Tryd.prog++Tryd.f5.resultTypes.toList).any (Tryd.prog.wideKeysFrom ·)))=true:=by kernel_rfl
theorem jf19:(Tryd.f5.resultTypes.all (fun t=>Tryd.prog.readableRec t && decide (t<Tryd.prog.types.size)))=true:=by kernel_rfl
theorem jf21:((Rows.fnExactTrmReadRow.loopsOut == Tryd.f5.resultTypes.toList.any (Tryd.prog.loopsFrom ·)))=true:=by kernel_rfl
theorem jf23:(Rows.fnExactTrmReadRow.shortTexts.isNone)=true:=by kernel_rfl
theorem jf25:(Tryd.prog.mayEnter)=true:=by kernel_rfl
theorem jf27:((Tryd.prog.make == some Rows.fnExactTrmReadRow.make))=true:=by kernel_rfl
theorem jf29:((Rows.fnExactTrmReadRow.pinned == Rows.fnExactTrmReadRow.pinnedBy))=true:=by kernel_rfl
theorem jf31:(Rows.fnExactTrmReadRow.veiledFits Tryd.prog Tryd.f5.params.toList (Tryd.f5.params.toList++Rows.fnExactTrmReadSpec.plain.varTypes Tryd.prog++Tryd.f5.resultTypes.toList))=true:=by kernel_rfl
theorem inst_:Tryd.f5.isInstance Tryd.prog Rows.fnExactTrmReadRow.origin Rows.fnExactTrmReadRow.targs:=of_decide_eq_true (by kernel_rfl)
theorem wfb_:Rows.fnExactTrmReadRow.wfByText (OpenSpec.ofChange Rows.fnExactTrmReadSpec)=true:=by kernel_rfl
theorem looks_:true=Tryd.prog.looks []:=by kernel_rfl
theorem goes_:false=Rows.fnExactTrmReadRow.goesBy Tryd.prog:=by kernel_rfl
end Go.Proofs.YtibencknfheplaaDoor.RowFnExactTrmRead
