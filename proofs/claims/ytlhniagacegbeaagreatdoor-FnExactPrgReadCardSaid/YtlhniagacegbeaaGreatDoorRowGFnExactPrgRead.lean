/- Closed facts of the row of FnExactPrgRead: each computed by the kernel. Conditions: none. -/
import Derived.Test.YtlhniagacegbeaaGreatDoorRows
import Derived.Test.YtlhniagacegbeaaGreatDoorTie
import Derived.Test.YtlhniagacegbeaaGreatDoorCards
import Derived.Lib.LaidTab
import Derived.Stop.LaidErr
import Derived.Lib.AppendIntMem
import Derived.WalkKit
import Derived.ProofKit
import Derived.OpenShut
import Derived.ShutString
import Derived.ChangeOld
import Derived.Below
import Derived.SizedLaws
import Derived.LaidMore
import Derived.Lay
import Derived.SevenTiedAt
import Derived.Stop.Joined
namespace Go.Proofs.YtlhniagacegbeaaGreatDoor.RowFnExactPrgRead
open Go.ChangeShapes Go.WideShapes Go.ChangeAt Go.RowKit
set_option linter.unusedVariables false
set_option linter.unusedSimpArgs false
theorem laidOut:laidOutB Tryz.prog=true:=by kernel_rfl
/-- the wrap of a row that asks of variables, the world's shape handed on -/
theorem jf1:(laidOutB Tryz.prog)=true:=by kernel_rfl
theorem jf3:(Tryz.f5.params.all (Tryz.prog.readableRec ·))=true:=by kernel_rfl
theorem jf5:((Rows.fnExactPrgReadRow.stops == []))=true:=by kernel_rfl
theorem jf7:((Rows.fnExactPrgReadRow.knobs == []))=true:=by kernel_rfl
theorem jf9:((Rows.fnExactPrgReadRow.inPlace == Tryz.prog.inPlace 5))=true:=by kernel_rfl
theorem jf11:((Rows.fnExactPrgReadRow.recurses == Tryz.prog.recurses 5))=true:=by kernel_rfl
theorem jf13:((Rows.fnExactPrgReadRow.maps == (Tryz.f5.params.toList++Rows.fnExactPrgReadSpec.plain.varTypes Tryz.prog).any (Tryz.prog.mapsRec ·)))=true:=by kernel_rfl
theorem jf15:((Rows.fnExactPrgReadRow.mapsOut == Tryz.prog.mapsAmong Tryz.f5.resultTypes.toList))=true:=by kernel_rfl
theorem jf17:((Rows.fnExactPrgReadRow.wideKeys == (Tryz.f5.params.toList++Rows.fnExactPrgReadSpec.plain.varTypes Tryz.prog++Tryz.f5.resultTypes.toList).any (Tryz.prog.wideKeysFrom ·)))=true:=by kernel_rfl
theorem jf19:(Tryz.f5.resultTypes.all (fun t=>Tryz.prog.readableRec t && decide (t<Tryz.prog.types.size)))=true:=by kernel_rfl
theorem jf21:((Rows.fnExactPrgReadRow.loopsOut == Tryz.f5.resultTypes.toList.any (Tryz.prog.loopsFrom ·)))=true:=by kernel_rfl
theorem jf23:(Rows.fnExactPrgReadRow.shortTexts.isNone)=true:=by kernel_rfl
theorem jf25:(Tryz.prog.mayEnter)=true:=by kernel_rfl
theorem jf27:((Tryz.prog.make == some Rows.fnExactPrgReadRow.make))=true:=by kernel_rfl
theorem jf29:((Rows.fnExactPrgReadRow.pinned == Rows.fnExactPrgReadRow.pinnedBy))=true:=by kernel_rfl
theorem jf31:(Rows.fnExactPrgReadRow.veiledFits Tryz.prog Tryz.f5.params.toList (Tryz.f5.params.toList++Rows.fnExactPrgReadSpec.plain.varTypes Tryz.prog++Tryz.f5.resultTypes.toList))=true:=by kernel_rfl
theorem inst_:Tryz.f5.isInstance Tryz.prog Rows.fnExactPrgReadRow.origin Rows.fnExactPrgReadRow.targs:=of_decide_eq_true (by kernel_rfl)
theorem wfb_:Rows.fnExactPrgReadRow.wfByText (OpenSpec.ofChange Rows.fnExactPrgReadSpec)=true:=by kernel_rfl
theorem looks_:true=Tryz.prog.looks []:=by kernel_rfl
theorem goes_:false=Rows.fnExactPrgReadRow.goesBy Tryz.prog:=by kernel_rfl
end Go.Proofs.YtlhniagacegbeaaGreatDoor.RowFnExactPrgRead
