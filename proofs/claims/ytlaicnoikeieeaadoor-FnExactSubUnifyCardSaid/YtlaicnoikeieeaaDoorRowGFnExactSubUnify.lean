/- Closed facts of the row of FnExactSubUnify: each computed by the kernel. Conditions: none. -/
import Derived.Test.YtlaicnoikeieeaaDoorRows
import Derived.Test.YtlaicnoikeieeaaDoorTie
import Derived.Test.YtlaicnoikeieeaaDoorCards
import Derived.WalkKit
import Derived.ProofKit
import Derived.OpenShut
import Derived.ShutString
import Derived.ChangeOld
import Derived.Below
import Derived.SizedLaws
import Derived.LaidMore
import Derived.Lay
import Derived.SevenTiedAt
import Derived.Stop.Joined
namespace Go.Proofs.YtlaicnoikeieeaaDoor.RowFnExactSubUnify
open Go.ChangeShapes Go.WideShapes Go.ChangeAt Go.RowKit
set_option linter.unusedVariables false
set_option linter.unusedSimpArgs false
theorem laidOut:laidOutB Tryd.prog=true:=by kernel_rfl
theorem jf1:(laidOutB Tryd.prog)=true:=by kernel_rfl
theorem jf3:(Tryd.f16.params.all (Tryd.prog.readableRec ·))=true:=by kernel_rfl
theorem jf5:((Rows.fnExactSubUnifyRow.stops == []))=true:=by kernel_rfl
theorem jf7:((Rows.fnExactSubUnifyRow.knobs == []))=true:=by kernel_rfl
theorem jf9:((Rows.fnExactSubUnifyRow.inPlace == Tryd.prog.inPlace 16))=true:=by kernel_rfl
theorem jf11:((Rows.fnExactSubUnifyRow.recurses == Tryd.prog.recurses 16))=true:=by kernel_rfl
theorem jf13:((Rows.fnExactSubUnifyRow.maps == (Tryd.f16.params.toList++Rows.fnExactSubUnifySpec.plain.varTypes Tryd.prog).any (Tryd.prog.mapsRec ·)))=true:=by kernel_rfl
theorem jf15:((Rows.fnExactSubUnifyRow.mapsOut == Tryd.prog.mapsAmong Tryd.f16.resultTypes.toList))=true:=by kernel_rfl
theorem jf17:((Rows.fnExactSubUnifyRow.wideKeys == (Tryd.f16.params.toList++Rows.fnExactSubUnifySpec.plain.varTypes Tryd.prog++Tryd.f16.resultTypes.toList).any (Tryd.prog.wideKeysFrom ·)))=true:=by kernel_rfl
theorem jf19:(Tryd.f16.resultTypes.all (fun t=>Tryd.prog.readableRec t && decide (t<Tryd.prog.types.size)))=true:=by kernel_rfl
theorem jf21:((Rows.fnExactSubUnifyRow.loopsOut == Tryd.f16.resultTypes.toList.any (Tryd.prog.loopsFrom ·)))=true:=by kernel_rfl
theorem jf23:(Rows.fnExactSubUnifyRow.shortTexts.isNone)=true:=by kernel_rfl
theorem jf25:(Tryd.prog.mayEnter)=true:=by kernel_rfl
theorem jf27:((Tryd.prog.make == some Rows.fnExactSubUnifyRow.make))=true:=by kernel_rfl
theorem jf29:((Rows.fnExactSubUnifyRow.pinned == Rows.fnExactSubUnifyRow.pinnedBy))=true:=by kernel_rfl
theorem jf31:(Rows.fnExactSubUnifyRow.veiledFits Tryd.prog Tryd.f16.params.toList (Tryd.f16.params.toList++Rows.fnExactSubUnifySpec.plain.varTypes Tryd.prog++Tryd.f16.resultTypes.toList))=true:=by kernel_rfl
theorem inst_:Tryd.f16.isInstance Tryd.prog Rows.fnExactSubUnifyRow.origin Rows.fnExactSubUnifyRow.targs:=of_decide_eq_true (by kernel_rfl)
theorem wfb_:Rows.fnExactSubUnifyRow.wfByText (OpenSpec.ofChange Rows.fnExactSubUnifySpec)=true:=by kernel_rfl
theorem looks_:false=Tryd.prog.looks []:=by kernel_rfl
theorem goes_:false=Rows.fnExactSubUnifyRow.goesBy Tryd.prog:=by kernel_rfl
end Go.Proofs.YtlaicnoikeieeaaDoor.RowFnExactSubUnify
