/- Closed facts of the row of FnTrmText: each computed by the kernel. Conditions: none. -/
import Derived.Test.YtibencknfheplaaGreatDoorRows
import Derived.Test.YtibencknfheplaaGreatDoorTie
import Derived.Test.YtibencknfheplaaGreatDoorCards
import Derived.Lib.LaidTab
import Derived.Stop.LaidErr
import Derived.Lib.AppendIntMem
import Derived.WalkKit
import Derived.ProofKit
import Derived.OpenShut
import Derived.ShutString
import Derived.ChangeOld
import Derived.Below
import Derived.SizedLaws
import Derived.LaidMore
import Derived.Lay
import Derived.SevenTiedAt
import Derived.Stop.Joined
namespace Go.Proofs.YtibencknfheplaaGreatDoor.RowFnTrmText
open Go.ChangeShapes Go.WideShapes Go.ChangeAt Go.RowKit
set_option linter.unusedVariables false
set_option linter.unusedSimpArgs false
theorem own:ownKnob Tryz.prog.godebug=none:=by kernel_rfl
theorem jf0:(Rows.fnTrmTextRow.wf (OpenSpec.ofChange Rows.fnTrmTextSpec))=true:=by kernel_rfl
theorem jf2:(mapsRowed Tryz.prog)=true:=by kernel_rfl
theorem jf4:(namedTie Tryz.prog Rows.fnTrmTextRow.named Rows.fnTrmTextSpec.vars)=true:=by kernel_rfl
theorem jf6:((Tryz.prog.stops == []))=true:=by kernel_rfl
theorem jf8:((Tryz.prog.stopKnobs == []))=true:=by kernel_rfl
theorem jf10:((Rows.fnTrmTextRow.unfollowed == Tryz.prog.unfollowed 3))=true:=by kernel_rfl
theorem jf12:((Rows.fnTrmTextRow.named == Tryz.prog.varsNamed 3))=true:=by kernel_rfl
theorem jf14:((Rows.fnTrmTextRow.ifaces == (Tryz.f3.params.toList++Rows.fnTrmTextSpec.plain.varTypes Tryz.prog).any (Tryz.prog.ifacesRec ·)))=true:=by kernel_rfl
theorem jf16:((Rows.fnTrmTextRow.loops == (Tryz.f3.params.toList++Rows.fnTrmTextSpec.plain.varTypes Tryz.prog).any (Tryz.prog.loopsFrom ·)))=true:=by kernel_rfl
theorem jf18:(Rows.fnTrmTextSpec.vars.all (Tryz.prog.varReadable ·))=true:=by kernel_rfl
theorem jf20:((Rows.fnTrmTextRow.ifacesOut == Tryz.f3.resultTypes.toList.any (Tryz.prog.ifacesRec ·)))=true:=by kernel_rfl
theorem jf22:((Rows.fnTrmTextRow.plainKeys == Tryz.prog.plainKeys))=true:=by kernel_rfl
theorem jf24:(Tryz.prog.stopsHeard)=true:=by kernel_rfl
theorem jf26:((Rows.fnTrmTextRow.lifted == Tryz.prog.liftsFinal))=true:=by kernel_rfl
theorem jf28:((Rows.fnTrmTextRow.kinds == (if Rows.fnTrmTextRow.domain.isEmpty then [] else Tryz.f3.params.toList.map fun t=>match Tryz.prog.underlying t with|some (.int k)=>some k|_=>none)))=true:=by kernel_rfl
theorem jf30:((Rows.fnTrmTextRow.veiled == (Tryz.f3.params.toList++Rows.fnTrmTextSpec.plain.varTypes Tryz.prog++Tryz.f3.resultTypes.toList).any (Tryz.prog.veiledRec ·)))=true:=by kernel_rfl
theorem named_ : Tryz.prog.funcNamed "loop.example/catechist/laws.FnTrmText" = some 3 := by kernel_rfl
theorem wrap_:Tryz.f3.isWrapper Tryz.prog Rows.fnTrmTextRow.wrapper Rows.fnTrmTextRow.mainSum:=by unfold Func.isWrapper;first|(rw [if_pos (by decide +kernel)];kernel_rfl)|(rw [if_neg (by decide +kernel)];exact ⟨rfl,rfl⟩)
theorem main_ : Tryz.prog.mainIs = some (true, "253fccc6da2889856d2e5cd7b2d0fb09acf7febbaecb86b0e192a288015aef60".toList) := by kernel_rfl
theorem stand_:([22,22].all fun u=>!Tryz.prog.wantsStandIn u)=true:=by kernel_rfl
end Go.Proofs.YtibencknfheplaaGreatDoor.RowFnTrmText
