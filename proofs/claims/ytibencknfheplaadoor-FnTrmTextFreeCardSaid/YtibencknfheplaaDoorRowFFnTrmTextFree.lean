/- Closed facts of the row of FnTrmTextFree: each computed by the kernel. Conditions: none. -/
import Derived.Test.YtibencknfheplaaDoorRows
import Derived.Test.YtibencknfheplaaDoorTie
import Derived.Test.YtibencknfheplaaDoorCards
import Derived.Lib.LaidTab
import Derived.Stop.LaidErr
import Derived.Lib.AppendIntMem
import Derived.WalkKit
import Derived.ProofKit
import Derived.OpenShut
import Derived.ShutString
import Derived.ChangeOld
import Derived.Below
import Derived.SizedLaws
import Derived.LaidMore
import Derived.Lay
import Derived.SevenTiedAt
import Derived.Stop.Joined
namespace Go.Proofs.YtibencknfheplaaDoor.RowFnTrmTextFree
open Go.ChangeShapes Go.WideShapes Go.ChangeAt Go.RowKit
set_option linter.unusedVariables false
set_option linter.unusedSimpArgs false
theorem own:ownKnob Tryd.prog.godebug=none:=by kernel_rfl
theorem jf0:(Rows.fnTrmTextFreeRow.wf (OpenSpec.ofChange Rows.fnTrmTextFreeSpec))=true:=by kernel_rfl
theorem jf2:(mapsRowed Tryd.prog)=true:=by kernel_rfl
theorem jf4:(namedTie Tryd.prog Rows.fnTrmTextFreeRow.named Rows.fnTrmTextFreeSpec.vars)=true:=by kernel_rfl
theorem jf6:((Tryd.prog.stops == []))=true:=by kernel_rfl
theorem jf8:((Tryd.prog.stopKnobs == []))=true:=by kernel_rfl
theorem jf10:((Rows.fnTrmTextFreeRow.unfollowed == Tryd.prog.unfollowed 4))=true:=by kernel_rfl
theorem jf12:((Rows.fnTrmTextFreeRow.named == Tryd.prog.varsNamed 4))=true:=by kernel_rfl
theorem jf14:((Rows.fnTrmTextFreeRow.ifaces == (Tryd.f4.params.toList++Rows.fnTrmTextFreeSpec.plain.varTypes Tryd.prog).any (Tryd.prog.ifacesRec ·)))=true:=by kernel_rfl
theorem jf16:((Rows.fnTrmTextFreeRow.loops == (Tryd.f4.params.toList++Rows.fnTrmTextFreeSpec.plain.varTypes Tryd.prog).any (Tryd.prog.loopsFrom ·)))=true:=by kernel_rfl
theorem jf18:(Rows.fnTrmTextFreeSpec.vars.all (Tryd.prog.varReadable ·))=true:=by kernel_rfl
theorem jf20:((Rows.fnTrmTextFreeRow.ifacesOut == Tryd.f4.resultTypes.toList.any (Tryd.prog.ifacesRec ·)))=true:=by kernel_rfl
theorem jf22:((Rows.fnTrmTextFreeRow.plainKeys == Tryd.prog.plainKeys))=true:=by kernel_rfl
theorem jf24:(Tryd.prog.stopsHeard)=true:=by kernel_rfl
theorem jf26:((Rows.fnTrmTextFreeRow.lifted == Tryd.prog.liftsFinal))=true:=by kernel_rfl
theorem jf28:((Rows.fnTrmTextFreeRow.kinds == (if Rows.fnTrmTextFreeRow.domain.isEmpty then [] else Tryd.f4.params.toList.map fun t=>match Tryd.prog.underlying t with|some (.int k)=>some k|_=>none)))=true:=by kernel_rfl
theorem jf30:((Rows.fnTrmTextFreeRow.veiled == (Tryd.f4.params.toList++Rows.fnTrmTextFreeSpec.plain.varTypes Tryd.prog++Tryd.f4.resultTypes.toList).any (Tryd.prog.veiledRec ·)))=true:=by kernel_rfl
theorem named_ : Tryd.prog.funcNamed "loop.example/catechist/laws.FnTrmTextFree" = some 4 := by kernel_rfl
theorem wrap_:Tryd.f4.isWrapper Tryd.prog Rows.fnTrmTextFreeRow.wrapper Rows.fnTrmTextFreeRow.mainSum:=by unfold Func.isWrapper;first|(rw [if_pos (by decide +kernel)];kernel_rfl)|(rw [if_neg (by decide +kernel)];exact ⟨rfl,rfl⟩)
theorem main_ : Tryd.prog.mainIs = some (true, "3082b26434d0b93c836d674f7e06f444858e38d78c794ac6c9a71581c5d83494".toList) := by kernel_rfl
theorem stand_:([29].all fun u=>!Tryd.prog.wantsStandIn u)=true:=by kernel_rfl
end Go.Proofs.YtibencknfheplaaDoor.RowFnTrmTextFree
