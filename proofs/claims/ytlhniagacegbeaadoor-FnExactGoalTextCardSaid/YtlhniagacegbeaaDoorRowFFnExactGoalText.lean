/- Closed facts of the row of FnExactGoalText: each computed by the kernel. Conditions: none. -/
import Derived.Test.YtlhniagacegbeaaDoorRows
import Derived.Test.YtlhniagacegbeaaDoorTie
import Derived.Test.YtlhniagacegbeaaDoorCards
import Derived.Lib.LaidTab
import Derived.Stop.LaidErr
import Derived.Lib.AppendIntMem
import Derived.WalkKit
import Derived.ProofKit
import Derived.OpenShut
import Derived.ShutString
import Derived.ChangeOld
import Derived.Below
import Derived.SizedLaws
import Derived.LaidMore
import Derived.Lay
import Derived.SevenTiedAt
import Derived.Stop.Joined
namespace Go.Proofs.YtlhniagacegbeaaDoor.RowFnExactGoalText
open Go.ChangeShapes Go.WideShapes Go.ChangeAt Go.RowKit
set_option linter.unusedVariables false
set_option linter.unusedSimpArgs false
theorem own:ownKnob Tryd.prog.godebug=none:=by kernel_rfl
theorem jf0:(Rows.fnExactGoalTextRow.wf (OpenSpec.ofChange Rows.fnExactGoalTextSpec))=true:=by kernel_rfl
theorem jf2:(mapsRowed Tryd.prog)=true:=by kernel_rfl
theorem jf4:(namedTie Tryd.prog Rows.fnExactGoalTextRow.named Rows.fnExactGoalTextSpec.vars)=true:=by kernel_rfl
theorem jf6:((Tryd.prog.stops == []))=true:=by kernel_rfl
theorem jf8:((Tryd.prog.stopKnobs == []))=true:=by kernel_rfl
theorem jf10:((Rows.fnExactGoalTextRow.unfollowed == Tryd.prog.unfollowed 3))=true:=by kernel_rfl
theorem jf12:((Rows.fnExactGoalTextRow.named == Tryd.prog.varsNamed 3))=true:=by kernel_rfl
theorem jf14:((Rows.fnExactGoalTextRow.ifaces == (Tryd.f3.params.toList++Rows.fnExactGoalTextSpec.plain.varTypes Tryd.prog).any (Tryd.prog.ifacesRec ·)))=true:=by kernel_rfl
theorem jf16:((Rows.fnExactGoalTextRow.loops == (Tryd.f3.params.toList++Rows.fnExactGoalTextSpec.plain.varTypes Tryd.prog).any (Tryd.prog.loopsFrom ·)))=true:=by kernel_rfl
theorem jf18:(Rows.fnExactGoalTextSpec.vars.all (Tryd.prog.varReadable ·))=true:=by kernel_rfl
theorem jf20:((Rows.fnExactGoalTextRow.ifacesOut == Tryd.f3.resultTypes.toList.any (Tryd.prog.ifacesRec ·)))=true:=by kernel_rfl
theorem jf22:((Rows.fnExactGoalTextRow.plainKeys == Tryd.prog.plainKeys))=true:=by kernel_rfl
theorem jf24:(Tryd.prog.stopsHeard)=true:=by kernel_rfl
theorem jf26:((Rows.fnExactGoalTextRow.lifted == Tryd.prog.liftsFinal))=true:=by kernel_rfl
theorem jf28:((Rows.fnExactGoalTextRow.kinds == (if Rows.fnExactGoalTextRow.domain.isEmpty then [] else Tryd.f3.params.toList.map fun t=>match Tryd.prog.underlying t with|some (.int k)=>some k|_=>none)))=true:=by kernel_rfl
theorem jf30:((Rows.fnExactGoalTextRow.veiled == (Tryd.f3.params.toList++Rows.fnExactGoalTextSpec.plain.varTypes Tryd.prog++Tryd.f3.resultTypes.toList).any (Tryd.prog.veiledRec ·)))=true:=by kernel_rfl
theorem named_ : Tryd.prog.funcNamed "loop.example/catechist/laws.FnExactGoalText" = some 3 := by kernel_rfl
theorem wrap_:Tryd.f3.isWrapper Tryd.prog Rows.fnExactGoalTextRow.wrapper Rows.fnExactGoalTextRow.mainSum:=by unfold Func.isWrapper;first|(rw [if_pos (by decide +kernel)];kernel_rfl)|(rw [if_neg (by decide +kernel)];exact ⟨rfl,rfl⟩)
theorem main_ : Tryd.prog.mainIs = some (true, "f045b175de8376598349c0e5f4aa9405467945c4d811aaec98045cf7205f6236".toList) := by kernel_rfl
theorem stand_:([24].all fun u=>!Tryd.prog.wantsStandIn u)=true:=by kernel_rfl
end Go.Proofs.YtlhniagacegbeaaDoor.RowFnExactGoalText
