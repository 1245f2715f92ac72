/- Closed facts of the row of FnGoalText: each computed by the kernel. Conditions: none. -/
import Derived.Test.YtlhniagacegbeaaGreatDoorRows
import Derived.Test.YtlhniagacegbeaaGreatDoorTie
import Derived.Test.YtlhniagacegbeaaGreatDoorCards
import Derived.Lib.LaidTab
import Derived.Stop.LaidErr
import Derived.Lib.AppendIntMem
import Derived.WalkKit
import Derived.ProofKit
import Derived.OpenShut
import Derived.ShutString
import Derived.ChangeOld
import Derived.Below
import Derived.SizedLaws
import Derived.LaidMore
import Derived.Lay
import Derived.SevenTiedAt
import Derived.Stop.Joined
namespace Go.Proofs.YtlhniagacegbeaaGreatDoor.RowFnGoalText
open Go.ChangeShapes Go.WideShapes Go.ChangeAt Go.RowKit
set_option linter.unusedVariables false
set_option linter.unusedSimpArgs false
theorem own:ownKnob Tryz.prog.godebug=none:=by kernel_rfl
theorem jf0:(Rows.fnGoalTextRow.wf (OpenSpec.ofChange Rows.fnGoalTextSpec))=true:=by kernel_rfl
theorem jf2:(mapsRowed Tryz.prog)=true:=by kernel_rfl
theorem jf4:(namedTie Tryz.prog Rows.fnGoalTextRow.named Rows.fnGoalTextSpec.vars)=true:=by kernel_rfl
theorem jf6:((Tryz.prog.stops == []))=true:=by kernel_rfl
theorem jf8:((Tryz.prog.stopKnobs == []))=true:=by kernel_rfl
theorem jf10:((Rows.fnGoalTextRow.unfollowed == Tryz.prog.unfollowed 4))=true:=by kernel_rfl
theorem jf12:((Rows.fnGoalTextRow.named == Tryz.prog.varsNamed 4))=true:=by kernel_rfl
theorem jf14:((Rows.fnGoalTextRow.ifaces == (Tryz.f4.params.toList++Rows.fnGoalTextSpec.plain.varTypes Tryz.prog).any (Tryz.prog.ifacesRec ·)))=true:=by kernel_rfl
theorem jf16:((Rows.fnGoalTextRow.loops == (Tryz.f4.params.toList++Rows.fnGoalTextSpec.plain.varTypes Tryz.prog).any (Tryz.prog.loopsFrom ·)))=true:=by kernel_rfl
theorem jf18:(Rows.fnGoalTextSpec.vars.all (Tryz.prog.varReadable ·))=true:=by kernel_rfl
theorem jf20:((Rows.fnGoalTextRow.ifacesOut == Tryz.f4.resultTypes.toList.any (Tryz.prog.ifacesRec ·)))=true:=by kernel_rfl
theorem jf22:((Rows.fnGoalTextRow.plainKeys == Tryz.prog.plainKeys))=true:=by kernel_rfl
theorem jf24:(Tryz.prog.stopsHeard)=true:=by kernel_rfl
theorem jf26:((Rows.fnGoalTextRow.lifted == Tryz.prog.liftsFinal))=true:=by kernel_rfl
theorem jf28:((Rows.fnGoalTextRow.kinds == (if Rows.fnGoalTextRow.domain.isEmpty then [] else Tryz.f4.params.toList.map fun t=>match Tryz.prog.underlying t with|some (.int k)=>some k|_=>none)))=true:=by kernel_rfl
theorem jf30:((Rows.fnGoalTextRow.veiled == (Tryz.f4.params.toList++Rows.fnGoalTextSpec.plain.varTypes Tryz.prog++Tryz.f4.resultTypes.toList).any (Tryz.prog.veiledRec ·)))=true:=by kernel_rfl
theorem named_ : Tryz.prog.funcNamed "loop.example/catechist/laws.FnGoalText" = some 4 := by kernel_rfl
theorem wrap_:Tryz.f4.isWrapper Tryz.prog Rows.fnGoalTextRow.wrapper Rows.fnGoalTextRow.mainSum:=by unfold Func.isWrapper;first|(rw [if_pos (by decide +kernel)];kernel_rfl)|(rw [if_neg (by decide +kernel)];exact ⟨rfl,rfl⟩)
theorem main_ : Tryz.prog.mainIs = some (true, "740c88b13215636d498bb43344aa69702e7143c5b4065a851c4e7dd881474822".toList) := by kernel_rfl
theorem stand_:([30,30].all fun u=>!Tryz.prog.wantsStandIn u)=true:=by kernel_rfl
end Go.Proofs.YtlhniagacegbeaaGreatDoor.RowFnGoalText
