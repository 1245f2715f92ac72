/- Closed facts of the row of FnGoalOk: each computed by the kernel. Conditions: none. -/
import Derived.Test.YtepkgjcobocbpaaDoorRows
import Derived.Test.YtepkgjcobocbpaaDoorTie
import Derived.Test.YtepkgjcobocbpaaDoorCards
import Derived.WalkKit
import Derived.ProofKit
import Derived.OpenShut
import Derived.ShutString
import Derived.ChangeOld
import Derived.Below
import Derived.SizedLaws
import Derived.LaidMore
import Derived.Lay
import Derived.SevenTiedAt
import Derived.Stop.Joined
namespace Go.Proofs.YtepkgjcobocbpaaDoor.RowFnGoalOk
open Go.ChangeShapes Go.WideShapes Go.ChangeAt Go.RowKit
set_option linter.unusedVariables false
set_option linter.unusedSimpArgs false
theorem own:ownKnob Tryd.prog.godebug=none:=by kernel_rfl
theorem jf0:(Rows.fnGoalOkRow.wf (OpenSpec.ofChange Rows.fnGoalOkSpec))=true:=by kernel_rfl
theorem jf2:(mapsRowed Tryd.prog)=true:=by kernel_rfl
theorem jf4:(namedTie Tryd.prog Rows.fnGoalOkRow.named Rows.fnGoalOkSpec.vars)=true:=by kernel_rfl
theorem jf6:((Tryd.prog.stops == []))=true:=by kernel_rfl
theorem jf8:((Tryd.prog.stopKnobs == []))=true:=by kernel_rfl
theorem jf10:((Rows.fnGoalOkRow.unfollowed == Tryd.prog.unfollowed 4))=true:=by kernel_rfl
theorem jf12:((Rows.fnGoalOkRow.named == Tryd.prog.varsNamed 4))=true:=by kernel_rfl
theorem jf14:((Rows.fnGoalOkRow.ifaces == (Tryd.f4.params.toList++Rows.fnGoalOkSpec.plain.varTypes Tryd.prog).any (Tryd.prog.ifacesRec ·)))=true:=by kernel_rfl
theorem jf16:((Rows.fnGoalOkRow.loops == (Tryd.f4.params.toList++Rows.fnGoalOkSpec.plain.varTypes Tryd.prog).any (Tryd.prog.loopsFrom ·)))=true:=by kernel_rfl
theorem jf18:(Rows.fnGoalOkSpec.vars.all (Tryd.prog.varReadable ·))=true:=by kernel_rfl
theorem jf20:((Rows.fnGoalOkRow.ifacesOut == Tryd.f4.resultTypes.toList.any (Tryd.prog.ifacesRec ·)))=true:=by kernel_rfl
theorem jf22:((Rows.fnGoalOkRow.plainKeys == Tryd.prog.plainKeys))=true:=by kernel_rfl
theorem jf24:(Tryd.prog.stopsHeard)=true:=by kernel_rfl
theorem jf26:((Rows.fnGoalOkRow.lifted == Tryd.prog.liftsFinal))=true:=by kernel_rfl
theorem jf28:((Rows.fnGoalOkRow.kinds == (if Rows.fnGoalOkRow.domain.isEmpty then [] else Tryd.f4.params.toList.map fun t=>match Tryd.prog.underlying t with|some (.int k)=>some k|_=>none)))=true:=by kernel_rfl
theorem jf30:((Rows.fnGoalOkRow.veiled == (Tryd.f4.params.toList++Rows.fnGoalOkSpec.plain.varTypes Tryd.prog++Tryd.f4.resultTypes.toList).any (Tryd.prog.veiledRec ·)))=true:=by kernel_rfl
theorem named_ : Tryd.prog.funcNamed "loop.example/catechist/laws.FnGoalOk" = some 4 := by kernel_rfl
theorem wrap_:Tryd.f4.isWrapper Tryd.prog Rows.fnGoalOkRow.wrapper Rows.fnGoalOkRow.mainSum:=by unfold Func.isWrapper;first|(rw [if_pos (by decide +kernel)];kernel_rfl)|(rw [if_neg (by decide +kernel)];exact ⟨rfl,rfl⟩)
theorem main_ : Tryd.prog.mainIs = some (true, "48d0c548638a01b7c85a5e86b2b4dd7043d272fdd9b8b6d95b3fed4f4d880dec".toList) := by kernel_rfl
theorem stand_:([40].all fun u=>!Tryd.prog.wantsStandIn u)=true:=by kernel_rfl
end Go.Proofs.YtepkgjcobocbpaaDoor.RowFnGoalOk
