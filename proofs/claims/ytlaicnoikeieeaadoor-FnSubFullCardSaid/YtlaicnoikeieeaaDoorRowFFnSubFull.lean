/- Closed facts of the row of FnSubFull: each computed by the kernel. Conditions: none. -/
import Derived.Test.YtlaicnoikeieeaaDoorRows
import Derived.Test.YtlaicnoikeieeaaDoorTie
import Derived.Test.YtlaicnoikeieeaaDoorCards
import Derived.WalkKit
import Derived.ProofKit
import Derived.OpenShut
import Derived.ShutString
import Derived.ChangeOld
import Derived.Below
import Derived.SizedLaws
import Derived.LaidMore
import Derived.Lay
import Derived.SevenTiedAt
import Derived.Stop.Joined
namespace Go.Proofs.YtlaicnoikeieeaaDoor.RowFnSubFull
open Go.ChangeShapes Go.WideShapes Go.ChangeAt Go.RowKit
set_option linter.unusedVariables false
set_option linter.unusedSimpArgs false
theorem own:ownKnob Tryd.prog.godebug=none:=by kernel_rfl
theorem jf0:(Rows.fnSubFullRow.wf (OpenSpec.ofChange Rows.fnSubFullSpec))=true:=by kernel_rfl
theorem jf2:(mapsRowed Tryd.prog)=true:=by kernel_rfl
theorem jf4:(namedTie Tryd.prog Rows.fnSubFullRow.named Rows.fnSubFullSpec.vars)=true:=by kernel_rfl
theorem jf6:((Tryd.prog.stops == []))=true:=by kernel_rfl
theorem jf8:((Tryd.prog.stopKnobs == []))=true:=by kernel_rfl
theorem jf10:((Rows.fnSubFullRow.unfollowed == Tryd.prog.unfollowed 8))=true:=by kernel_rfl
theorem jf12:((Rows.fnSubFullRow.named == Tryd.prog.varsNamed 8))=true:=by kernel_rfl
theorem jf14:((Rows.fnSubFullRow.ifaces == (Tryd.f8.params.toList++Rows.fnSubFullSpec.plain.varTypes Tryd.prog).any (Tryd.prog.ifacesRec ·)))=true:=by kernel_rfl
theorem jf16:((Rows.fnSubFullRow.loops == (Tryd.f8.params.toList++Rows.fnSubFullSpec.plain.varTypes Tryd.prog).any (Tryd.prog.loopsFrom ·)))=true:=by kernel_rfl
theorem jf18:(Rows.fnSubFullSpec.vars.all (Tryd.prog.varReadable ·))=true:=by kernel_rfl
theorem jf20:((Rows.fnSubFullRow.ifacesOut == Tryd.f8.resultTypes.toList.any (Tryd.prog.ifacesRec ·)))=true:=by kernel_rfl
theorem jf22:((Rows.fnSubFullRow.plainKeys == Tryd.prog.plainKeys))=true:=by kernel_rfl
theorem jf24:(Tryd.prog.stopsHeard)=true:=by kernel_rfl
theorem jf26:((Rows.fnSubFullRow.lifted == Tryd.prog.liftsFinal))=true:=by kernel_rfl
theorem jf28:((Rows.fnSubFullRow.kinds == (if Rows.fnSubFullRow.domain.isEmpty then [] else Tryd.f8.params.toList.map fun t=>match Tryd.prog.underlying t with|some (.int k)=>some k|_=>none)))=true:=by kernel_rfl
theorem jf30:((Rows.fnSubFullRow.veiled == (Tryd.f8.params.toList++Rows.fnSubFullSpec.plain.varTypes Tryd.prog++Tryd.f8.resultTypes.toList).any (Tryd.prog.veiledRec ·)))=true:=by kernel_rfl
theorem named_ : Tryd.prog.funcNamed "loop.example/catechist/laws.FnSubFull" = some 8 := by kernel_rfl
theorem wrap_:Tryd.f8.isWrapper Tryd.prog Rows.fnSubFullRow.wrapper Rows.fnSubFullRow.mainSum:=by unfold Func.isWrapper;first|(rw [if_pos (by decide +kernel)];kernel_rfl)|(rw [if_neg (by decide +kernel)];exact ⟨rfl,rfl⟩)
theorem main_ : Tryd.prog.mainIs = some (true, "ed435f005494ea716374a3a1548e7a1b6843c0d957f7a9b453338a6fc2451de0".toList) := by kernel_rfl
theorem stand_:([22].all fun u=>!Tryd.prog.wantsStandIn u)=true:=by kernel_rfl
end Go.Proofs.YtlaicnoikeieeaaDoor.RowFnSubFull
