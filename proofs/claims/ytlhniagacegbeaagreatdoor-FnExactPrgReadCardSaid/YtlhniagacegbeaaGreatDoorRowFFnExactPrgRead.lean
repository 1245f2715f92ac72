/- Closed facts of the row of FnExactPrgRead: each computed by the kernel. Conditions: none. -/
import Derived.Test.YtlhniagacegbeaaGreatDoorRows
import Derived.Test.YtlhniagacegbeaaGreatDoorTie
import Derived.Test.YtlhniagacegbeaaGreatDoorCards
import Derived.Lib.LaidTab
import Derived.Stop.LaidErr
import Derived.Lib.AppendIntMem
import Derived.WalkKit
import Derived.ProofKit
import Derived.OpenShut
import Derived.ShutString
import Derived.ChangeOld
import Derived.Below
import Derived.SizedLaws
import Derived.LaidMore
import Derived.Lay
import Derived.SevenTiedAt
import Derived.Stop.Joined
namespace Go.Proofs.YtlhniagacegbeaaGreatDoor.RowFnExactPrgRead
open Go.ChangeShapes Go.WideShapes Go.ChangeAt Go.RowKit
set_option linter.unusedVariables false
set_option linter.unusedSimpArgs false
theorem own:ownKnob Tryz.prog.godebug=none:=by kernel_rfl
theorem jf0:(Rows.fnExactPrgReadRow.wf (OpenSpec.ofChange Rows.fnExactPrgReadSpec))=true:=by kernel_rfl
theorem jf2:(mapsRowed Tryz.prog)=true:=by kernel_rfl
theorem jf4:(namedTie Tryz.prog Rows.fnExactPrgReadRow.named Rows.fnExactPrgReadSpec.vars)=true:=by kernel_rfl
theorem jf6:((Tryz.prog.stops == []))=true:=by kernel_rfl
theorem jf8:((Tryz.prog.stopKnobs == []))=true:=by kernel_rfl
theorem jf10:((Rows.fnExactPrgReadRow.unfollowed == Tryz.prog.unfollowed 5))=true:=by kernel_rfl
theorem jf12:((Rows.fnExactPrgReadRow.named == Tryz.prog.varsNamed 5))=true:=by kernel_rfl
theorem jf14:((Rows.fnExactPrgReadRow.ifaces == (Tryz.f5.params.toList++Rows.fnExactPrgReadSpec.plain.varTypes Tryz.prog).any (Tryz.prog.ifacesRec ·)))=true:=by kernel_rfl
theorem jf16:((Rows.fnExactPrgReadRow.loops == (Tryz.f5.params.toList++Rows.fnExactPrgReadSpec.plain.varTypes Tryz.prog).any (Tryz.prog.loopsFrom ·)))=true:=by kernel_rfl
theorem jf18:(Rows.fnExactPrgReadSpec.vars.all (Tryz.prog.varReadable ·))=true:=by kernel_rfl
theorem jf20:((Rows.fnExactPrgReadRow.ifacesOut == Tryz.f5.resultTypes.toList.any (Tryz.prog.ifacesRec ·)))=true:=by kernel_rfl
theorem jf22:((Rows.fnExactPrgReadRow.plainKeys == Tryz.prog.plainKeys))=true:=by kernel_rfl
theorem jf24:(Tryz.prog.stopsHeard)=true:=by kernel_rfl
theorem jf26:((Rows.fnExactPrgReadRow.lifted == Tryz.prog.liftsFinal))=true:=by kernel_rfl
theorem jf28:((Rows.fnExactPrgReadRow.kinds == (if Rows.fnExactPrgReadRow.domain.isEmpty then [] else Tryz.f5.params.toList.map fun t=>match Tryz.prog.underlying t with|some (.int k)=>some k|_=>none)))=true:=by kernel_rfl
theorem jf30:((Rows.fnExactPrgReadRow.veiled == (Tryz.f5.params.toList++Rows.fnExactPrgReadSpec.plain.varTypes Tryz.prog++Tryz.f5.resultTypes.toList).any (Tryz.prog.veiledRec ·)))=true:=by kernel_rfl
theorem named_ : Tryz.prog.funcNamed "loop.example/catechist/laws.FnExactPrgRead" = some 5 := by kernel_rfl
theorem wrap_:Tryz.f5.isWrapper Tryz.prog Rows.fnExactPrgReadRow.wrapper Rows.fnExactPrgReadRow.mainSum:=by unfold Func.isWrapper;first|(rw [if_pos (by decide +kernel)];kernel_rfl)|(rw [if_neg (by decide +kernel)];exact ⟨rfl,rfl⟩)
theorem main_ : Tryz.prog.mainIs = some (true, "740c88b13215636d498bb43344aa69702e7143c5b4065a851c4e7dd881474822".toList) := by kernel_rfl
theorem stand_:([9].all fun u=>!Tryz.prog.wantsStandIn u)=true:=by kernel_rfl
end Go.Proofs.YtlhniagacegbeaaGreatDoor.RowFnExactPrgRead
