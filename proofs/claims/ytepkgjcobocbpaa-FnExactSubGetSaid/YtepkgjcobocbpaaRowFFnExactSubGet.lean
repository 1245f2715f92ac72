/- Closed facts of the row of FnExactSubGet: each computed by the kernel. Conditions: none. -/
import Derived.Test.YtepkgjcobocbpaaRows
import Derived.WalkKit
import Derived.ProofKit
import Derived.OpenShut
import Derived.ShutString
import Derived.ChangeOld
import Derived.Below
import Derived.SizedLaws
namespace Go.Proofs.Ytepkgjcobocbpaa.RowFnExactSubGet
open Go.ChangeShapes Go.WideShapes Go.ChangeAt Go.RowKit
set_option linter.unusedVariables false
set_option linter.unusedSimpArgs false
theorem own:ownKnob Try.prog.godebug=none:=by kernel_rfl
theorem jf0:(Rows.fnExactSubGetRow.wf (OpenSpec.ofChange Rows.fnExactSubGetSpec))=true:=by kernel_rfl
theorem jf2:(mapsRowed Try.prog)=true:=by kernel_rfl
theorem jf4:(namedTie Try.prog Rows.fnExactSubGetRow.named Rows.fnExactSubGetSpec.vars)=true:=by kernel_rfl
theorem jf6:((Try.prog.stops == []))=true:=by kernel_rfl
theorem jf8:((Try.prog.stopKnobs == []))=true:=by kernel_rfl
theorem jf10:((Rows.fnExactSubGetRow.unfollowed == Try.prog.unfollowed 3))=true:=by kernel_rfl
theorem jf12:((Rows.fnExactSubGetRow.named == Try.prog.varsNamed 3))=true:=by kernel_rfl
theorem jf14:((Rows.fnExactSubGetRow.ifaces == (Try.f3.params.toList++Rows.fnExactSubGetSpec.plain.varTypes Try.prog).any (Try.prog.ifacesRec ·)))=true:=by kernel_rfl
theorem jf16:((Rows.fnExactSubGetRow.loops == (Try.f3.params.toList++Rows.fnExactSubGetSpec.plain.varTypes Try.prog).any (Try.prog.loopsFrom ·)))=true:=by kernel_rfl
theorem jf18:(Rows.fnExactSubGetSpec.vars.all (Try.prog.varReadable ·))=true:=by kernel_rfl
theorem jf20:((Rows.fnExactSubGetRow.ifacesOut == Try.f3.resultTypes.toList.any (Try.prog.ifacesRec ·)))=true:=by kernel_rfl
theorem jf22:((Rows.fnExactSubGetRow.plainKeys == Try.prog.plainKeys))=true:=by kernel_rfl
theorem jf24:(Try.prog.stopsHeard)=true:=by kernel_rfl
theorem jf26:((Rows.fnExactSubGetRow.lifted == Try.prog.liftsFinal))=true:=by kernel_rfl
theorem jf28:((Rows.fnExactSubGetRow.kinds == (if Rows.fnExactSubGetRow.domain.isEmpty then [] else Try.f3.params.toList.map fun t=>match Try.prog.underlying t with|some (.int k)=>some k|_=>none)))=true:=by kernel_rfl
theorem jf30:((Rows.fnExactSubGetRow.veiled == (Try.f3.params.toList++Rows.fnExactSubGetSpec.plain.varTypes Try.prog++Try.f3.resultTypes.toList).any (Try.prog.veiledRec ·)))=true:=by kernel_rfl
theorem named_ : Try.prog.funcNamed "loop.example/catechist/laws.FnExactSubGet" = some 3 := by kernel_rfl
theorem wrap_:Try.f3.isWrapper Try.prog Rows.fnExactSubGetRow.wrapper Rows.fnExactSubGetRow.mainSum:=by unfold Func.isWrapper;first|(rw [if_pos (by decide +kernel)];kernel_rfl)|(rw [if_neg (by decide +kernel)];exact ⟨rfl,rfl⟩)
end Go.Proofs.Ytepkgjcobocbpaa.RowFnExactSubGet
