/- Closed facts of the row of FnExactSubUnify: each computed by the kernel. Conditions: none. -/
import Derived.Test.YtlaicnoikeieeaaDoorRows
import Derived.Test.YtlaicnoikeieeaaDoorTie
import Derived.Test.YtlaicnoikeieeaaDoorCards
import Derived.WalkKit
import Derived.ProofKit
import Derived.OpenShut
import Derived.ShutString
import Derived.ChangeOld
import Derived.Below
import Derived.SizedLaws
import Derived.LaidMore
import Derived.Lay
import Derived.SevenTiedAt
import Derived.Stop.Joined
namespace Go.Proofs.YtlaicnoikeieeaaDoor.RowFnExactSubUnify
open Go.ChangeShapes Go.WideShapes Go.ChangeAt Go.RowKit
set_option linter.unusedVariables false
set_option linter.unusedSimpArgs false
theorem own:ownKnob Tryd.prog.godebug=none:=by kernel_rfl
theorem jf0:(Rows.fnExactSubUnifyRow.wf (OpenSpec.ofChange Rows.fnExactSubUnifySpec))=true:=by kernel_rfl
theorem jf2:(mapsRowed Tryd.prog)=true:=by kernel_rfl
theorem jf4:(namedTie Tryd.prog Rows.fnExactSubUnifyRow.named Rows.fnExactSubUnifySpec.vars)=true:=by kernel_rfl
theorem jf6:((Tryd.prog.stops == []))=true:=by kernel_rfl
theorem jf8:((Tryd.prog.stopKnobs == []))=true:=by kernel_rfl
theorem jf10:((Rows.fnExactSubUnifyRow.unfollowed == Tryd.prog.unfollowed 16))=true:=by kernel_rfl
theorem jf12:((Rows.fnExactSubUnifyRow.named == Tryd.prog.varsNamed 16))=true:=by kernel_rfl
theorem jf14:((Rows.fnExactSubUnifyRow.ifaces == (Tryd.f16.params.toList++Rows.fnExactSubUnifySpec.plain.varTypes Tryd.prog).any (Tryd.prog.ifacesRec ·)))=true:=by kernel_rfl
theorem jf16:((Rows.fnExactSubUnifyRow.loops == (Tryd.f16.params.toList++Rows.fnExactSubUnifySpec.plain.varTypes Tryd.prog).any (Tryd.prog.loopsFrom ·)))=true:=by kernel_rfl
theorem jf18:(Rows.fnExactSubUnifySpec.vars.all (Tryd.prog.varReadable ·))=true:=by kernel_rfl
theorem jf20:((Rows.fnExactSubUnifyRow.ifacesOut == Tryd.f16.resultTypes.toList.any (Tryd.prog.ifacesRec ·)))=true:=by kernel_rfl
theorem jf22:((Rows.fnExactSubUnifyRow.plainKeys == Tryd.prog.plainKeys))=true:=by kernel_rfl
theorem jf24:(Tryd.prog.stopsHeard)=true:=by kernel_rfl
theorem jf26:((Rows.fnExactSubUnifyRow.lifted == Tryd.prog.liftsFinal))=true:=by kernel_rfl
theorem jf28:((Rows.fnExactSubUnifyRow.kinds == (if Rows.fnExactSubUnifyRow.domain.isEmpty then [] else Tryd.f16.params.toList.map fun t=>match Tryd.prog.underlying t with|some (.int k)=>some k|_=>none)))=true:=by kernel_rfl
theorem jf30:((Rows.fnExactSubUnifyRow.veiled == (Tryd.f16.params.toList++Rows.fnExactSubUnifySpec.plain.varTypes Tryd.prog++Tryd.f16.resultTypes.toList).any (Tryd.prog.veiledRec ·)))=true:=by kernel_rfl
theorem named_ : Tryd.prog.funcNamed "loop.example/catechist/laws.FnExactSubUnify" = some 16 := by kernel_rfl
theorem wrap_:Tryd.f16.isWrapper Tryd.prog Rows.fnExactSubUnifyRow.wrapper Rows.fnExactSubUnifyRow.mainSum:=by unfold Func.isWrapper;first|(rw [if_pos (by decide +kernel)];kernel_rfl)|(rw [if_neg (by decide +kernel)];exact ⟨rfl,rfl⟩)
theorem main_ : Tryd.prog.mainIs = some (true, "ed435f005494ea716374a3a1548e7a1b6843c0d957f7a9b453338a6fc2451de0".toList) := by kernel_rfl
theorem stand_:([33,47,47].all fun u=>!Tryd.prog.wantsStandIn u)=true:=by kernel_rfl
end Go.Proofs.YtlaicnoikeieeaaDoor.RowFnExactSubUnify
