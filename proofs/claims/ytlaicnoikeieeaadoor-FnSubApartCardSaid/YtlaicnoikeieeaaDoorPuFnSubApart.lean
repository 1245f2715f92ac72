/- What two terms cannot be, they cannot be with bindings. -/
import Derived.Test.YtlaicnoikeieeaaDoorMNear
import Derived.Test.YtlaicnoikeieeaaDoorMCa
import Derived.Test.YtlaicnoikeieeaaDoorMUniS
import Derived.Test.YtlaicnoikeieeaaDoorMMeetS
import Derived.Test.YtlaicnoikeieeaaDoorP18
namespace Go.Proofs.YtlaicnoikeieeaaDoor.Pu
open Go.RowKit Go.Proofs.YtlaicnoikeieeaaDoor.Cat Go.Proofs.YtlaicnoikeieeaaDoor.P Go.Proofs.YtlaicnoikeieeaaDoorW.PrintWords
set_option linter.unusedVariables false
set_option linter.unusedSimpArgs false
theorem FnSubApart (l:List Int) (h:IsCode l):∃ k,laws_FnSubApart.f k l=some true:=by
  refine Ev.rounds ?_
  unfold laws_FnSubApart.f
  by_cases hl:(l.length:Int) > 1048576
  · exact Ev.ifp hl (Ev.now _)
  refine Ev.ifn hl ?_
  obtain ⟨s,a,b,hd,sm,_⟩:=drawSubUnify_ev h
  have hs:=sm.len
  refine Ev.bind hd (Ev.bind (isubunify_ev [] (by simp) a b) (Ev.bind (isubunify_ev s sm.wf a b) (Ev.bind (ssubunify_ev s ⟨by omega,fun b hb=>by have:=sm.each b hb;omega⟩ a b) (Ev.ifp rfl ?_))))
  by_cases h2:(subUnify [] a b).2=2
  · exact Ev.ifp h2 (Ev.ifn (law_apart h2) (Ev.bindv caOk_ok (Ev.step (fun k=>rfl) (Ev.now _))))
  · exact Ev.ifn h2 (Ev.step (fun k=>rfl) (Ev.now _))
end Go.Proofs.YtlaicnoikeieeaaDoor.Pu
