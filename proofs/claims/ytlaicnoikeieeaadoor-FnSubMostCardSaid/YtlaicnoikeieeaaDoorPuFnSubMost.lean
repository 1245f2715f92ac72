/- SubUnify binds no more than must be. -/
import Derived.Test.YtlaicnoikeieeaaDoorMCaB
import Derived.Test.YtlaicnoikeieeaaDoorMFullS
import Derived.Test.YtlaicnoikeieeaaDoorP19
namespace Go.Proofs.YtlaicnoikeieeaaDoor.Pu
open Go.RowKit Go.Proofs.YtlaicnoikeieeaaDoor.Cat Go.Proofs.YtlaicnoikeieeaaDoor.P Go.Proofs.YtlaicnoikeieeaaDoorW.PrintWords
set_option linter.unusedVariables false
set_option linter.unusedSimpArgs false
theorem FnSubMost (l:List Int) (h:IsCode l):∃ k,laws_FnSubMost.f k l=some true:=by
  refine Ev.rounds ?_
  unfold laws_FnSubMost.f
  by_cases hl:(l.length:Int) > 1048576
  · exact Ev.ifp hl (Ev.now _)
  refine Ev.ifn hl ?_
  obtain ⟨s,a,b,hd,sm,_⟩:=drawSubUnify_ev h
  refine Ev.bind hd (Ev.bind (isubunify_ev s sm.wf a b) ?_)
  by_cases h1:(subUnify s a b).2=1
  case neg=>exact Ev.ifn h1 (Ev.bindv caOk_ok (Ev.now _))
  obtain ⟨u,hu⟩:∃ x,subUnify s a b=(x,1):=⟨(subUnify s a b).1,by rw [← h1]⟩
  obtain ⟨m,hm,q1,q2,q3⟩:=law_most hu
  have mu:=(subUnify_done hu).2.1
  have mm:=(subUnify_done hm).2.1
  have e0:=isubunify_ev [] (by simp) a b
  rw [hm] at e0
  have e1:=isubfull_ev m (smb_of mm.oks).wf a
  rw [q1] at e1
  have e2:=isubfull_ev u (smb_of mu.oks).wf (full m a)
  rw [q2] at e2
  have e3:=isubfull_ev u (smb_of mu.oks).wf a
  rw [q3] at e3
  have fl:=mu.fits
  rw [hu]
  exact Ev.ifp rfl (Ev.bind e0 (Ev.ifp rfl (Ev.bind e1 (Ev.bind e2 (Ev.bind e3 (Ev.ifp rfl (Ev.ifp rfl (Ev.ifp rfl (Ev.bind (caTerm_self (full u a) (by omega)) (Ev.step (fun k=>rfl) (Ev.now _)))))))))))
end Go.Proofs.YtlaicnoikeieeaaDoor.Pu
