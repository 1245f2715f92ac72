/- What SubUnify binds makes both terms the same; it is bindings, and goes on from what was bound. -/
import Derived.Test.YtlaicnoikeieeaaDoorMCaB
import Derived.Test.YtlaicnoikeieeaaDoorMMeetS
import Derived.Test.YtlaicnoikeieeaaDoorP20
namespace Go.Proofs.YtlaicnoikeieeaaDoor.Pu
open Go.RowKit Go.Proofs.YtlaicnoikeieeaaDoor.Cat Go.Proofs.YtlaicnoikeieeaaDoor.P Go.Proofs.YtlaicnoikeieeaaDoorW.PrintWords
set_option linter.unusedVariables false
set_option linter.unusedSimpArgs false
open Classical in
theorem FnSubUnify (l:List Int) (h:IsCode l):∃ k,laws_FnSubUnify.f k l=some true:=by
  refine Ev.rounds ?_
  unfold laws_FnSubUnify.f
  by_cases hl:(l.length:Int) > 1048576
  · exact Ev.ifp hl (Ev.now _)
  refine Ev.ifn hl ?_
  obtain ⟨s,a,b,hd,sm,_⟩:=drawSubUnify_ev h
  refine Ev.bind hd (Ev.bind (isubunify_ev s sm.wf a b) (Ev.bind (ssubunify_ev s sm.sizes a b) (Ev.bind (caBinds_sub s a b) (Ev.ifp rfl (Ev.ifp rfl (Ev.bind (isubok_ev s sm.wf) (Ev.bind (ssubok_ev s sm.sizes) ?_)))))))
  refine Ev.step (fun k=>rfl) ?_
  simp only [laws_FnSubUnify.j0]
  refine Ev.ifn (by simp) (Ev.bind (ssubok_ev s sm.sizes) ?_)
  have N:∀ x,x=true→¬ (Oks s∧isTerm a=true∧isTerm b=true)→Ev (fun k=>laws_FnSubUnify.j1 k s a b (subUnify s a b).1 (subUnify s a b).2 x) true:=fun x hx hn=>by
    refine Ev.step (fun k=>rfl) ?_
    simp only [laws_FnSubUnify.j1]
    rw [subUnify_no hn]
    exact Ev.ifp hx (Ev.ifp rfl (Ev.ifp rfl (Ev.bindv caOk_ok (Ev.step (fun k=>rfl) (Ev.now _)))))
  by_cases h0:Oks s
  case neg=>exact Ev.ifn (by simp [h0]) (N _ rfl (fun h=>h0 h.1))
  refine Ev.ifp (by simp [h0]) (Ev.bind (sok_ev a) ?_)
  by_cases ha:isTerm a=true
  case neg=>exact Ev.ifn ha (N _ rfl (fun h=>ha h.2.1))
  refine Ev.ifp ha (Ev.bind (sok_ev b) ?_)
  by_cases hb:isTerm b=true
  case neg=>exact N _ (by simp [hb]) (fun h=>hb h.2.2)
  rw [hb]
  refine Ev.step (fun k=>rfl) ?_
  simp only [laws_FnSubUnify.j1]
  refine Ev.ifn (by simp) ?_
  by_cases h1:(subUnify s a b).2=1
  · obtain ⟨x,hx⟩:∃ x,subUnify s a b=(x,1):=⟨(subUnify s a b).1,by rw [← h1]⟩
    obtain ⟨q0,q1,q2,q3,q4⟩:=law_unify hx
    rw [hx]
    have sx:=smb_of q0
    have e1:=isubfull_ev x sx.wf a
    have e2:=isubfull_ev x sx.wf b
    have fl:=(subUnify_done hx).2.1.fits
    rw [q3] at e1
    rw [q4] at e2
    have e3:=isubok_ev x sx.wf
    rw [decide_eq_true q0] at e3
    refine Ev.ifp rfl (Ev.bind e1 (Ev.bind e2 (Ev.bind e3 (Ev.ifp rfl (Ev.ifp (show (x.length:Int)≥(s.length:Int) by omega) (Ev.ifp (by omega) (Ev.ifp (show (s.length:Int)≤(x.length:Int) by omega) ?_)))))))
    rw [Int.toNat_natCast,q2]
    exact Ev.bind (caBinds_same s sm) (Ev.ifp rfl (Ev.ifp rfl (Ev.ifp rfl (Ev.bind (caTerm_self (full x a) (by omega)) (Ev.step (fun k=>rfl) (Ev.now _))))))
  · refine Ev.ifn h1 ?_
    rcases subUnify_code s a b with e|⟨e,e2⟩
    · exact absurd e h1
    rw [e]
    refine Ev.ifp rfl ?_
    rcases e2 with e2|e2|e2
    · exact Ev.ifp e2 (Ev.step (fun k=>rfl) (Ev.now _))
    · refine Ev.ifn (by omega) ?_
      rw [e2];exact Ev.step (fun k=>rfl) (Ev.now _)
    · exact absurd ⟨h0,ha,hb⟩ (subUnify_wrong.1 e2)
end Go.Proofs.YtlaicnoikeieeaaDoor.Pu
