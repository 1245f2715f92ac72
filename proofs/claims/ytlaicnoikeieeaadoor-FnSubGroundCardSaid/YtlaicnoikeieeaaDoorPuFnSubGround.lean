/- With a term without variables, SubUnify finds what makes the other one that term. -/
import Derived.Test.YtlaicnoikeieeaaDoorMCaB
import Derived.Test.YtlaicnoikeieeaaDoorMCa
import Derived.Test.YtlaicnoikeieeaaDoorMUniS
import Derived.Test.YtlaicnoikeieeaaDoorMMeetS
import Derived.Test.YtlaicnoikeieeaaDoorP19
namespace Go.Proofs.YtlaicnoikeieeaaDoor.Pu
open Go.RowKit Go.Proofs.YtlaicnoikeieeaaDoor.Cat Go.Proofs.YtlaicnoikeieeaaDoor.P Go.Proofs.YtlaicnoikeieeaaDoorW.PrintWords
set_option linter.unusedVariables false
set_option linter.unusedSimpArgs false
theorem FnSubGround (l:List Int) (h:IsCode l):∃ k,laws_FnSubGround.f k l=some true:=by
  refine Ev.rounds ?_
  unfold laws_FnSubGround.f
  by_cases hl:(l.length:Int) > 1048576
  · exact Ev.ifp hl (Ev.now _)
  refine Ev.ifn hl ?_
  obtain ⟨s,a,b,hd,sm,_⟩:=drawSubUnify_ev h
  refine Ev.bind hd (Ev.bind (isubunify_ev [] (by simp) a b) (Ev.bind (ssubunify_ev [] ⟨by simp,by simp⟩ a b) (Ev.bind (caBinds_sub [] a b) (Ev.ifp rfl ?_))))
  refine Ev.step (fun k=>rfl) ?_
  simp only [laws_FnSubGround.j0]
  refine Ev.ifn (by simp) (Ev.bind (sok_ev a) ?_)
  have J:∀ x,Ev (fun k=>laws_FnSubGround.j1 k a b x (subUnify [] a b).2 true) true:=fun x=>by
    refine Ev.step (fun k=>rfl) ?_
    simp only [laws_FnSubGround.j1]
    exact Ev.ifp (by trivial) (Ev.bindv caOk_ok (Ev.now _))
  by_cases ha:isTerm a=true
  case neg=>exact Ev.ifn ha (J _)
  refine Ev.ifp ha (Ev.bind (sok_ev b) ?_)
  by_cases hb:isTerm b=true
  case neg=>exact Ev.ifn hb (J _)
  have la:=(isTerm_iff'.1 ha).2.1
  have lb:=(isTerm_iff'.1 hb).2.1
  refine Ev.ifp hb (Ev.bind (sfree_ev b (by omega)) ?_)
  by_cases hf:frees b=[]
  case neg=>
    have:=List.length_pos_iff.2 hf
    rw [show decide ((((frees b).length:Nat):Int) > 0)=true by simp;omega]
    exact J _
  obtain ⟨g1,g2,g3⟩:=law_ground ha hb hf
  rw [hf]
  refine Ev.step (fun k=>rfl) ?_
  simp only [laws_FnSubGround.j1]
  refine Ev.ifn (by simp) (Ev.bind (sfree_ev a (by omega)) ?_)
  by_cases hfa:frees a=[]
  · obtain ⟨k1,k2⟩:=g1 hfa
    rw [hfa]
    refine Ev.ifp (by simp) (Ev.bind (caTerm_ev a b (by omega)) (Ev.ifp ?_ ?_))
    · by_cases e:a=b
      · rw [k1.2 e];simp [e]
      · have:(subUnify [] a b).2≠1:=fun q=>e (k1.1 q)
        simp [e,this]
    · rw [k2];exact Ev.now _
  · have:=List.length_pos_iff.2 hfa
    refine Ev.ifn (by omega) ?_
    by_cases h1:(subUnify [] a b).2=1
    · have hx:subUnify [] a b=((subUnify [] a b).1,1):=by rw [← h1]
      have m:=(subUnify_done hx).2.1
      have e1:=isubfull_ev (subUnify [] a b).1 (smb_of m.oks).wf a
      rw [g3 _ hx] at e1
      have hc:=caTerm_ev b b (by omega)
      rw [show decide (b=b)=true by simp] at hc
      exact Ev.ifp h1 (Ev.bind e1 (Ev.ifp rfl (Ev.bind hc (Ev.now _))))
    · refine Ev.ifn h1 ?_
      rcases g2 h1 with e|e
      · exact Ev.ifp e (Ev.now _)
      · refine Ev.ifn (by omega) ?_
        rw [e];exact Ev.now _
end Go.Proofs.YtlaicnoikeieeaaDoor.Pu
