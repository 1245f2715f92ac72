/- Which of two terms comes first makes no difference, but for names of variables. -/
import Derived.Test.YtlaicnoikeieeaaDoorMNear
import Derived.Test.YtlaicnoikeieeaaDoorMCa
import Derived.Test.YtlaicnoikeieeaaDoorMUniS
import Derived.Test.YtlaicnoikeieeaaDoorMFullS
import Derived.Test.YtlaicnoikeieeaaDoorMCanonF
import Derived.Test.YtlaicnoikeieeaaDoorP14
import Derived.Test.YtlaicnoikeieeaaDoorP19
namespace Go.Proofs.YtlaicnoikeieeaaDoor.Pu
open Go.RowKit Go.Proofs.YtlaicnoikeieeaaDoor.Cat Go.Proofs.YtlaicnoikeieeaaDoor.P Go.Proofs.YtlaicnoikeieeaaDoorW.PrintWords
set_option linter.unusedVariables false
set_option linter.unusedSimpArgs false
theorem caBinds_loop:∀ (r a:List Bind),(a++r).length≤1048576→(∀ b ∈ r,b.f1.length≤1048576)→Ev (fun k=>laws_caBinds.l0 k (a++r) (a++r) ((a.length:Nat):Int)) true
  | [],a,h,he=>by
    refine Ev.step (fun k=>rfl) ?_
    simp only [laws_caBinds.l0]
    exact Ev.ifn (not_lt_app a) (Ev.now _)
  | b :: r,a,h,he=>by
    have ih:=caBinds_loop r (a++[b]) (by simpa using h) (fun c hc=>he c (by simp [hc]))
    rw [snoc_len,List.append_assoc,List.singleton_append] at ih
    have hb:=he b (by simp)
    have hal:a.length<(a++b :: r).length:=by simp
    have hc:=caTerm_ev b.f1 b.f1 (by omega)
    rw [show decide (b.f1=b.f1)=true by simp] at hc
    refine Ev.step (fun k=>rfl) ?_
    simp only [laws_caBinds.l0]
    rw [rdBb]
    refine Ev.ifp (lt_app a r b) (Ev.ifp (by omega) (Ev.ifp (lt_app a r b) (Ev.ifp (by first|trivial|rfl) (Ev.bind hc (Ev.ifp rfl ?_)))))
    rw [wnext (by omega)]
    exact ih
theorem caBinds_same (s:List Bind) (h:Smb s):Ev (fun k=>laws_caBinds.f k s s) true:=by
  have hl:=h.len
  unfold laws_caBinds.f
  exact Ev.ifp rfl (caBinds_loop s [] (by simp;omega) (fun b hb=>by have:=h.each b hb;omega))
theorem FnSubSwap (l:List Int) (h:IsCode l):∃ k,laws_FnSubSwap.f k l=some true:=by
  refine Ev.rounds ?_
  unfold laws_FnSubSwap.f
  by_cases hl:(l.length:Int) > 1048576
  · exact Ev.ifp hl (Ev.now _)
  refine Ev.ifn hl ?_
  obtain ⟨s,a,b,hd,sm,_⟩:=drawSubUnify_ev h
  obtain ⟨w1,w2⟩:=law_swap s a b
  refine Ev.bind hd (Ev.bind (isubunify_ev s sm.wf a b) (Ev.bind (isubunify_ev s sm.wf b a) (Ev.ifp w1 ?_)))
  by_cases h4:(subUnify s a b).2=4
  · exact Ev.ifp h4 (Ev.bindv caOk_ok (Ev.now _))
  obtain ⟨ho,ha,hb⟩:Oks s∧isTerm a=true∧isTerm b=true:=Classical.byContradiction (fun q=>h4 (subUnify_wrong.2 q))
  refine Ev.ifn h4 (Ev.bind (isubunify_ev s sm.wf a a) ?_)
  -- what follows
  have J:((subUnify s a b).2=1→(subUnify s a a).2=1)→Ev (fun k=>laws_FnSubSwap.j0 k a (subUnify s a b).1 (subUnify s a b).2 (subUnify s b a).1 (subUnify s a a).2 false) true:=fun hs=>by
    refine Ev.step (fun k=>rfl) ?_
    simp only [laws_FnSubSwap.j0]
    refine Ev.ifn (by simp) ?_
    by_cases h1:(subUnify s a b).2=1
    · have hx:subUnify s a b=((subUnify s a b).1,1):=by rw [← h1]
      have hy:subUnify s b a=((subUnify s b a).1,1):=by rw [← h1,w1]
      have mx:=(subUnify_done hx).2.1
      have my:=(subUnify_done hy).2.1
      obtain ⟨q1,q2,q3⟩:=w2 _ _ hx hy
      have e1:=isubfull_ev (subUnify s a b).1 (smb_of mx.oks).wf a
      have e2:=isubfull_ev (subUnify s b a).1 (smb_of my.oks).wf a
      have l1:=subFull_len (subUnify s a b).1 a
      have l2:=subFull_len (subUnify s b a).1 a
      rw [q2] at e1 l1
      rw [q3] at e2 l2
      replace l1:(full (subUnify s a b).1 a).length≤40:=l1
      replace l2:(full (subUnify s b a).1 a).length≤40:=l2
      have c1:=icanon_ev (full (subUnify s a b).1 a) (by omega)
      have c2:=icanon_ev (full (subUnify s b a).1 a) (by omega)
      rw [q1] at c1
      have hc:=caTerm_ev (canon (full (subUnify s b a).1 a)) (canon (full (subUnify s b a).1 a)) (by rw [show (canon (full (subUnify s b a).1 a)).length=(full (subUnify s b a).1 a).length by simp [canon,canonBy]];omega)
      rw [show decide (canon (full (subUnify s b a).1 a)=canon (full (subUnify s b a).1 a))=true by simp] at hc
      refine Ev.ifp h1 (Ev.bind e1 (Ev.bind e2 (Ev.bind c1 (Ev.bind c2 (Ev.bind hc (Ev.ifp rfl ?_))))))
      rw [hs h1];exact Ev.now _
    · refine Ev.ifn h1 ?_
      rcases subUnify_code s a b with e|⟨e,e2⟩
      · exact absurd e h1
      rcases subUnify_code s b a with f|⟨f,f2⟩
      · exact absurd (w1.trans f) h1
      rw [e,f]
      refine Ev.ifp rfl (Ev.ifp rfl ?_)
      rcases e2 with e2|e2|e2
      · exact Ev.ifp e2 (Ev.step (fun k=>rfl) (Ev.now _))
      · refine Ev.ifn (by omega) ?_
        rw [e2];exact Ev.step (fun k=>rfl) (Ev.now _)
      · exact absurd e2 h4
  have self:(full s a).length≤40→subUnify s a a=(s,1):=fun hf=>law_self ho ha hf
  by_cases hf:(full s a).length≤40
  · have e:=self hf
    have J:=J (fun _=>by rw [e])
    rw [e] at J ⊢
    exact Ev.ifp rfl (Ev.bind (caBinds_same s sm) J)
  · have n1:(subUnify s a a).2≠1:=fun q=>hf (subUnify_done (show subUnify s a a=((subUnify s a a).1,1) by rw [← q])).2.2.1
    refine Ev.ifn n1 (J (fun q=>?_))
    exact absurd (subUnify_done (show subUnify s a b=((subUnify s a b).1,1) by rw [← q])).2.2.1 hf
end Go.Proofs.YtlaicnoikeieeaaDoor.Pu
