/- SubUnify of the program and of the reference is the same, leaves its arguments alone, and its answer is new memory. -/
import Derived.Test.YtlaicnoikeieeaaDoorMLeads
import Derived.Test.YtlaicnoikeieeaaDoorMSubOk
import Derived.Test.YtlaicnoikeieeaaDoorMMark
import Derived.Test.YtlaicnoikeieeaaDoorMBinds
import Derived.Test.YtlaicnoikeieeaaDoorMUniS
import Derived.Test.YtlaicnoikeieeaaDoorMMeetS
import Derived.Test.YtlaicnoikeieeaaDoorP17
namespace Go.Proofs.YtlaicnoikeieeaaDoor.Pu
open Go.RowKit Go.Proofs.YtlaicnoikeieeaaDoor.Cat Go.Proofs.YtlaicnoikeieeaaDoor.P Go.Proofs.YtlaicnoikeieeaaDoorW.PrintWords
set_option linter.unusedVariables false
set_option linter.unusedSimpArgs false
theorem roomB_of {s:List Bind} (h:s.length≤maxLen∧∀ x ∈ s,(Lit.int .i64 x.f0).wf=true∧(x.f1.length≤maxLen∧∀ c ∈ x.f1,CellIn c.f0 c.f1 c.f2)):RoomB s:=by
  refine ⟨by have:=h.1;unfold maxLen at this;exact this,fun b hb=>⟨(h.2 b hb).1,room_of (h.2 b hb).2⟩⟩
theorem cells_bound (m:Nat):∀ (s:List Bind),(∀ b ∈ s,b.f1.length≤m)→cellsB s≤m * s.length
  | [],_=>by simp [cellsB]
  | b :: r,h=>by
    have:=cells_bound m r (fun c hc=>h c (by simp [hc]))
    have:=h b (by simp)
    rw [cellsB_cons,List.length_cons,Nat.mul_succ]
    omega
theorem sub_small (s:List Bind) (a b:List Cell):(subUnify s a b).1.length≤100002∧∀ x ∈ (subUnify s a b).1,x.f1.length≤41:=by
  rcases subUnify_code s a b with e|⟨e,_⟩
  · have h:=smb_of (subUnify_done (show subUnify s a b=((subUnify s a b).1,1) by rw [← e])).2.1.oks
    exact ⟨h.len,h.each⟩
  · rw [e];exact ⟨by simp,by simp⟩
theorem FnExactSubUnify (s:List Bind) (h:s.length≤maxLen∧∀ x ∈ s,(Lit.int .i64 x.f0).wf=true∧(x.f1.length≤maxLen∧∀ c ∈ x.f1,CellIn c.f0 c.f1 c.f2)) (a:List Cell) (h':a.length≤maxLen∧∀ x ∈ a,CellIn x.f0 x.f1 x.f2) (b:List Cell) (h'':b.length≤maxLen∧∀ x ∈ b,CellIn x.f0 x.f1 x.f2):∃ k,laws_FnExactSubUnify.f k s a b=some true:=by
  refine Ev.rounds ?_
  have hr:=roomB_of h
  have hra:=room_of h'
  have hrb:=room_of h''
  obtain ⟨q,hq,hq1,hsz⟩:=szB_ev s 1048576 (by omega) (by omega) hr
  unfold laws_FnExactSubUnify.f
  refine Ev.bind hq ?_
  by_cases hn:q<0
  · exact Ev.ifp hn (Ev.now _)
  refine Ev.ifn hn ?_
  obtain ⟨q2,hq2,hq21,hsz2⟩:=sz_ev a q (by omega) hq1 hra
  refine Ev.bind hq2 ?_
  by_cases hn2:q2<0
  · exact Ev.ifp hn2 (Ev.now _)
  refine Ev.ifn hn2 ?_
  obtain ⟨q3,hq3,hq31,hsz3⟩:=sz_ev b q2 (by omega) (by omega) hrb
  refine Ev.bind hq3 ?_
  by_cases hn3:q3<0
  · exact Ev.ifp hn3 (Ev.now _)
  refine Ev.ifn hn3 ?_
  have hz:=hsz (by omega)
  have ha:=(hsz2 (by omega)).1
  have hb:=(hsz3 (by omega)).1
  have hl:s.length≤1048576:=by omega
  have he:∀ b ∈ s,b.f1.length≤1048576:=fun b hb=>by have:=cells_le hb;omega
  obtain ⟨s1,s2⟩:=sub_small s a b
  have s3:=cells_bound 41 _ s2
  have hg:∀ x ∈ (subUnify s a b).1,x.f1.length≤1048576:=fun x hx=>by have:=s2 x hx;omega
  refine Ev.bind (toB_ev s hl he) (Ev.bind (to_ev a (by omega)) (Ev.bind (to_ev b (by omega)) (Ev.bind (ssubunify_ev s ⟨hl,he⟩ a b) (Ev.bind (isubunify_ev s (fun b hb=>(hr.2 b hb).1) a b) (Ev.bind (eqB_ev _ _ (by omega) hg) (Ev.bind (eqB_ev s s hl he) (Ev.bind (eq_ev a a (by omega)) (Ev.bind (eq_ev b b (by omega)) ?_))))))))
  refine Ev.bind (markB_ev s 1 (by omega) (by omega)) (Ev.bind (mark_ev a _ (by show (0:Int)≤1+_+_;omega) (by show (1:Int)+_+_+_≤_;omega)) (Ev.bind (mark_ev b _ (by show (0:Int)≤1+_+_+_;omega) (by show (1:Int)+_+_+_+_≤_;omega)) (Ev.bind (markB_ev _ 1 (by omega) (by omega)) (Ev.bind (heldB_ev _ 1 (by omega) (by omega)) ?_))))
  refine Ev.ifp ⟨by simp,rfl,by simp,by simp,by simp,?_,rfl,?_⟩ (Ev.now _)
  · show (0:Int)≤1+_+_+_+_;omega
  · omega
end Go.Proofs.YtlaicnoikeieeaaDoor.Pu
