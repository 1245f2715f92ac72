/- SubFull of the program and of the reference is the same, leaves its arguments alone, and its answer is new memory. -/
import Derived.Test.YtlaicnoikeieeaaDoorMLeads
import Derived.Test.YtlaicnoikeieeaaDoorMSubOk
import Derived.Test.YtlaicnoikeieeaaDoorMMark
import Derived.Test.YtlaicnoikeieeaaDoorMFullS
import Derived.Test.YtlaicnoikeieeaaDoorP13
namespace Go.Proofs.YtlaicnoikeieeaaDoor.Pu
open Go.RowKit Go.Proofs.YtlaicnoikeieeaaDoor.Cat Go.Proofs.YtlaicnoikeieeaaDoor.P Go.Proofs.YtlaicnoikeieeaaDoorW.PrintWords
set_option linter.unusedVariables false
set_option linter.unusedSimpArgs false
theorem roomB_of {s:List Bind} (h:s.length≤maxLen∧∀ x ∈ s,(Lit.int .i64 x.f0).wf=true∧(x.f1.length≤maxLen∧∀ c ∈ x.f1,CellIn c.f0 c.f1 c.f2)):RoomB s:=by
  refine ⟨by have:=h.1;unfold maxLen at this;exact this,fun b hb=>⟨(h.2 b hb).1,room_of (h.2 b hb).2⟩⟩
theorem FnExactSubFull (s:List Bind) (h:s.length≤maxLen∧∀ x ∈ s,(Lit.int .i64 x.f0).wf=true∧(x.f1.length≤maxLen∧∀ c ∈ x.f1,CellIn c.f0 c.f1 c.f2)) (a:List Cell) (h':a.length≤maxLen∧∀ x ∈ a,CellIn x.f0 x.f1 x.f2):∃ k,laws_FnExactSubFull.f k s a=some true:=by
  refine Ev.rounds ?_
  have hr:=roomB_of h
  have hra:=room_of h'
  obtain ⟨q,hq,hq1,hsz⟩:=szB_ev s 1048576 (by omega) (by omega) hr
  unfold laws_FnExactSubFull.f
  refine Ev.bind hq ?_
  by_cases hn:q<0
  · exact Ev.ifp hn (Ev.now _)
  refine Ev.ifn hn ?_
  obtain ⟨q2,hq2,hq21,hsz2⟩:=sz_ev a q (by omega) hq1 hra
  refine Ev.bind hq2 ?_
  by_cases hn2:q2<0
  · exact Ev.ifp hn2 (Ev.now _)
  refine Ev.ifn hn2 ?_
  have hz:=hsz (by omega)
  have ha:=(hsz2 (by omega)).1
  have hl:s.length≤1048576:=by omega
  have he:∀ b ∈ s,b.f1.length≤1048576:=fun b hb=>by have:=cells_le hb;omega
  have hg:=subFull_len s a
  refine Ev.bind (toB_ev s hl he) (Ev.bind (to_ev a (by omega)) (Ev.bind (ssubfull_ev s ⟨hl,he⟩ a) (Ev.bind (isubfull_ev s (fun b hb=>(hr.2 b hb).1) a) (Ev.bind (eq_ev _ _ (by omega)) (Ev.bind (eqB_ev s s hl he) (Ev.bind (eq_ev a a (by omega)) ?_))))))
  refine Ev.bind (markB_ev s 1 (by omega) (by omega)) (Ev.bind (mark_ev a _ (by show (0:Int)≤1+_+_;omega) (by show (1:Int)+_+_+_≤_;omega)) (Ev.bind (mark_ev _ 1 (by omega) (by omega)) (Ev.bind (held_ev 1 _ (by omega) (by omega)) ?_)))
  refine Ev.ifp ⟨by simp,rfl,by simp,by simp,?_,rfl,?_⟩ (Ev.now _)
  · show (0:Int)≤1+_+_+_;omega
  · omega
end Go.Proofs.YtlaicnoikeieeaaDoor.Pu
