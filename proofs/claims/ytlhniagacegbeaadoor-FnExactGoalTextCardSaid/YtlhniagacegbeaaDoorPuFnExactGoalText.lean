/- GoalText of the program and of the reference is the same, and leaves its argument alone. -/
import Derived.Test.YtlhniagacegbeaaDoorMGTx
import Derived.Test.YtlhniagacegbeaaDoorP12
namespace Go.Proofs.YtlhniagacegbeaaDoor.Pu
open Go.RowKit Go.Proofs.YtlhniagacegbeaaDoor.Cat Go.Proofs.YtlhniagacegbeaaDoor.P Go.Proofs.YtlhniagacegbeaaDoorW.PrintWords
set_option linter.unusedVariables false
set_option linter.unusedSimpArgs false
theorem FnExactGoalText (g:Goal) (h:(Lit.int .i64 g.f0).wf=true∧(g.f1.length≤maxLen∧∀ c ∈ g.f1,CellIn c.f0 c.f1 c.f2)∧(g.f2.length≤maxLen∧∀ c ∈ g.f2,CellIn c.f0 c.f1 c.f2)∧(g.f3.length≤maxLen∧∀ c ∈ g.f3,CellIn c.f0 c.f1 c.f2)) :
    ∃ k,laws_FnExactGoalText.f k g.f0 g.f1 g.f2 g.f3=some true:=by
  refine Ev.rounds ?_
  obtain ⟨q,hq,hq1,hsz⟩:=szG_ev g.f0 g.f1 g.f2 g.f3 1048576 (by omega) (by omega) (room_of h.2.1) (room_of h.2.2.1) (room_of h.2.2.2)
  unfold laws_FnExactGoalText.f
  refine Ev.bind hq ?_
  by_cases hn:q<0
  · exact Ev.ifp hn (Ev.now _)
  refine Ev.ifn hn ?_
  have hz:=hsz (by omega)
  have h1:g.f1.length≤1048576:=by omega
  have h2:g.f2.length≤1048576:=by omega
  have h3:g.f3.length≤1048576:=by omega
  have hto:=toG_ev g.f0 g.f1 g.f2 g.f3 h1 h2 h3
  refine Ev.bind hto (Ev.bind (sgtext_ev g.f0 g.f1 g.f2 g.f3 h1 h2 h3) (Ev.bind hto (Ev.bind (igtext_ev _ _ _ _) (Ev.ifp rfl (Ev.bind hto (Ev.bind (eqG_ev _ _ _ _ _ _ _ _ h1 h2 h3) ?_))))))
  exact Ev.ifp (by simp) (Ev.now _)
end Go.Proofs.YtlhniagacegbeaaDoor.Pu
