/- PrgNode of the program and of the reference is the same, and leaves its arguments alone. -/
import Derived.Test.YtepkgjcobocbpaaDoorMPrg
import Derived.Test.YtepkgjcobocbpaaDoorP18
namespace Go.Proofs.YtepkgjcobocbpaaDoor.Pu
open Go.RowKit Go.Proofs.YtepkgjcobocbpaaDoor.Cat Go.Proofs.YtepkgjcobocbpaaDoor.P Go.Proofs.YtepkgjcobocbpaaDoorW.PrintWords
set_option linter.unusedVariables false
set_option linter.unusedSimpArgs false
theorem FnExactPrgNode (p:Prog) (h:ProgIn p) (t:List Cell) (ht:t.length≤maxLen∧∀ c ∈ t,CellIn c.f0 c.f1 c.f2):∃ k,laws_FnExactPrgNode.f k p.f0 p.f1 t=some true:=by
  refine Ev.rounds ?_
  obtain ⟨q,hq,hq1,hsz⟩:=szP_ev p 1048576 (by omega) (by omega) h
  unfold laws_FnExactPrgNode.f
  refine Ev.bind hq ?_
  by_cases hn:q<0
  · exact Ev.ifp hn (Ev.now _)
  refine Ev.ifn hn ?_
  obtain ⟨q2,hq2,hq3,hsz2⟩:=sz_sum t q (by omega) (by omega) (room_of ht)
  refine Ev.bind hq2 ?_
  by_cases hn2:q2<0
  · exact Ev.ifp hn2 (Ev.now _)
  refine Ev.ifn hn2 ?_
  have hz:=hsz (by omega)
  have hz2:=hsz2 (by omega)
  have hs:SmP p:=smP_of (by omega)
  have hl:t.length≤1048576:=by omega
  have hto:=toP_ev p hs
  have htt:=to_ev t hl
  refine Ev.bind hto (Ev.bind htt (Ev.bind (snode_ev p hs t) (Ev.bind hto (Ev.bind htt (Ev.bind (inode_ev p hs t) (Ev.ifp rfl (Ev.bind hto (Ev.bind (eqP_same p hs) (Ev.ifp rfl (Ev.bind htt (Ev.bind (eq_ev t t hl) (Ev.ifp (by simp) (Ev.now _)))))))))))))
end Go.Proofs.YtepkgjcobocbpaaDoor.Pu
