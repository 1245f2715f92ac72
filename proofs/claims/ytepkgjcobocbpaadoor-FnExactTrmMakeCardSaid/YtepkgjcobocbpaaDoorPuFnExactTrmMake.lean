/- TrmMake of the program and of the reference is the same, leaves its arguments alone, and its answer is new memory. -/
import Derived.Test.YtepkgjcobocbpaaDoorMMarkS
import Derived.Test.YtepkgjcobocbpaaDoorP7
namespace Go.Proofs.YtepkgjcobocbpaaDoor.Pu
open Go.RowKit Go.Proofs.YtepkgjcobocbpaaDoor.Cat Go.Proofs.YtepkgjcobocbpaaDoor.P Go.Proofs.YtepkgjcobocbpaaDoorW.PrintWords
set_option linter.unusedVariables false
set_option linter.unusedSimpArgs false
theorem FnExactTrmMake (n:ByteArray) (hn:n.size≤140737488351232) (s:List (List Cell)) (h:s.length≤maxLen∧∀ x ∈ s,x.length≤maxLen∧∀ c ∈ x,CellIn c.f0 c.f1 c.f2):∃ k,laws_FnExactTrmMake.f k n s=some true:=by
  refine Ev.rounds ?_
  unfold laws_FnExactTrmMake.f
  by_cases hs:(n.size:Int) > 1048576
  · exact Ev.ifp hs (Ev.now _)
  refine Ev.ifn hs ?_
  have hl0:s.length≤9223372036854775807:=by have:=h.1;unfold maxLen at this;exact this
  obtain ⟨q,hq,hq1,hsz⟩:=szSS_ev s 1048576 (by omega) (by omega) hl0 (fun x hx=>room_of (h.2 x hx))
  refine Ev.bind hq ?_
  by_cases hn:q<0
  · exact Ev.ifp hn (Ev.now _)
  refine Ev.ifn hn ?_
  have hz:=hsz (by omega)
  have hl:s.length≤1048576:=by omega
  have he:∀ b ∈ s,b.length≤1048576:=fun b hb=>by have:=cellsS_le hb;omega
  have hg:=makeOf_len n s
  refine Ev.bind (toSS_ev s hl he) (Ev.bind (smake_ev n s hl) (Ev.bind (imake_ev n s hl) (Ev.bind (eq_ev _ _ (by omega)) (Ev.bind (eqSS_ev s hl he) ?_))))
  refine Ev.bind (markSS_ev s 1 (by omega) (by omega) (by omega)) (Ev.bind (mark_ev _ 1 (by omega) (by omega)) (Ev.bind (held_ev 1 _ (by omega) (by omega)) ?_))
  refine Ev.ifp ⟨by simp,rfl,?_,rfl,?_⟩ (Ev.now _)
  · show (0:Int)≤1+_;omega
  · omega
end Go.Proofs.YtepkgjcobocbpaaDoor.Pu
