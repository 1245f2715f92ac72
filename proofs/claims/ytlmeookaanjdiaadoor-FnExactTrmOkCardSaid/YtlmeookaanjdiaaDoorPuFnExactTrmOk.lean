/- TrmOk of the program and of the reference is the same, and leaves its argument alone. -/
import Derived.Test.YtlmeookaanjdiaaDoorMTrm
import Derived.Test.YtlmeookaanjdiaaDoorMInts0
import Derived.Test.YtlmeookaanjdiaaDoorP24
namespace Go.Proofs.YtlmeookaanjdiaaDoor.Pu
open Go.RowKit Go.Proofs.YtlmeookaanjdiaaDoor.Cat Go.Proofs.YtlmeookaanjdiaaDoor.P Go.Proofs.YtlmeookaanjdiaaDoorW.PrintWords
set_option linter.unusedVariables false
set_option linter.unusedSimpArgs false
theorem FnExactTrmOk (l : List Cell) (h : l.length ≤ maxLen ∧ ∀ x ∈ l, CellIn x.f0 x.f1 x.f2) : ∃ k, laws_FnExactTrmOk.f k l = some true := by
  refine Ev.rounds ?_
  obtain ⟨q, hq, hq1, hsz⟩ := sz_ev l 1048576 (by omega) (by omega) (room_of h)
  unfold laws_FnExactTrmOk.f
  refine Ev.bind hq ?_
  by_cases hn : q < 0
  · exact Ev.ifp hn (Ev.now _)
  refine Ev.ifn hn ?_
  have hl := (hsz (by omega)).1
  have hto := to_ev l (by omega)
  refine Ev.bind hto (Ev.bind (sok_ev l) (Ev.bind hto (Ev.bindv (iok l) (Ev.ifn (by simp) (Ev.bind hto (Ev.bind (eq_ev _ _ (by omega)) ?_))))))
  exact Ev.ifp (by simp) (Ev.now _)
end Go.Proofs.YtlmeookaanjdiaaDoor.Pu
