/- TrmText of the program and of the reference is the same, and leaves its argument alone. -/
import Derived.Test.YtibencknfheplaaDoorMTxtI
import Derived.Test.YtibencknfheplaaDoorMLaw
import Derived.Test.YtibencknfheplaaDoorMInts0
import Derived.Test.YtibencknfheplaaDoorP12
namespace Go.Proofs.YtibencknfheplaaDoor.Pu
open Go.RowKit Go.Proofs.YtibencknfheplaaDoor.Cat Go.Proofs.YtibencknfheplaaDoor.P Go.Proofs.YtibencknfheplaaDoorW.PrintWords
set_option linter.unusedVariables false
set_option linter.unusedSimpArgs false
theorem FnExactTrmText (l : List Cell) (h : l.length ≤ maxLen ∧ ∀ x ∈ l, CellIn x.f0 x.f1 x.f2) : ∃ k, laws_FnExactTrmText.f k l = some true := by
  refine Ev.rounds ?_
  obtain ⟨q, hq, hq1, hsz⟩ := sz_ev l 1048576 (by omega) (by omega) (room_of h)
  unfold laws_FnExactTrmText.f
  refine Ev.bind hq ?_
  by_cases hn : q < 0
  · exact Ev.ifp hn (Ev.now _)
  refine Ev.ifn hn ?_
  have hl := (hsz (by omega)).1
  have hto := to_ev l (by omega)
  refine Ev.bind hto (Ev.bind (stext_ev l) (Ev.bind hto (Ev.bind (itext_ev l) (Ev.ifp rfl (Ev.bind hto (Ev.bind (eq_ev _ _ (by omega)) (Ev.ifp (by simp) (Ev.now _))))))))
end Go.Proofs.YtibencknfheplaaDoor.Pu
