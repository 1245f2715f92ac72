/- TrmRead of the program and of the reference is the same, and is new memory. -/
import Derived.Test.YtibencknfheplaaDoorMRdS
import Derived.Test.YtibencknfheplaaDoorMLaw
import Derived.Test.YtibencknfheplaaDoorP12
namespace Go.Proofs.YtibencknfheplaaDoor.Pu
open Go.RowKit Go.Proofs.YtibencknfheplaaDoor.Cat Go.Proofs.YtibencknfheplaaDoor.P Go.Proofs.YtibencknfheplaaDoorW.PrintWords
set_option linter.unusedVariables false
set_option linter.unusedSimpArgs false
theorem FnExactTrmRead (s:ByteArray) (h:s.size≤140737488351232):∃ k,laws_FnExactTrmRead.f k s=some true:=by
  refine Ev.rounds ?_
  unfold laws_FnExactTrmRead.f
  by_cases hn:(s.size:Int) > 1048576
  · exact Ev.ifp hn (Ev.now _)
  refine Ev.ifn hn ?_
  have hf:=readP_len s
  have hr:=iread_ev s (by omega)
  refine Ev.bind (sread_ev s (by omega)) (Ev.bind hr (Ev.bind (eq_ev _ _ (by omega)) (Ev.ifp (by simp) ?_)))
  have hd:((readP s).2 != (readP s).2)=false:=by simp
  rw [hd]
  refine Ev.step (fun k=>rfl) ?_
  simp only [laws_FnExactTrmRead.j0]
  refine Ev.ifn (by simp) (Ev.bind (mark_ev _ 1 (by omega) (by omega)) (Ev.bind (held_ev 1 _ (by omega) (by omega)) (Ev.ifn (by simp;omega) (Ev.ifp rfl (Ev.bind hr (Ev.bind (eq_ev _ _ (by omega)) (Ev.ifp (by simp) ?_)))))))
  rw [hd]
  refine Ev.step (fun k=>rfl) ?_
  simp only [laws_FnExactTrmRead.j1]
  exact Ev.ifn (by simp) (Ev.bind (held_ev 1 _ (by omega) (by omega)) (Ev.ifn (by simp;omega) (Ev.ifp rfl (Ev.now _))))
end Go.Proofs.YtibencknfheplaaDoor.Pu
