/- TrmArg of the program and of the reference is the same, leaves its argument alone, and is new memory. -/
import Derived.Test.YtlmeookaanjdiaaDoorMArg
import Derived.Test.YtlmeookaanjdiaaDoorMInts0
import Derived.Test.YtlmeookaanjdiaaDoorP27
namespace Go.Proofs.YtlmeookaanjdiaaDoor.Pu
open Go.RowKit Go.Proofs.YtlmeookaanjdiaaDoor.Cat Go.Proofs.YtlmeookaanjdiaaDoor.P Go.Proofs.YtlmeookaanjdiaaDoorW.PrintWords
set_option linter.unusedVariables false
set_option linter.unusedSimpArgs false
theorem FnExactTrmArg (l : List Cell) (h : l.length ≤ maxLen ∧ ∀ x ∈ l, CellIn x.f0 x.f1 x.f2) (a : Int) (ha : (Lit.int .i64 a).wf = true) : ∃ k, laws_FnExactTrmArg.f k l a = some true := by
  refine Ev.rounds ?_
  obtain ⟨q, hq, hq1, hsz⟩ := sz_ev l 1048576 (by omega) (by omega) (room_of h)
  unfold laws_FnExactTrmArg.f
  refine Ev.bind hq ?_
  by_cases hn : q < 0
  · exact Ev.ifp hn (Ev.now _)
  refine Ev.ifn hn ?_
  have hl := (hsz (by omega)).1
  have hf : (argOf l a).length ≤ 40 := by have := argOf_len l a; omega
  have hto := to_ev l (by omega)
  refine Ev.bind hto (Ev.bind (sarg_ev l a) (Ev.bind hto (Ev.bind (iarg_ev l a) (Ev.bind (eq_ev _ _ (by omega)) ?_))))
  refine Ev.ifp (by simp) (Ev.bind hto (Ev.bind (eq_ev _ _ (by omega)) (Ev.ifp (by simp) (Ev.bind (mark_ev l 1 (by omega) (by omega)) (Ev.ifn (by simp; omega) (Ev.bind (eq_ev _ _ (by omega)) ?_))))))
  have hd : (!decide (argOf l a = argOf l a)) = false := by simp
  rw [hd]
  refine Ev.step (fun k => rfl) ?_
  simp only [laws_FnExactTrmArg.j0]
  refine Ev.ifn (by simp) (Ev.bind (mark_ev _ 1 (by omega) (by omega)) (Ev.bind (held_ev 1 _ (by omega) (by omega)) (Ev.ifn (by simp; omega) (Ev.ifp rfl (Ev.bind hto (Ev.bind (iarg_ev l a) (Ev.bind (eq_ev _ _ (by omega)) (Ev.ifp (by simp) (Ev.bind (held_ev 1 _ (by omega) (by omega)) (Ev.ifn (by simp; omega) (Ev.ifp rfl (Ev.now _))))))))))))
end Go.Proofs.YtlmeookaanjdiaaDoor.Pu
