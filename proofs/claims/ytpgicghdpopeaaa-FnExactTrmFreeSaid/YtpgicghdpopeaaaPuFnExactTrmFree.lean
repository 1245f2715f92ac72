/- TrmFree of the program and of the reference is the same list: the variables, each once, as they come first; and it is new memory. -/
import Derived.Test.YtpgicghdpopeaaaMFree
import Derived.Test.YtpgicghdpopeaaaMInts
import Derived.Test.YtpgicghdpopeaaaP12
namespace Go.Proofs.Ytpgicghdpopeaaa.Pu
open Go.RowKit Go.Proofs.Ytpgicghdpopeaaa.Cat Go.Proofs.Ytpgicghdpopeaaa.P Go.Proofs.YtpgicghdpopeaaaW.PrintWords
theorem FnExactTrmFree (l : List Cell) (h : l.length ≤ maxLen ∧ ∀ x ∈ l, CellIn x.f0 x.f1 x.f2) : ∃ k, laws_FnExactTrmFree.f k l = some true := by
  refine Ev.rounds ?_
  have hr := room_of h
  obtain ⟨q, hq, hq1, hsz⟩ := sz_ev l 1048576 (by omega) (by omega) hr
  unfold laws_FnExactTrmFree.f
  refine Ev.bind hq ?_
  by_cases hn : q < 0
  · exact Ev.ifp hn (Ev.now _)
  refine Ev.ifn hn ?_
  have hl := (hsz (by omega)).1
  have hf : (frees l).length ≤ l.length := by have := freesOn_len l []; simpa [frees] using this
  have hto := to_ev l (by omega)
  refine Ev.bind hto (Ev.bind (sfree_ev l (by omega)) (Ev.bind hto (Ev.bind (ifree_ev l (by omega)) (Ev.bind (eqi_ev _ _ (by omega)) ?_))))
  refine Ev.ifp (by simp) (Ev.bind hto (Ev.bind (eq_ev _ _ (by omega)) (Ev.ifp (by simp) (Ev.bind (mark_ev l 1 (by omega) (by omega)) (Ev.ifn (by simp; omega) (Ev.bind (eqi_ev _ _ (by omega)) ?_))))))
  have hd : (!decide (frees l = frees l)) = false := by simp
  rw [hd]
  refine Ev.step (fun k => rfl) ?_
  simp only [laws_FnExactTrmFree.j0]
  refine Ev.ifn (by simp) (Ev.bind (marki_ev _ 1 (by omega) (by omega)) (Ev.bind (heldi_ev 1 _ (by omega) (by omega)) (Ev.ifn (by simp; omega) (Ev.ifp rfl (Ev.bind hto (Ev.bind (ifree_ev l (by omega)) (Ev.bind (eqi_ev _ _ (by omega)) (Ev.ifp (by simp) (Ev.bind (heldi_ev 1 _ (by omega) (by omega)) (Ev.ifn (by simp; omega) (Ev.ifp rfl (Ev.now _))))))))))))
end Go.Proofs.Ytpgicghdpopeaaa.Pu
