/- TrmSame of the program and of the reference is the same: whether two lists of places are one. -/
import Derived.Test.YtpgicghdpopeaaaMSame
import Derived.Test.YtpgicghdpopeaaaMInts
import Derived.Test.YtpgicghdpopeaaaP11
namespace Go.Proofs.Ytpgicghdpopeaaa.Pu
open Go.RowKit Go.Proofs.Ytpgicghdpopeaaa.Cat Go.Proofs.Ytpgicghdpopeaaa.P Go.Proofs.YtpgicghdpopeaaaW.PrintWords
theorem FnExactTrmSame (l : List Cell) (h : l.length ≤ maxLen ∧ ∀ x ∈ l, CellIn x.f0 x.f1 x.f2) (m : List Cell) (h' : m.length ≤ maxLen ∧ ∀ x ∈ m, CellIn x.f0 x.f1 x.f2) : ∃ k, laws_FnExactTrmSame.f k l m = some true := by
  refine Ev.rounds ?_
  obtain ⟨q, hq, hq1, hsz⟩ := sz_ev l 1048576 (by omega) (by omega) (room_of h)
  unfold laws_FnExactTrmSame.f
  refine Ev.bind hq ?_
  by_cases hn : q < 0
  · exact Ev.ifp hn (Ev.now _)
  refine Ev.ifn hn ?_
  have hl := (hsz (by omega)).1
  obtain ⟨p, hp, hp1, hsz'⟩ := sz_ev m q (by omega) (by omega) (room_of h')
  refine Ev.bind hp ?_
  by_cases hn' : p < 0
  · exact Ev.ifp hn' (Ev.now _)
  refine Ev.ifn hn' ?_
  have hm := (hsz' (by omega)).1
  have t1 := to_ev l (by omega)
  have t2 := to_ev m (by omega)
  refine Ev.bind t1 (Ev.bind t2 (Ev.bind (ssame_ev l m (by omega)) (Ev.bind t1 (Ev.bind t2 (Ev.bind (isame_ev l m (by omega)) (Ev.ifn (by simp) (Ev.bind t1 (Ev.bind (eq_ev _ _ (by omega)) (Ev.ifp (by simp) (Ev.bind t2 (Ev.bind (eq_ev _ _ (by omega)) (Ev.ifp (by simp) (Ev.now _)))))))))))))
end Go.Proofs.Ytpgicghdpopeaaa.Pu
