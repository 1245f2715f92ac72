/- SubUnify once more, the other way round, binds nothing more. -/
import Derived.Test.YtlaicnoikeieeaaDoorMNear
import Derived.Test.YtlaicnoikeieeaaDoorMCa
import Derived.Test.YtlaicnoikeieeaaDoorMUniS
import Derived.Test.YtlaicnoikeieeaaDoorP14
import Derived.Test.YtlaicnoikeieeaaDoorP19
namespace Go.Proofs.YtlaicnoikeieeaaDoor.Pu
open Go.RowKit Go.Proofs.YtlaicnoikeieeaaDoor.Cat Go.Proofs.YtlaicnoikeieeaaDoor.P Go.Proofs.YtlaicnoikeieeaaDoorW.PrintWords
set_option linter.unusedVariables false
set_option linter.unusedSimpArgs false
theorem caBinds_loop : ∀ (r a : List Bind), (a ++ r).length ≤ 1048576 → (∀ b ∈ r, b.f1.length ≤ 1048576) → Ev (fun k => laws_caBinds.l0 k (a ++ r) (a ++ r) ((a.length : Nat) : Int)) true
  | [], a, h, he => by
    refine Ev.step (fun k => rfl) ?_
    simp only [laws_caBinds.l0]
    exact Ev.ifn (not_lt_app a) (Ev.now _)
  | b :: r, a, h, he => by
    have ih := caBinds_loop r (a ++ [b]) (by simpa using h) (fun c hc => he c (by simp [hc]))
    rw [snoc_len, List.append_assoc, List.singleton_append] at ih
    have hb := he b (by simp)
    have hal : a.length < (a ++ b :: r).length := by simp
    have hc := caTerm_ev b.f1 b.f1 (by omega)
    rw [show decide (b.f1 = b.f1) = true by simp] at hc
    refine Ev.step (fun k => rfl) ?_
    simp only [laws_caBinds.l0]
    rw [rdBb]
    refine Ev.ifp (lt_app a r b) (Ev.ifp (by omega) (Ev.ifp (lt_app a r b) (Ev.ifp (by first | trivial | rfl) (Ev.bind hc (Ev.ifp rfl ?_)))))
    rw [wnext (by omega)]
    exact ih
theorem caBinds_same (s : List Bind) (h : Oks s) : Ev (fun k => laws_caBinds.f k s s) true := by
  have hl := good_len h.good
  unfold laws_caBinds.f
  exact Ev.ifp rfl (caBinds_loop s [] (by simp; omega) (fun b hb => by have := h.small b hb; omega))
theorem FnSubAgain (l : List Int) (h : IsCode l) : ∃ k, laws_FnSubAgain.f k l = some true := by
  refine Ev.rounds ?_
  unfold laws_FnSubAgain.f
  by_cases hl : (l.length : Int) > 1048576
  · exact Ev.ifp hl (Ev.now _)
  refine Ev.ifn hl ?_
  obtain ⟨s, a, b, hd, sm, _⟩ := drawSubUnify_ev h
  refine Ev.bind hd (Ev.bind (isubunify_ev s sm.wf a b) ?_)
  rcases subUnify_code s a b with e | ⟨e, e2⟩
  · obtain ⟨x, hx⟩ : ∃ x, subUnify s a b = (x, 1) := ⟨(subUnify s a b).1, by rw [← e]⟩
    have m := (subUnify_done hx).2.1
    rw [hx]
    have h2 := isubunify_ev x (smb_of m.oks).wf b a
    rw [law_again hx] at h2
    exact Ev.ifp rfl (Ev.bind h2 (Ev.ifp rfl (Ev.bind (caBinds_same x m.oks) (Ev.now _))))
  · refine Ev.ifn (by omega) ?_
    rw [e]
    exact Ev.ifp rfl (Ev.bindv caOk_ok (Ev.now _))
end Go.Proofs.YtlaicnoikeieeaaDoor.Pu
