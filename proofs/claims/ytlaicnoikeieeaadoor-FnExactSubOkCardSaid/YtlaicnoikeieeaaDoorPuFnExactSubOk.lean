/- SubOk of the program and of the reference is the same, and leaves its argument alone. -/
import Derived.Test.YtlaicnoikeieeaaDoorMLeads
import Derived.Test.YtlaicnoikeieeaaDoorMSubOk
import Derived.Test.YtlaicnoikeieeaaDoorMBnd
import Derived.Test.YtlaicnoikeieeaaDoorP14
namespace Go.Proofs.YtlaicnoikeieeaaDoor.Pu
open Go.RowKit Go.Proofs.YtlaicnoikeieeaaDoor.Cat Go.Proofs.YtlaicnoikeieeaaDoor.P Go.Proofs.YtlaicnoikeieeaaDoorW.PrintWords
set_option linter.unusedVariables false
set_option linter.unusedSimpArgs false
theorem roomB_of {s : List Bind} (h : s.length ≤ maxLen ∧ ∀ x ∈ s, (Lit.int .i64 x.f0).wf = true ∧ (x.f1.length ≤ maxLen ∧ ∀ c ∈ x.f1, CellIn c.f0 c.f1 c.f2)) : RoomB s := by
  refine ⟨by have := h.1; unfold maxLen at this; exact this, fun b hb => ⟨(h.2 b hb).1, room_of (h.2 b hb).2⟩⟩
theorem FnExactSubOk (s : List Bind) (h : s.length ≤ maxLen ∧ ∀ x ∈ s, (Lit.int .i64 x.f0).wf = true ∧ (x.f1.length ≤ maxLen ∧ ∀ c ∈ x.f1, CellIn c.f0 c.f1 c.f2)) : ∃ k, laws_FnExactSubOk.f k s = some true := by
  classical
  refine Ev.rounds ?_
  have hr := roomB_of h
  obtain ⟨q, hq, hq1, hsz⟩ := szB_ev s 1048576 (by omega) (by omega) hr
  unfold laws_FnExactSubOk.f
  refine Ev.bind hq ?_
  by_cases hn : q < 0
  · exact Ev.ifp hn (Ev.now _)
  refine Ev.ifn hn ?_
  have hz := hsz (by omega)
  have hl : s.length ≤ 1048576 := by omega
  have he : ∀ b ∈ s, b.f1.length ≤ 1048576 := fun b hb => by have := cells_le hb; omega
  have hto := toB_ev s hl he
  refine Ev.bind hto (Ev.bind (ssubok_ev s ⟨hl, he⟩) (Ev.bind hto (Ev.bind (isubok_ev s (fun b hb => (hr.2 b hb).1)) (Ev.ifn (by simp) (Ev.bind hto (Ev.bind (eqB_ev s s hl he) ?_))))))
  exact Ev.ifp (by simp) (Ev.now _)
end Go.Proofs.YtlaicnoikeieeaaDoor.Pu
