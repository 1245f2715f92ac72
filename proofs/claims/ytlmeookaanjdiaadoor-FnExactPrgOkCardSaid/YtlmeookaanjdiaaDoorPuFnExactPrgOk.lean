/- PrgOk of the program and of the reference is the same, and leaves its argument alone. -/
import Derived.Test.YtlmeookaanjdiaaDoorMPrg
import Derived.Test.YtlmeookaanjdiaaDoorP22
namespace Go.Proofs.YtlmeookaanjdiaaDoor.Pu
open Go.RowKit Go.Proofs.YtlmeookaanjdiaaDoor.Cat Go.Proofs.YtlmeookaanjdiaaDoor.P Go.Proofs.YtlmeookaanjdiaaDoorW.PrintWords
set_option linter.unusedVariables false
set_option linter.unusedSimpArgs false
theorem FnExactPrgOk (p : Prog) (h : ProgIn p) : ∃ k, laws_FnExactPrgOk.f k p.f0 p.f1 = some true := by
  refine Ev.rounds ?_
  obtain ⟨q, hq, hq1, hsz⟩ := szP_ev p 1048576 (by omega) (by omega) h
  unfold laws_FnExactPrgOk.f
  refine Ev.bind hq ?_
  by_cases hn : q < 0
  · exact Ev.ifp hn (Ev.now _)
  refine Ev.ifn hn ?_
  have hz := hsz (by omega)
  have hs : SmP p := smP_of (by omega)
  have hto := toP_ev p hs
  refine Ev.bind hto (Ev.bind (sprog_ev p hs) (Ev.bind hto (Ev.bind (iprog_ev p hs) (Ev.ifn (by simp) (Ev.bind hto (Ev.bind (eqP_same p hs) ?_))))))
  exact Ev.ifp rfl (Ev.now _)
end Go.Proofs.YtlmeookaanjdiaaDoor.Pu
