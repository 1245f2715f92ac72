/- What l2Full and SubFull answer. -/
import Derived.Test.YtlaicnoikeieeaaDoorMBinds
import Derived.Test.YtlaicnoikeieeaaDoorP12
import Derived.Test.YtlaicnoikeieeaaDoorP11
namespace Go.Proofs.YtlaicnoikeieeaaDoor.Pu
set_option linter.unusedVariables false
set_option linter.unusedSimpArgs false
open Go.RowKit Go.Proofs.YtlaicnoikeieeaaDoor.Cat Go.Proofs.YtlaicnoikeieeaaDoor.P Go.Proofs.YtlaicnoikeieeaaDoorW.PrintWords Go.Proofs.YtlaicnoikeieeaaDoorW.PrintLast

theorem subFull_len (s:List Bind) (t:List Cell):(subFull s t).1.length≤40:=by
 rcases subFull_cases s t with ⟨e,_⟩|⟨e,_,_,hl⟩
 ·rw [e];simp
 ·rw [e];exact hl
open Classical in
theorem isubfull_ev (s:List Bind) (hw:∀ b ∈ s,(Lit.int .i64 b.f0).wf=true) (t:List Cell):Ev (fun k=>impl_SubFull.f k s t) (subFull s t):=by
 unfold impl_SubFull.f subFull
 refine Ev.bind (isubok_ev s hw) ?_
 by_cases h0:Oks s
 case neg=>
  rw [decide_eq_false h0,if_neg (fun h=>h0 h.1)]
  exact Ev.ifn (by simp) (Ev.now _)
 rw [decide_eq_true h0]
 refine Ev.ifp rfl (Ev.bindv (iok t) ?_)
 by_cases h1:isTerm t=true
 case neg=>
  rw [if_neg (fun h=>h1 h.2)]
  exact Ev.ifn h1 (Ev.now _)
 rw [if_pos ⟨h0,h1⟩]
 exact Ev.ifp h1 (Ev.bind (ifull_ev h0.good (isTerm_iff'.1 h1).2.2.1) (Ev.now _))
end Go.Proofs.YtlaicnoikeieeaaDoor.Pu
