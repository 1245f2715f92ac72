/- What the reference's l2Meet and SubUnify answer. -/
import Derived.Test.YtlaicnoikeieeaaDoorMFullS
import Derived.Test.YtlaicnoikeieeaaDoorMUniS
import Derived.Test.YtlaicnoikeieeaaDoorP13
import Derived.Test.YtlaicnoikeieeaaDoorP13
namespace Go.Proofs.YtlaicnoikeieeaaDoor.Pu
set_option linter.unusedVariables false
set_option linter.unusedSimpArgs false
open Go.RowKit Go.Proofs.YtlaicnoikeieeaaDoor.Cat Go.Proofs.YtlaicnoikeieeaaDoor.P Go.Proofs.YtlaicnoikeieeaaDoorW.PrintWords Go.Proofs.YtlaicnoikeieeaaDoorW.PrintLast
theorem meetF_ev {s:List Bind} (hs:Oks s) {a b:List Cell} (ha:isTerm a=true) (hb:isTerm b=true):Ev (fun k=>meetF k s a b) (meet s a b):=by
 have e1:=l2full_ev hs ha
 have e2:=l2full_ev hs hb
 unfold meetF meet
 refine Ev.bind e1 (Ev.bind e2 ?_)
 by_cases h1:40<(full s a).length
 ·rw [if_pos h1,if_pos (show 40<(full s a).length∨40<(full s b).length from .inl h1)]
  exact Ev.ifp rfl (Ev.now _)
 ·rw [if_neg h1]
  refine Ev.ifn (by simp) ?_
  by_cases h2:40<(full s b).length
  ·rw [if_pos h2,if_pos (show 40<(full s a).length∨40<(full s b).length from .inr h2)]
   exact Ev.ifp rfl (Ev.now _)
  ·rw [if_neg h2,if_neg (show ¬ (40<(full s a).length∨40<(full s b).length) from by omega)]
   refine Ev.ifn (by simp) ?_
   refine Ev.bind (l2unify_ev hs ha hb) ?_
   cases he:uni s [(a,b)] with
   | none=>exact Ev.now _
   | some x=>
    refine Ev.bind (l2full_ev (uni_oks hs ha hb he) ha) ?_
    simp only
    by_cases h3:40<(full x a).length
    ·rw [if_pos h3,if_pos h3]
     exact Ev.ifp rfl (Ev.now _)
    ·rw [if_neg h3,if_neg h3]
     exact Ev.ifn (by simp) (Ev.now _)
open Classical in
theorem ssubunify_ev (s:List Bind) (hz:SizesB s) (a b:List Cell):Ev (fun k=>spec_SubUnify.f k s a b) (subUnify s a b):=by
 unfold spec_SubUnify.f
 refine Ev.bind (ssubok_ev s hz) ?_
 by_cases h0:Oks s
 case neg=>
  rw [decide_eq_false h0,subUnify_no (fun h=>h0 h.1)]
  exact Ev.ifp rfl (Ev.now _)
 rw [decide_eq_true h0]
 refine Ev.ifn (by simp) (Ev.bind (sok_ev a) ?_)
 by_cases h1:isTerm a=true
 case neg=>
  rw [subUnify_no (fun h=>h1 h.2.1)]
  exact Ev.ifp (Bool.eq_false_iff.2 h1) (Ev.now _)
 refine Ev.ifn (by simp [h1]) (Ev.bind (sok_ev b) ?_)
 by_cases h2:isTerm b=true
 case neg=>
  rw [subUnify_no (fun h=>h2 h.2.2)]
  exact Ev.ifp (Bool.eq_false_iff.2 h2) (Ev.now _)
 refine Ev.ifn (by simp [h2]) ?_
 rw [subUnify_ok ⟨h0,h1,h2⟩]
 have hl:=hz.len
 exact Ev.bind (scopy_ev s (by omega) (fun b hb=>by have:=hz.each b hb;omega)) (meetF_ev h0 h1 h2)
end Go.Proofs.YtlaicnoikeieeaaDoor.Pu
