/- GoalRead of the program and of the reference is the same, and is new memory. -/
import Derived.Test.YtlhniagacegbeaaGreatDoorMGRs
import Derived.Test.YtlhniagacegbeaaGreatDoorMGMk
import Derived.Test.YtlhniagacegbeaaGreatDoorP17
namespace Go.Proofs.YtlhniagacegbeaaGreatDoor.Pu
open Go.RowKit Go.Proofs.YtlhniagacegbeaaGreatDoor.Cat Go.Proofs.YtlhniagacegbeaaGreatDoor.P Go.Proofs.YtlhniagacegbeaaGreatDoorW.PrintWords
set_option linter.unusedVariables false
set_option linter.unusedSimpArgs false
theorem FnExactGoalRead (s:ByteArray) (h:s.size≤140737488351232):∃ k,laws_FnExactGoalRead.f k s=some true:=by
  refine Ev.rounds ?_
  unfold laws_FnExactGoalRead.f
  by_cases hn:(s.size:Int) > 1048576
  · exact Ev.ifp hn (Ev.now _)
  refine Ev.ifn hn ?_
  have hr:=igr_ev s (by omega)
  have hs:=sgr_ev s (by omega)
  obtain ⟨hl1,hl2,hl3⟩:=goalR_len s
  generalize hq:goalR s=q at hr hs hl1 hl2 hl3
  obtain ⟨⟨k,a,b,c⟩,ok⟩:=q
  simp only at hl1 hl2 hl3
  have heq:=eqG_ev k a b c k a b c (by omega) (by omega) (by omega)
  rw [decide_eq_true (show k=k∧a=a∧b=b∧c=c from ⟨rfl,rfl,rfl,rfl⟩)] at heq
  have hm:=markG_ev k a b c 1 (by omega) (by omega)
  have hh:=heldG_ev k a.length b.length c.length 1 (by omega) (by omega)
  refine Ev.bind hs (Ev.bind hr (Ev.bind heq (Ev.ifp rfl ?_)))
  have hd:(ok != ok)=false:=by simp
  show Ev (fun n=>laws_FnExactGoalRead.j0 n s ok (ok != ok) k a b c k a b c) true
  rw [hd]
  refine Ev.step (fun k=>rfl) ?_
  simp only [laws_FnExactGoalRead.j0]
  refine Ev.ifn (by simp) (Ev.bind hm (Ev.bind hh (Ev.ifn (by omega) (Ev.ifp rfl (Ev.bind hr (Ev.bind heq (Ev.ifp rfl ?_)))))))
  show Ev (fun n=>laws_FnExactGoalRead.j1 n _ (ok != ok) k _ _ _) true
  rw [hd]
  refine Ev.step (fun k=>rfl) ?_
  simp only [laws_FnExactGoalRead.j1]
  exact Ev.ifn (by simp) (Ev.bind hh (Ev.ifn (by omega) (Ev.ifp rfl (Ev.now _))))
end Go.Proofs.YtlhniagacegbeaaGreatDoor.Pu
