/- What the reference and the program write for a goal is its text. -/
import Derived.Test.YtlhniagacegbeaaGreatDoorMTxtI
import Derived.Test.YtlhniagacegbeaaGreatDoorMGoal
import Derived.Test.YtlhniagacegbeaaGreatDoorP4
namespace Go.Proofs.YtlhniagacegbeaaGreatDoor.P
set_option linter.unusedVariables false
set_option linter.unusedSimpArgs false
open Go.RowKit Go.Proofs.YtlhniagacegbeaaGreatDoor.Cat Go.Proofs.YtlhniagacegbeaaGreatDoorW.PrintWords Go.Proofs.YtlhniagacegbeaaGreatDoorW.PrintLast Go.Lib
/-- a goal's text -/
def gtext (k:Int) (a b c:List Cell):ByteArray:=
 if goalB k a b c=true then
  (if k=2 then textB a++(⟨#[32,61,32]⟩:ByteArray)++textB b
  else if k=3 then (⟨#[33]⟩:ByteArray)
  else if k=4 then textB a++(⟨#[32,60,32]⟩:ByteArray)++textB b
  else if k=5 then textB a++(⟨#[32,43,32]⟩:ByteArray)++textB b++(⟨#[32,61,32]⟩:ByteArray)++textB c
  else textB a)
 else (⟨#[]⟩:ByteArray)
theorem sz3 (x y z:UInt8):(⟨#[x,y,z]⟩:ByteArray).size=3:=rfl
theorem gtext_size (k:Int) (a b c:List Cell):(gtext k a b c).size≤1300:=by
 have h1:=textB_size a
 have h2:=textB_size b
 have h3:=textB_size c
 unfold gtext
 repeat' split
 all_goals first|(simp only [ByteArray.size_append,sz3];omega)|omega|decide
theorem igtext_ev (k:Int) (a b c:List Cell):Ev (fun n=>impl_GoalText.f n k a b c) (gtext k a b c):=by
 have h1:=textB_size a
 have h2:=textB_size b
 have h3:=textB_size c
 unfold impl_GoalText.f gtext
 refine Ev.bindv (igoal k a b c) ?_
 by_cases hg:goalB k a b c=true
 case neg=>rw [if_neg hg];exact Ev.ifn hg (Ev.now _)
 rw [if_pos hg]
 refine Ev.ifp hg (Ev.bind (itext_ev a) (Ev.bind (itext_ev b) ?_))
 by_cases e2:k=2
 ·rw [if_pos e2]
  exact Ev.ifp e2 (Ev.ifp (by omega) (Ev.ifp (by simp only [ByteArray.size_append,sz3];omega) (Ev.now _)))
 rw [if_neg e2]
 refine Ev.ifn e2 ?_
 by_cases e3:k=3
 ·rw [if_pos e3];exact Ev.ifp e3 (Ev.now _)
 rw [if_neg e3]
 refine Ev.ifn e3 ?_
 by_cases e4:k=4
 ·rw [if_pos e4]
  exact Ev.ifp e4 (Ev.ifp (by omega) (Ev.ifp (by simp only [ByteArray.size_append,sz3];omega) (Ev.now _)))
 rw [if_neg e4]
 refine Ev.ifn e4 ?_
 by_cases e5:k=5
 ·rw [if_pos e5]
  exact Ev.ifp e5 (Ev.ifp (by omega) (Ev.ifp (by simp only [ByteArray.size_append,sz3];omega) (Ev.ifp (by simp only [ByteArray.size_append,sz3];omega) (Ev.bind (itext_ev c) (Ev.ifp (by simp only [ByteArray.size_append,sz3];omega) (Ev.now _))))))
 rw [if_neg e5]
 exact Ev.ifn e5 (Ev.now _)
end Go.Proofs.YtlhniagacegbeaaGreatDoor.P
