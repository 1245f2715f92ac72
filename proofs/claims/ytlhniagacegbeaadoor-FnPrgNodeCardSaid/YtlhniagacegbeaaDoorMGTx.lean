/- What the reference and the program write for a goal is its text. -/
import Derived.Test.YtlhniagacegbeaaDoorMTxtI
import Derived.Test.YtlhniagacegbeaaDoorMGoal
import Derived.Test.YtlhniagacegbeaaDoorP4
namespace Go.Proofs.YtlhniagacegbeaaDoor.P
set_option linter.unusedVariables false
set_option linter.unusedSimpArgs false
open Go.RowKit Go.Proofs.YtlhniagacegbeaaDoor.Cat Go.Proofs.YtlhniagacegbeaaDoorW.PrintWords Go.Proofs.YtlhniagacegbeaaDoorW.PrintLast Go.Lib
def gtext (k:Int) (a b c:List Cell):ByteArray:=
 if goalB k a b c=true then
  (if k=2 then textB a++(⟨#[32,61,32]⟩:ByteArray)++textB b
  else if k=3 then (⟨#[33]⟩:ByteArray)
  else if k=4 then textB a++(⟨#[32,60,32]⟩:ByteArray)++textB b
  else if k=5 then textB a++(⟨#[32,43,32]⟩:ByteArray)++textB b++(⟨#[32,61,32]⟩:ByteArray)++textB c
  else textB a)
 else (⟨#[]⟩:ByteArray)
theorem sz3 (x y z:UInt8):(⟨#[x,y,z]⟩:ByteArray).size=3:=rfl
theorem gtext_size (k:Int) (a b c:List Cell):(gtext k a b c).size≤1300:=by
 have h1:=textB_size a
 have h2:=textB_size b
 have h3:=textB_size c
 unfold gtext
 repeat' split
 all_goals first|(simp only [ByteArray.size_append,sz3];omega)|omega|decide
theorem sgtext_ev (k:Int) (a b c:List Cell) (ha:a.length≤1048576) (hb:b.length≤1048576) (hc:c.length≤1048576):Ev (fun n=>spec_GoalText.f n k a b c) (gtext k a b c):=by
 have h1:=textB_size a
 have h2:=textB_size b
 have h3:=textB_size c
 unfold spec_GoalText.f gtext
 refine Ev.bind (sgoal_ev k a b c ha hb hc) ?_
 by_cases hg:goalB k a b c=true
 case neg=>rw [if_neg hg];exact Ev.ifn hg (Ev.now _)
 rw [if_pos hg]
 refine Ev.ifp hg ?_
 by_cases e2:k=2
 ·rw [if_pos e2]
  exact Ev.ifp e2 (Ev.bind (stext_ev a) (Ev.ifp (by omega) (Ev.bind (stext_ev b) (Ev.ifp (by simp only [ByteArray.size_append,sz3];omega) (Ev.now _)))))
 rw [if_neg e2]
 refine Ev.ifn e2 ?_
 by_cases e3:k=3
 ·rw [if_pos e3];exact Ev.ifp e3 (Ev.now _)
 rw [if_neg e3]
 refine Ev.ifn e3 ?_
 by_cases e4:k=4
 ·rw [if_pos e4]
  exact Ev.ifp e4 (Ev.bind (stext_ev a) (Ev.ifp (by omega) (Ev.bind (stext_ev b) (Ev.ifp (by simp only [ByteArray.size_append,sz3];omega) (Ev.now _)))))
 rw [if_neg e4]
 refine Ev.ifn e4 ?_
 by_cases e5:k=5
 ·rw [if_pos e5]
  exact Ev.ifp e5 (Ev.bind (stext_ev a) (Ev.ifp (by omega) (Ev.bind (stext_ev b) (Ev.ifp (by simp only [ByteArray.size_append,sz3];omega) (Ev.ifp (by simp only [ByteArray.size_append,sz3];omega) (Ev.bind (stext_ev c) (Ev.ifp (by simp only [ByteArray.size_append,sz3];omega) (Ev.now _))))))))
 rw [if_neg e5]
 exact Ev.ifn e5 (Ev.bind (stext_ev a) (Ev.now _))
end Go.Proofs.YtlhniagacegbeaaDoor.P
