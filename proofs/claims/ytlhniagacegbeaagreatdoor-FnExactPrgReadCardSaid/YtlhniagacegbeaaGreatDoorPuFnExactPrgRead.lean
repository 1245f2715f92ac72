/- PrgRead of the program and of the reference is the same, and is new memory. -/
import Derived.Test.YtlhniagacegbeaaGreatDoorMCRi
import Derived.Test.YtlhniagacegbeaaGreatDoorMCMk
import Derived.Test.YtlhniagacegbeaaGreatDoorP7
namespace Go.Proofs.YtlhniagacegbeaaGreatDoor.Pu
open Go.RowKit Go.Proofs.YtlhniagacegbeaaGreatDoor.Cat Go.Proofs.YtlhniagacegbeaaGreatDoor.P Go.Proofs.YtlhniagacegbeaaGreatDoorW.PrintWords
set_option linter.unusedVariables false
set_option linter.unusedSimpArgs false
theorem szGL_le:∀ (b:List Goal),(∀ g ∈ b,g.f1.length≤40∧g.f2.length≤40∧g.f3.length≤40)→szGL b≤120 * b.length
  | [],_=>by simp [szGL]
  | g :: b,h=>by
    have h1:=h g (by simp)
    have h2:=szGL_le b (fun x hx=>h x (by simp [hx]))
    rw [szGL_cons,List.length_cons]
    have:szG3 g=g.f1.length+g.f2.length+g.f3.length:=rfl
    omega
theorem FnExactPrgRead (s:ByteArray) (h:s.size≤140737488351232):∃ k,laws_FnExactPrgRead.f k s=some true:=by
  refine Ev.rounds ?_
  unfold laws_FnExactPrgRead.f
  by_cases hn:(s.size:Int) > 1048576
  · exact Ev.ifp hn (Ev.now _)
  refine Ev.ifn hn ?_
  have hi:=icr_ev s (by omega)
  have hs:=scr_ev s (by omega)
  obtain ⟨hl1,hl2,hl3⟩:=clauseR_sm s
  generalize hq:clauseR s=q at hi hs hl1 hl2 hl3
  obtain ⟨a,b,ok⟩:=q
  simp only at hl1 hl2 hl3
  have hsz:=szGL_le b hl3
  have heq:=eqC_ev ⟨a,b⟩ ⟨a,b⟩ ⟨by show a.length≤_;omega,by show b.length≤_;omega,fun g hg=>by have:=hl3 g hg;exact ⟨by omega,by omega,by omega⟩⟩
  rw [decide_eq_true rfl] at heq
  refine Ev.bind hs (Ev.bind hi (Ev.bind heq (Ev.bind (markC_ev a b (by omega)) (Ev.bind (heldC_ev a b (by omega)) (Ev.ifp ⟨rfl,rfl,rfl,by omega⟩ (Ev.now _))))))
end Go.Proofs.YtlhniagacegbeaaGreatDoor.Pu
