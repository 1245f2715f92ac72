/- What the laws' marks of a clause are, and that they are found again. -/
import Derived.Test.YtlhniagacegbeaaGreatDoorMGMk
import Derived.Test.YtlhniagacegbeaaGreatDoorP6
import Derived.Test.YtlhniagacegbeaaGreatDoorP6
namespace Go.Proofs.YtlhniagacegbeaaGreatDoor.P
set_option linter.unusedVariables false
set_option linter.unusedSimpArgs false
open Go.RowKit Go.Proofs.YtlhniagacegbeaaGreatDoor.Cat Go.Proofs.YtlhniagacegbeaaGreatDoorW.PrintWords Go.Proofs.YtlhniagacegbeaaGreatDoorW.PrintLast
theorem rdG4 (a r:List Goal) (c:Goal):rd_T24 (a++c :: r) ((a.length:Nat):Int)=c:=by simp [rd_T24,List.getD]
def szG3 (g:Goal):Nat:=g.f1.length+g.f2.length+g.f3.length
def szGL (l:List Goal):Nat:=(l.map szG3).sum
theorem szGL_cons (g:Goal) (r:List Goal):szGL (g :: r)=szG3 g+szGL r:=by simp [szGL]
noncomputable def markedG (m:Int) (g:Goal):Goal:=⟨m,marked (m+1) g.f1.length,marked (m+1+3 * g.f1.length) g.f2.length,marked (m+1+3 * g.f1.length+3 * g.f2.length) g.f3.length⟩
noncomputable def markedGL:Int→List Goal→List Goal
 | _,[]=>[]
 | m,g :: r=>markedG m g :: markedGL (m+1+3 * (szG3 g:Int)) r
theorem markGL_loop:∀ (r a:List Goal) (m:Int),0≤m→m+r.length+3 * (szGL r:Int)≤900000000→a.length+r.length≤9223372036854775806→
  Ev (fun k=>laws_markPrgGoalS.l0 k (a++r) m ((a.length:Nat):Int)) (m+r.length+3 * (szGL r:Int),a++markedGL m r)
 | [],a,m,h0,h1,hl=>by
  refine Ev.step (fun k=>rfl) ?_
  simp only [laws_markPrgGoalS.l0]
  refine Ev.ifn (not_lt_app a) (Ev.pure ?_)
  simp [szGL,markedGL]
 | c :: r,a,m,h0,h1,hl=>by
  rw [szGL_cons] at h1
  simp only [List.length_cons] at h1 hl
  have hz:szG3 c=c.f1.length+c.f2.length+c.f3.length:=rfl
  have ih:=markGL_loop r (a++[markedG m c]) (m+1+3 * (szG3 c:Int)) (by omega) (by omega) (by simp;omega)
  rw [snoc_len] at ih
  simp only [List.append_assoc,List.singleton_append] at ih
  have e:m+1+3 * (szG3 c:Int)+(r.length:Int)+3 * (szGL r:Int)=m+((c :: r).length:Int)+3 * (szGL (c :: r):Int):=by rw [szGL_cons,List.length_cons];omega
  rw [e] at ih
  have e2:m+1+3 * (szG3 c:Int)=m+1+3 * (c.f1.length:Int)+3 * (c.f2.length:Int)+3 * (c.f3.length:Int):=by omega
  rw [e2] at ih
  refine Ev.step (fun k=>rfl) ?_
  simp only [laws_markPrgGoalS.l0]
  refine Ev.ifp (lt_app a r c) (Ev.ifp (by omega) ?_)
  rw [rdG4,w64 (x:=m+1) (by omega) (by omega),wnext (by omega)]
  refine Ev.bind (mark_ev c.f1 (m+1) (by omega) (by omega)) (Ev.bind (mark_ev c.f2 (m+1+3 * (c.f1.length:Int)) (by omega) (by omega)) (Ev.bind (mark_ev c.f3 (m+1+3 * (c.f1.length:Int)+3 * (c.f2.length:Int)) (by omega) (by omega)) ?_))
  rw [setC,show markedGL m (c :: r)=markedG m c :: markedGL (m+1+3 * (c.f1.length:Int)+3 * (c.f2.length:Int)+3 * (c.f3.length:Int)) r from by rw [markedGL,e2]]
  exact ih
theorem heldGL_loop:∀ (r a:List Goal) (m:Int),0≤m→m+r.length+3 * (szGL r:Int)≤900000000→a.length+r.length≤9223372036854775806→
  Ev (fun k=>laws_heldPrgGoalS.l0 k (a++markedGL m r) m ((a.length:Nat):Int)) (m+r.length+3 * (szGL r:Int))
 | [],a,m,h0,h1,hl=>by
  rw [markedGL]
  refine Ev.step (fun k=>rfl) ?_
  simp only [laws_heldPrgGoalS.l0]
  refine Ev.ifn (not_lt_app a) (Ev.pure ?_)
  simp [szGL]
 | c :: r,a,m,h0,h1,hl=>by
  rw [szGL_cons] at h1
  simp only [List.length_cons] at h1 hl
  have hz:szG3 c=c.f1.length+c.f2.length+c.f3.length:=rfl
  have ih:=heldGL_loop r (a++[markedG m c]) (m+1+3 * (szG3 c:Int)) (by omega) (by omega) (by simp;omega)
  rw [snoc_len] at ih
  simp only [List.append_assoc,List.singleton_append] at ih
  have e:m+1+3 * (szG3 c:Int)+(r.length:Int)+3 * (szGL r:Int)=m+((c :: r).length:Int)+3 * (szGL (c :: r):Int):=by rw [szGL_cons,List.length_cons];omega
  rw [e] at ih
  rw [markedGL]
  have e2:m+1+3 * (szG3 c:Int)=m+1+3 * (c.f1.length:Int)+3 * (c.f2.length:Int)+3 * (c.f3.length:Int):=by omega
  rw [e2] at ih ⊢
  refine Ev.step (fun k=>rfl) ?_
  simp only [laws_heldPrgGoalS.l0]
  refine Ev.ifp (lt_app a _ _) (Ev.ifp (by omega) ?_)
  rw [rdG4,w64 (x:=m+1) (by omega) (by omega),wnext (by omega)]
  exact Ev.ifp rfl (Ev.bind (held_ev (m+1) c.f1.length (by omega) (by omega)) (Ev.ifn (by omega) (Ev.bind (held_ev _ c.f2.length (by omega) (by omega)) (Ev.ifn (by omega) (Ev.bind (held_ev _ c.f3.length (by omega) (by omega)) (Ev.ifn (by omega) ih))))))
theorem markC_ev (h:List Cell) (b:List Goal) (hs:(h.length:Int)+b.length+szGL b≤100000000) :
  Ev (fun k=>laws_markPrgClause.f k h b 1) (1+3 * (h.length:Int)+b.length+3 * (szGL b:Int),marked 1 h.length,markedGL (1+3 * (h.length:Int)) b):=by
 unfold laws_markPrgClause.f
 refine Ev.bind (mark_ev h 1 (by omega) (by omega)) ?_
 have:=markGL_loop b [] (1+3 * (h.length:Int)) (by omega) (by omega) (by simp;omega)
 exact Ev.bind this (Ev.now _)
theorem heldC_ev (h:List Cell) (b:List Goal) (hs:(h.length:Int)+b.length+szGL b≤100000000) :
  Ev (fun k=>laws_heldPrgClause.f k (marked 1 h.length) (markedGL (1+3 * (h.length:Int)) b) 1) (1+3 * (h.length:Int)+b.length+3 * (szGL b:Int)):=by
 unfold laws_heldPrgClause.f
 have:=heldGL_loop b [] (1+3 * (h.length:Int)) (by omega) (by omega) (by simp;omega)
 exact Ev.bind (held_ev 1 h.length (by omega) (by omega)) (Ev.ifn (by omega) (Ev.bind this (Ev.ifn (by omega) (Ev.now _))))
end Go.Proofs.YtlhniagacegbeaaGreatDoor.P
