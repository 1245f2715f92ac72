/- What the laws' marks of bindings are, and that they are found again. -/
import Derived.Test.YtlaicnoikeieeaaDoorMBnd
import Derived.Test.YtlaicnoikeieeaaDoorP15
import Derived.Test.YtlaicnoikeieeaaDoorP16
namespace Go.Proofs.YtlaicnoikeieeaaDoor.P
set_option linter.unusedVariables false
set_option linter.unusedSimpArgs false
open Go.RowKit Go.Proofs.YtlaicnoikeieeaaDoor.Cat Go.Proofs.YtlaicnoikeieeaaDoorW.PrintWords Go.Proofs.YtlaicnoikeieeaaDoorW.PrintLast

noncomputable def markedB:Int→List Bind→List Bind
 | _,[]=>[]
 | m,b :: r=>⟨m,marked (m+1) b.f1.length⟩ :: markedB (m+1+3 * (b.f1.length:Int)) r
theorem cellsB_cons (b:Bind) (r:List Bind):cellsB (b :: r)=b.f1.length+cellsB r:=by simp [cellsB]

theorem markB_loop:∀ (r a:List Bind) (m:Int),0≤m→m+r.length+3 * (cellsB r:Int)≤900000000→a.length+r.length≤9223372036854775806→
  Ev (fun k=>laws_markSubBindS.l0 k (a++r) m ((a.length:Nat):Int)) (m+r.length+3 * (cellsB r:Int),a++markedB m r)
 | [],a,m,h0,h1,hl=>by
  refine Ev.step (fun k=>rfl) ?_
  simp only [laws_markSubBindS.l0]
  refine Ev.ifn (not_lt_app a) (Ev.pure ?_)
  simp [cellsB,markedB]
 | c :: r,a,m,h0,h1,hl=>by
  rw [cellsB_cons] at h1
  simp only [List.length_cons] at h1 hl
  have ih:=markB_loop r (a++[⟨m,marked (m+1) c.f1.length⟩]) (m+1+3 * (c.f1.length:Int)) (by omega) (by omega) (by simp;omega)
  rw [snoc_len] at ih
  simp only [List.append_assoc,List.singleton_append] at ih
  have e:m+1+3 * (c.f1.length:Int)+(r.length:Int)+3 * (cellsB r:Int)=m+((c :: r).length:Int)+3 * (cellsB (c :: r):Int):=by rw [cellsB_cons,List.length_cons];omega
  rw [e] at ih
  refine Ev.step (fun k=>rfl) ?_
  simp only [laws_markSubBindS.l0]
  refine Ev.ifp (lt_app a r c) (Ev.ifp (by omega) ?_)
  rw [rdB,w64 (x:=m+1) (by omega) (by omega),wnext (by omega)]
  refine Ev.bind (mark_ev c.f1 (m+1) (by omega) (by omega)) ?_
  rw [setC]
  exact ih
theorem markB_ev (s:List Bind) (m:Int) (h0:0≤m) (h:m+s.length+3 * (cellsB s:Int)≤900000000):Ev (fun k=>laws_markSubBindS.f k s m) (m+s.length+3 * (cellsB s:Int),markedB m s):=
 markB_loop s [] m h0 h (by simp;omega)

theorem heldB_loop:∀ (r a:List Bind) (m:Int),0≤m→m+r.length+3 * (cellsB r:Int)≤900000000→a.length+r.length≤9223372036854775806→
  Ev (fun k=>laws_heldSubBindS.l0 k (a++markedB m r) m ((a.length:Nat):Int)) (m+r.length+3 * (cellsB r:Int))
 | [],a,m,h0,h1,hl=>by
  rw [markedB]
  refine Ev.step (fun k=>rfl) ?_
  simp only [laws_heldSubBindS.l0]
  refine Ev.ifn (not_lt_app a) (Ev.pure ?_)
  simp [cellsB]
 | c :: r,a,m,h0,h1,hl=>by
  rw [cellsB_cons] at h1
  simp only [List.length_cons] at h1 hl
  have ih:=heldB_loop r (a++[⟨m,marked (m+1) c.f1.length⟩]) (m+1+3 * (c.f1.length:Int)) (by omega) (by omega) (by simp;omega)
  rw [snoc_len] at ih
  simp only [List.append_assoc,List.singleton_append] at ih
  have e:m+1+3 * (c.f1.length:Int)+(r.length:Int)+3 * (cellsB r:Int)=m+((c :: r).length:Int)+3 * (cellsB (c :: r):Int):=by rw [cellsB_cons,List.length_cons];omega
  rw [e] at ih
  rw [markedB]
  refine Ev.step (fun k=>rfl) ?_
  simp only [laws_heldSubBindS.l0]
  refine Ev.ifp (lt_app a _ _) (Ev.ifp (by omega) ?_)
  rw [rdB,w64 (x:=m+1) (by omega) (by omega),wnext (by omega)]
  refine Ev.ifp rfl (Ev.bind (held_ev (m+1) c.f1.length (by omega) (by omega)) (Ev.ifn (by omega) ih))
theorem heldB_ev (s:List Bind) (m:Int) (h0:0≤m) (h:m+s.length+3 * (cellsB s:Int)≤900000000):Ev (fun k=>laws_heldSubBindS.f k (markedB m s) m) (m+s.length+3 * (cellsB s:Int)):=
 heldB_loop s [] m h0 h (by simp;omega)
end Go.Proofs.YtlaicnoikeieeaaDoor.P
