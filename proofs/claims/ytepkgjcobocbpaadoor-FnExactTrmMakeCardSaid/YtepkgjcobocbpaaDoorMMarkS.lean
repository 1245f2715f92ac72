/- What the laws' own helpers do to rows of places: sizes, copies, equality, marks. -/
import Derived.Test.YtepkgjcobocbpaaDoorMLaw
import Derived.Test.YtepkgjcobocbpaaDoorMInts0
import Derived.Test.YtepkgjcobocbpaaDoorMMake
import Derived.Test.YtepkgjcobocbpaaDoorP5
import Derived.Test.YtepkgjcobocbpaaDoorP5
import Derived.Test.YtepkgjcobocbpaaDoorP4
import Derived.Test.YtepkgjcobocbpaaDoorP6
namespace Go.Proofs.YtepkgjcobocbpaaDoor.P
set_option linter.unusedVariables false
set_option linter.unusedSimpArgs false
open Go.RowKit Go.Proofs.YtepkgjcobocbpaaDoor.Cat Go.Proofs.YtepkgjcobocbpaaDoorW.PrintWords Go.Proofs.YtepkgjcobocbpaaDoorW.PrintLast

theorem rdLl (a r:List (List Cell)) (c:List Cell):rd_L4 (a++c :: r) ((a.length:Nat):Int)=c:=by
 simp [rd_L4,List.getD]
def cellsS (s:List (List Cell)):Nat:=(s.map List.length).sum
theorem cellsS_cons (b:List Cell) (r:List (List Cell)):cellsS (b :: r)=b.length+cellsS r:=by simp [cellsS]
theorem cellsS_le {s:List (List Cell)} {b:List Cell} (h:b ∈ s):b.length≤cellsS s:=by
 induction s with
 | nil=>cases h
 | cons x s ih=>
  rw [cellsS_cons]
  rcases List.mem_cons.1 h with rfl|h
  ·omega
  ·have:=ih h;omega
theorem szSS_loop:∀ (r a:List (List Cell)) (left:Int),0≤left→left≤1048576→(a++r).length≤9223372036854775807→(∀ x ∈ r,Room x)→
  ∃ q,Ev (fun k=>laws_szTrmCellSS.l0 k (a++r) left ((a.length:Nat):Int)) q∧q≤left∧(0≤q→q+(cellsS r:Int)≤left)
 | [],a,left,h0,h1,hl,hr=>by
  refine ⟨left,Ev.step (fun k=>rfl) ?_,by omega,fun _=>by simp [cellsS]⟩
  simp only [laws_szTrmCellSS.l0]
  exact Ev.ifn (not_lt_app a) (Ev.now _)
 | c :: r,a,left,h0,h1,hl,hr=>by
  have hal:a.length≤9223372036854775806:=by simp at hl;omega
  obtain ⟨q0,hs,hs1,hs2⟩:=sz_sum c left h0 h1 (hr c (by simp))
  by_cases hn:q0<0
  ·refine ⟨-1,Ev.step (fun k=>rfl) ?_,by omega,by omega⟩
   simp only [laws_szTrmCellSS.l0]
   refine Ev.ifp (lt_app a r c) (Ev.ifp (by omega) ?_)
   rw [rdLl]
   exact Ev.bind hs (Ev.ifp hn (Ev.now _))
  ·have e:(a++[c])++r=a++c :: r:=by simp
   obtain ⟨q,hq,hq1,hq2⟩:=szSS_loop r (a++[c]) q0 (by omega) (by omega) (by rw [e];exact hl) (fun x hx=>hr x (by simp [hx]))
   rw [e,snoc_len] at hq
   refine ⟨q,Ev.step (fun k=>rfl) ?_,by omega,fun h=>?_⟩
   ·simp only [laws_szTrmCellSS.l0]
    refine Ev.ifp (lt_app a r c) (Ev.ifp (by omega) ?_)
    rw [rdLl,wnext hal]
    exact Ev.bind hs (Ev.ifn hn hq)
   ·have:=hq2 h
    have:=hs2 (by omega)
    rw [cellsS_cons]
    omega
theorem szSS_ev (s:List (List Cell)) (left:Int) (h0:0≤left) (h1:left≤1048576) (hl:s.length≤9223372036854775807) (hr:∀ x ∈ s,Room x) :
  ∃ q,Ev (fun k=>laws_szTrmCellSS.f k s left) q∧q≤left∧(0≤q→q+(s.length:Int)+(cellsS s:Int)≤left):=by
 have hw:wrap64 (left - (s.length:Int))=left - s.length:=w64 (by omega) (by omega)
 by_cases hn:left - (s.length:Int)<0
 ·refine ⟨-1,Ev.all (fun k=>?_),by omega,by omega⟩
  unfold laws_szTrmCellSS.f
  rw [hw,if_pos hn]
 ·obtain ⟨q,hq,hq1,hq2⟩:=szSS_loop s [] (left - s.length) (by omega) (by omega) (by simpa using hl) hr
  refine ⟨q,Ev.congr (fun k=>?_) hq,by omega,fun h=>?_⟩
  ·unfold laws_szTrmCellSS.f
   rw [hw,if_neg hn]
   rfl
  ·have:=hq2 h;omega
theorem toSS_loop:∀ (r a:List (List Cell)) (n:Nat),r.length=n→a.length+n≤1048576→(∀ b ∈ r,b.length≤1048576)→
  Ev (fun k=>laws_toTrmCellSS.l0 k (a++r) (a++List.replicate n []) ((a.length:Nat):Int)) (a++r)
 | [],a,n,hn,hb,_=>by
  subst hn
  refine Ev.step (fun k=>rfl) ?_
  simp only [laws_toTrmCellSS.l0]
  exact Ev.ifn (not_lt_app a) (Ev.pure (by simp))
 | c :: r,a,n,hn,hb,hs=>by
  obtain ⟨m,rfl⟩:∃ m,n=m+1:=⟨n - 1,by simp at hn;omega⟩
  have ih:=toSS_loop r (a++[c]) m (by simpa using hn) (by simp;omega) (fun b h=>hs b (by simp [h]))
  rw [snoc_len] at ih
  simp only [List.append_assoc,List.singleton_append] at ih
  refine Ev.step (fun k=>rfl) ?_
  simp only [laws_toTrmCellSS.l0]
  refine Ev.ifp (lt_app a r c) (Ev.ifp (by omega) ?_)
  rw [rdLl]
  refine Ev.bind (to_ev c (hs c (by simp))) ?_
  rw [List.replicate_succ,setC,wnext (by omega)]
  exact Ev.ifp (lt_app a _ _) ih
theorem toSS_ev (s:List (List Cell)) (h:s.length≤1048576) (hs:∀ b ∈ s,b.length≤1048576):Ev (fun k=>laws_toTrmCellSS.f k s) s:=by
 refine Ev.congr (fun k=>?_) (toSS_loop s [] s.length rfl (by simpa using h) hs)
 unfold laws_toTrmCellSS.f
 rw [if_pos (by omega),if_pos (by simp;omega)]
 simp
theorem eqSS_loop:∀ (r a:List (List Cell)),(a++r).length≤1048576→(∀ b ∈ r,b.length≤1048576)→Ev (fun k=>laws_eqTrmCellSS.l0 k (a++r) (a++r) ((a.length:Nat):Int)) true
 | [],a,hl,hs=>by
  refine Ev.step (fun k=>rfl) ?_
  simp only [laws_eqTrmCellSS.l0]
  exact Ev.ifn (not_lt_app a) (Ev.now _)
 | c :: r,a,hl,hs=>by
  have ih:=eqSS_loop r (a++[c]) (by simpa using hl) (fun b h=>hs b (by simp [h]))
  rw [snoc_len,List.append_assoc,List.singleton_append] at ih
  have hal:a.length<(a++c :: r).length:=by simp
  have he:=eq_ev c c (hs c (by simp))
  rw [show decide (c=c)=true by simp] at he
  refine Ev.step (fun k=>rfl) ?_
  simp only [laws_eqTrmCellSS.l0]
  refine Ev.ifp (lt_app a r c) (Ev.ifp (by omega) (Ev.ifp (lt_app a r c) ?_))
  rw [rdL,wnext (by omega)]
  exact Ev.bind he (Ev.ifp rfl ih)
theorem eqSS_ev (s:List (List Cell)) (h:s.length≤1048576) (hs:∀ b ∈ s,b.length≤1048576):Ev (fun k=>laws_eqTrmCellSS.f k s s) true:=by
 unfold laws_eqTrmCellSS.f
 exact Ev.ifp rfl (eqSS_loop s [] (by simpa using h) hs)
noncomputable def markedS:Int→List (List Cell)→List (List Cell)
 | _,[]=>[]
 | m,b :: r=>marked m b.length :: markedS (m+3 * (b.length:Int)) r
theorem markSS_loop:∀ (r a:List (List Cell)) (m:Int),0≤m→m+3 * (cellsS r:Int)≤900000000→a.length+r.length≤9223372036854775806→
  Ev (fun k=>laws_markTrmCellSS.l0 k (a++r) m ((a.length:Nat):Int)) (m+3 * (cellsS r:Int),a++markedS m r)
 | [],a,m,h0,h1,hl=>by
  refine Ev.step (fun k=>rfl) ?_
  simp only [laws_markTrmCellSS.l0]
  refine Ev.ifn (not_lt_app a) (Ev.pure ?_)
  simp [cellsS,markedS]
 | c :: r,a,m,h0,h1,hl=>by
  rw [cellsS_cons] at h1
  simp only [List.length_cons] at hl
  have ih:=markSS_loop r (a++[marked m c.length]) (m+3 * (c.length:Int)) (by omega) (by omega) (by simp;omega)
  rw [snoc_len] at ih
  simp only [List.append_assoc,List.singleton_append] at ih
  have e:m+3 * (c.length:Int)+3 * (cellsS r:Int)=m+3 * (cellsS (c :: r):Int):=by rw [cellsS_cons];omega
  rw [e] at ih
  have er:(a++c :: r).getD ((a.length:Nat):Int).toNat []=c:=by simp [List.getD]
  refine Ev.step (fun k=>rfl) ?_
  simp only [laws_markTrmCellSS.l0]
  refine Ev.ifp (lt_app a r c) (Ev.ifp (by omega) ?_)
  rw [er,wnext (by omega)]
  refine Ev.bind (mark_ev c m (by omega) (by omega)) ?_
  rw [setC]
  exact ih
theorem markSS_ev (s:List (List Cell)) (m:Int) (h0:0≤m) (h:m+3 * (cellsS s:Int)≤900000000) (hl:s.length≤9223372036854775806):Ev (fun k=>laws_markTrmCellSS.f k s m) (m+3 * (cellsS s:Int),markedS m s):=
 markSS_loop s [] m h0 h (by simpa using hl)
end Go.Proofs.YtepkgjcobocbpaaDoor.P
