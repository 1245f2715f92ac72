/- What the laws' own helpers do to bindings: sizes, copies, equality. -/
import Derived.Test.YtlaicnoikeieeaaDoorMLaw
import Derived.Test.YtlaicnoikeieeaaDoorMInts0
import Derived.Test.YtlaicnoikeieeaaDoorMDfs
import Derived.Test.YtlaicnoikeieeaaDoorP13
import Derived.Test.YtlaicnoikeieeaaDoorP15
import Derived.Test.YtlaicnoikeieeaaDoorP13
namespace Go.Proofs.YtlaicnoikeieeaaDoor.P
set_option linter.unusedVariables false
set_option linter.unusedSimpArgs false
open Go.RowKit Go.Proofs.YtlaicnoikeieeaaDoor.Cat Go.Proofs.YtlaicnoikeieeaaDoorW.PrintWords Go.Proofs.YtlaicnoikeieeaaDoorW.PrintLast

theorem rdB (a r:List Bind) (c:Bind):rd_T30 (a++c :: r) ((a.length:Nat):Int)=c:=by simp [rd_T30,List.getD]
theorem rdB' (a r:List Bind) (c:Bind):rd_T72 (a++c :: r) ((a.length:Nat):Int)=c:=by simp [rd_T72,List.getD]

/-- what holds of a law's bindings: no list and no name is too long for Go -/
def RoomB (s:List Bind):Prop:=s.length≤9223372036854775807∧∀ b ∈ s,(Lit.int .i64 b.f0).wf=true∧Room b.f1
def cellsB (s:List Bind):Nat:=(s.map fun b=>b.f1.length).sum

theorem szB_one (v:Int) (t:List Cell) (left:Int) (h0:0≤left) (h1:left≤1048576) (hr:Room t) :
  ∃ q,Ev (fun k=>laws_szSubBind.f k v t left) q∧q≤left∧(0≤q→q+(t.length:Int)≤left):=by
 obtain ⟨q,hq,hq1,hq2⟩:=sz_sum t left h0 h1 hr
 by_cases hn:q<0
 ·refine ⟨-1,?_,by omega,by omega⟩
  unfold laws_szSubBind.f
  exact Ev.bind hq (Ev.ifp hn (Ev.now _))
 ·refine ⟨q,?_,hq1,hq2⟩
  unfold laws_szSubBind.f
  exact Ev.bind hq (Ev.ifn hn (Ev.now _))

theorem szB_loop:∀ (r a:List Bind) (left:Int),0≤left→left≤1048576→RoomB (a++r)→
  ∃ q,Ev (fun k=>laws_szSubBindS.l0 k (a++r) left ((a.length:Nat):Int)) q∧q≤left∧(0≤q→q+(cellsB r:Int)≤left)
 | [],a,left,h0,h1,hr=>by
  refine ⟨left,Ev.step (f:=fun _=>some left) (fun k=>?_) (Ev.now _),by omega,fun _=>by simp [cellsB]⟩
  simp only [laws_szSubBindS.l0]
  rw [if_neg (not_lt_app a)]
 | c :: r,a,left,h0,h1,hr=>by
  have hl:a.length≤9223372036854775806:=by have:=hr.1;simp at this;omega
  obtain ⟨q0,hs,hs1,hs2⟩:=szB_one c.f0 c.f1 left h0 h1 (hr.2 c (by simp)).2
  by_cases hn:q0<0
  ·refine ⟨-1,Ev.step (fun k=>rfl) ?_,by omega,by omega⟩
   simp only [laws_szSubBindS.l0]
   refine Ev.ifp (lt_app a r c) (Ev.ifp (by omega) ?_)
   rw [rdB']
   exact Ev.bind hs (Ev.ifp hn (Ev.now _))
  ·have e:(a++[c])++r=a++c :: r:=by simp
   obtain ⟨q,hq,hq1,hq2⟩:=szB_loop r (a++[c]) q0 (by omega) (by omega) (by rw [e];exact hr)
   rw [e,snoc_len] at hq
   refine ⟨q,Ev.step (fun k=>rfl) ?_,by omega,fun h=>?_⟩
   ·simp only [laws_szSubBindS.l0]
    refine Ev.ifp (lt_app a r c) (Ev.ifp (by omega) ?_)
    rw [rdB',wnext hl]
    exact Ev.bind hs (Ev.ifn hn hq)
   ·have:=hq2 h
    have:=hs2 (by omega)
    simp only [cellsB,List.map_cons,List.sum_cons] at *
    omega

theorem szB_ev (s:List Bind) (left:Int) (h0:0≤left) (h1:left≤1048576) (hr:RoomB s) :
  ∃ q,Ev (fun k=>laws_szSubBindS.f k s left) q∧q≤left∧(0≤q→q+(s.length:Int)+(cellsB s:Int)≤left):=by
 have hl:=hr.1
 have hw:wrap64 (left - (s.length:Int))=left - s.length:=w64 (by omega) (by omega)
 by_cases hn:left - (s.length:Int)<0
 ·refine ⟨-1,Ev.all (fun k=>?_),by omega,by omega⟩
  unfold laws_szSubBindS.f
  rw [hw,if_pos hn]
 ·obtain ⟨q,hq,hq1,hq2⟩:=szB_loop s [] (left - s.length) (by omega) (by omega) hr
  refine ⟨q,Ev.congr (fun k=>?_) hq,by omega,fun h=>?_⟩
  ·unfold laws_szSubBindS.f
   rw [hw,if_neg hn]
   rfl
  ·have:=hq2 h;omega

theorem cells_le {s:List Bind} {b:Bind} (h:b ∈ s):b.f1.length≤cellsB s:=by
 unfold cellsB
 induction s with
 | nil=>cases h
 | cons x s ih=>
  rw [List.map_cons,List.sum_cons]
  rcases List.mem_cons.1 h with rfl|h
  ·omega
  ·have:=ih h;omega

theorem toB_loop:∀ (r a:List Bind) (n:Nat),r.length=n→a.length+n≤1048576→(∀ b ∈ r,b.f1.length≤1048576)→
  Ev (fun k=>laws_toSubBindS.l0 k (a++r) (a++List.replicate n z30) ((a.length:Nat):Int)) (a++r)
 | [],a,n,hn,hb,_=>by
  subst hn
  refine Ev.step (f:=fun _=>some (a++[])) (fun k=>?_) (Ev.now _)
  simp only [laws_toSubBindS.l0]
  rw [if_neg (not_lt_app a)]
  simp
 | c :: r,a,n,hn,hb,hs=>by
  obtain ⟨m,rfl⟩:∃ m,n=m+1:=⟨n - 1,by simp at hn;omega⟩
  have ih:=toB_loop r (a++[c]) m (by simpa using hn) (by simp;omega) (fun b h=>hs b (by simp [h]))
  rw [snoc_len] at ih
  simp only [List.append_assoc,List.singleton_append] at ih
  refine Ev.step (fun k=>rfl) ?_
  simp only [laws_toSubBindS.l0]
  refine Ev.ifp (lt_app a r c) (Ev.ifp (by omega) ?_)
  rw [rdB']
  have h1:Ev (fun k=>laws_toSubBind.f k c.f0 c.f1) (c.f0,c.f1):=by
   unfold laws_toSubBind.f
   exact Ev.bind (to_ev c.f1 (hs c (by simp))) (Ev.now _)
  refine Ev.bind h1 ?_
  rw [List.replicate_succ,setC,wnext (by omega)]
  exact Ev.ifp (lt_app a _ _) ih

theorem toB_ev (s:List Bind) (h:s.length≤1048576) (hs:∀ b ∈ s,b.f1.length≤1048576):Ev (fun k=>laws_toSubBindS.f k s) s:=by
 refine Ev.congr (fun k=>?_) (toB_loop s [] s.length rfl (by simpa using h) hs)
 unfold laws_toSubBindS.f
 rw [if_pos (by omega),if_pos (by simp;omega)]
 simp

theorem eqB_one (b c:Bind) (h:b.f1.length≤1048576):Ev (fun k=>laws_eqSubBind.f k b.f0 b.f1 c.f0 c.f1) (decide (b=c)):=by
 unfold laws_eqSubBind.f
 by_cases h0:b.f0=c.f0
 ·refine Ev.ifp h0 (Ev.bind (eq_ev _ _ h) ?_)
  by_cases h1:b.f1=c.f1
  ·have:b=c:=by cases b;cases c;simp only at h0 h1;subst h0;subst h1;rfl
   rw [decide_eq_true this]
   exact Ev.ifp (by simpa using h1) (Ev.now _)
  ·have:b≠c:=fun e=>h1 (by rw [e])
   rw [decide_eq_false this]
   exact Ev.ifn (by simpa using h1) (Ev.now _)
 ·have:b≠c:=fun e=>h0 (by rw [e])
  rw [decide_eq_false this]
  exact Ev.ifn h0 (Ev.now _)

theorem eqB_loop:∀ (r s a b:List Bind),a.length=b.length→r.length=s.length→a.length+r.length≤9223372036854775806→(∀ x ∈ r,x.f1.length≤1048576)→
  Ev (fun k=>laws_eqSubBindS.l0 k (a++r) (b++s) ((a.length:Nat):Int)) (decide (r=s))
 | [],[],a,b,_,_,_,_=>by
  refine Ev.step (f:=fun _=>some true) (fun k=>?_) (Ev.now _)
  simp only [laws_eqSubBindS.l0]
  rw [if_neg (not_lt_app a)]
 | [],y :: s,a,b,_,h,_,_=>by simp at h
 | x :: r,[],a,b,_,h,_,_=>by simp at h
 | x :: r,y :: s,a,b,hab,hrs,hl,hx=>by
  have ih:=eqB_loop r s (a++[x]) (b++[y]) (by simp [hab]) (by simpa using hrs) (by simp at *;omega) (fun z hz=>hx z (by simp [hz]))
  rw [snoc_len] at ih
  simp only [List.append_assoc,List.singleton_append] at ih
  have rb:rd_T30 (b++y :: s) ((a.length:Nat):Int)=y:=by rw [hab];exact rdB b s y
  refine Ev.step (fun k=>rfl) ?_
  simp only [laws_eqSubBindS.l0]
  refine Ev.ifp (lt_app a r x) (Ev.ifp (by omega) (Ev.ifp (by rw [hab];exact lt_app b s y) ?_))
  rw [rdB,rb]
  refine Ev.bind (eqB_one x y (hx x (by simp))) ?_
  by_cases e:x=y
  ·rw [show decide (x=y)=true from decide_eq_true e]
   rw [wnext (by simp at hl;omega)]
   refine Ev.ifp rfl ?_
   rw [show decide (x :: r=y :: s)=decide (r=s) by simp [e]]
   exact ih
  ·rw [show decide (x=y)=false from decide_eq_false e,show decide (x :: r=y :: s)=false by simp [e]]
   exact Ev.ifn (by simp) (Ev.now _)

theorem eqB_ev (s t:List Bind) (h:s.length≤1048576) (hs:∀ b ∈ s,b.f1.length≤1048576):Ev (fun k=>laws_eqSubBindS.f k s t) (decide (s=t)):=by
 unfold laws_eqSubBindS.f
 by_cases e:(s.length:Int)=(t.length:Int)
 ·exact Ev.ifp e (eqB_loop s t [] [] rfl (by omega) (by simp;omega) hs)
 ·have:s≠t:=fun h=>e (by rw [h])
  rw [decide_eq_false this]
  exact Ev.ifn e (Ev.now _)
end Go.Proofs.YtlaicnoikeieeaaDoor.P
