/- What the laws' own helpers do to cells: sizes, copies, equality, marks. -/
import Derived.Test.YtlhniagacegbeaaDoorP10
import Derived.Test.YtlhniagacegbeaaDoorP11
import Derived.Test.YtlhniagacegbeaaDoorP10
import Derived.Test.YtlhniagacegbeaaDoorMBase
namespace Go.Proofs.YtlhniagacegbeaaDoor.P
set_option linter.unusedVariables false
set_option linter.unusedSimpArgs false
open Go.RowKit Go.Proofs.YtlhniagacegbeaaDoor.Cat Go.Proofs.YtlhniagacegbeaaDoorW.PrintWords Go.Proofs.YtlhniagacegbeaaDoorW.PrintLast

/-- what holds of a law's argument: no list and no name is too long for Go -/
def Room (l:List Cell):Prop:=l.length≤9223372036854775807∧∀ c ∈ l,c.f2.size≤9223372036854775807

theorem sz_one (c:Cell) (left:Int) (h0:0≤left) (h1:left≤1048576) (hc:c.f2.size≤9223372036854775807) :
  laws_szTrmCell.f c.f0 c.f1 c.f2 left=some (if left - c.f2.size<0 then -1 else left - c.f2.size):=by
 unfold laws_szTrmCell.f
 rw [w64 (by omega) (by omega)]
 split <;> rfl

theorem sz_loop:∀ (r a:List Cell) (left:Int),0≤left→left≤1048576→Room (a++r)→
  ∃ q,Ev (fun k=>laws_szTrmCellS.l0 k (a++r) left ((a.length:Nat):Int)) q∧q≤left∧(q<0∨(0≤q∧∀ c ∈ r,(c.f2.size:Int)≤left))
 | [],a,left,h0,h1,hr=>by
  refine ⟨left,Ev.step (f:=fun _=>some left) (fun k=>?_) (Ev.now _),by omega,.inr ⟨h0,by simp⟩⟩
  simp only [laws_szTrmCellS.l0]
  rw [if_neg (not_lt_app a)]
 | c :: r,a,left,h0,h1,hr=>by
  have hl:a.length≤9223372036854775806:=by have:=hr.1;simp at this;omega
  have hs:=sz_one c left h0 h1 (hr.2 c (by simp))
  by_cases hn:left - c.f2.size<0
  ·rw [if_pos hn] at hs
   refine ⟨-1,Ev.step (f:=fun _=>some (-1)) (fun k=>?_) (Ev.now _),by omega,.inl (by omega)⟩
   simp only [laws_szTrmCellS.l0]
   rw [if_pos (lt_app a r c),if_pos (by omega),rdC',hs]
   simp only [Option.bind_some]
   rw [if_pos (by omega)]
  ·rw [if_neg hn] at hs
   have e:(a++[c])++r=a++c :: r:=by simp
   obtain ⟨q,hq,hq1,hq2⟩:=sz_loop r (a++[c]) (left - c.f2.size) (by omega) (by omega) (by rw [e];exact hr)
   rw [e,snoc_len] at hq
   refine ⟨q,Ev.step (fun k=>?_) hq,by omega,?_⟩
   ·simp only [laws_szTrmCellS.l0]
    rw [if_pos (lt_app a r c),if_pos (by omega),rdC',hs]
    simp only [Option.bind_some]
    rw [if_neg (by omega),wnext hl]
   ·rcases hq2 with hq2|⟨hq2,hq3⟩
    ·exact .inl hq2
    ·refine .inr ⟨hq2,fun d hd=>?_⟩
     rcases List.mem_cons.1 hd with rfl|hd
     ·omega
     ·have:=hq3 d hd;omega

/-- the same: what is left, with the places counted -/
theorem sz_sum_loop:∀ (r a:List Cell) (left:Int),0≤left→left≤1048576→Room (a++r)→
  ∃ q,Ev (fun k=>laws_szTrmCellS.l0 k (a++r) left ((a.length:Nat):Int)) q∧q≤left
 | r,a,left,h0,h1,hr=>by
  obtain ⟨q,hq,hq1,_⟩:=sz_loop r a left h0 h1 hr
  exact ⟨q,hq,hq1⟩
theorem sz_sum (l:List Cell) (left:Int) (h0:0≤left) (h1:left≤1048576) (hr:Room l) :
  ∃ q,Ev (fun k=>laws_szTrmCellS.f k l left) q∧q≤left∧(0≤q→q+(l.length:Int)≤left):=by
 have hl:=hr.1
 have hw:wrap64 (left - (l.length:Int))=left - l.length:=w64 (by omega) (by omega)
 by_cases hn:left - (l.length:Int)<0
 ·refine ⟨-1,Ev.all (fun k=>?_),by omega,by omega⟩
  unfold laws_szTrmCellS.f
  rw [hw,if_pos hn]
 ·obtain ⟨q,hq,hq1⟩:=sz_sum_loop l [] (left - l.length) (by omega) (by omega) hr
  refine ⟨q,Ev.congr (fun k=>?_) hq,by omega,fun h=>by omega⟩
  unfold laws_szTrmCellS.f
  rw [hw,if_neg hn]
  rfl

theorem to_one (c:Cell):laws_toTrmCell.f c.f0 c.f1 c.f2=some (c.f0,c.f1,c.f2):=rfl

theorem to_loop (B:Nat) (hB:B≤9223372036854775806):∀ (r a:List Cell) (n:Nat),r.length=n→a.length+n≤B→
  Ev (fun k=>laws_toTrmCellS.l0 k (a++r) (a++List.replicate n z44) ((a.length:Nat):Int)) (a++r)
 | [],a,n,hn,hb=>by
  subst hn
  refine Ev.step (f:=fun _=>some (a++[])) (fun k=>?_) (Ev.now _)
  simp only [laws_toTrmCellS.l0]
  rw [if_neg (not_lt_app a)]
  simp
 | c :: r,a,n,hn,hb=>by
  obtain ⟨m,rfl⟩:∃ m,n=m+1:=⟨n - 1,by simp at hn;omega⟩
  have ih:=to_loop B hB r (a++[c]) m (by simpa using hn) (by simp;omega)
  rw [snoc_len] at ih
  simp only [List.append_assoc,List.singleton_append] at ih
  refine Ev.step (fun k=>?_) ih
  simp only [laws_toTrmCellS.l0]
  rw [if_pos (lt_app a r c),if_pos (by omega),rdC',to_one]
  simp only [Option.bind_some]
  rw [List.replicate_succ,if_pos (lt_app a _ _),setC,wnext (by omega)]

theorem to_ev (l:List Cell) (h:l.length≤1048576):Ev (fun k=>laws_toTrmCellS.f k l) l:=by
 refine Ev.congr (fun k=>?_) (to_loop 1048576 (by omega) l [] l.length rfl (by simpa using h))
 unfold laws_toTrmCellS.f
 rw [if_pos (by omega),if_pos (by simp;omega)]
 simp

theorem eq_one (c d:Cell):laws_eqTrmCell.f c.f0 c.f1 c.f2 d.f0 d.f1 d.f2=some (decide (c=d)):=by
 unfold laws_eqTrmCell.f
 by_cases h0:c.f0=d.f0
 ·rw [if_pos h0]
  by_cases h1:c.f1=d.f1
  ·rw [if_pos h1]
   by_cases h2:c.f2.toList=d.f2.toList
   ·rw [if_pos h2]
    have:c.f2=d.f2:=ba_ext (by simpa [Lib.toList_data] using h2)
    rw [Cell.ext' h0 h1 this];simp
   ·rw [if_neg h2]
    have:c≠d:=fun e=>h2 (by rw [e])
    simp [this]
  ·rw [if_neg h1]
   have:c≠d:=fun e=>h1 (by rw [e])
   simp [this]
 ·rw [if_neg h0]
  have:c≠d:=fun e=>h0 (by rw [e])
  simp [this]

theorem eq_loop:∀ (r s a b:List Cell),a.length=b.length→r.length=s.length→a.length+r.length≤9223372036854775806→
  Ev (fun k=>laws_eqTrmCellS.l0 k (a++r) (b++s) ((a.length:Nat):Int)) (decide (r=s))
 | [],s,a,b,hab,hrs,hl=>by
  have:s=[]:=by cases s with
   | nil=>rfl
   | cons=>simp at hrs
  subst this
  refine Ev.step (f:=fun _=>some true) (fun k=>?_) (by simpa using Ev.now true)
  simp only [laws_eqTrmCellS.l0]
  rw [if_neg (not_lt_app a)]
 | c :: r,[],a,b,hab,hrs,hl=>by simp at hrs
 | c :: r,d :: s,a,b,hab,hrs,hl=>by
  have e:∀ k,laws_eqTrmCellS.l0 (k+1) (a++c :: r) (b++d :: s) ((a.length:Nat):Int)=if c=d then laws_eqTrmCellS.l0 k (a++c :: r) (b++d :: s) ((a.length+1:Nat):Int) else some false:=by
   intro k
   simp only [laws_eqTrmCellS.l0]
   rw [if_pos (lt_app a r c),if_pos (by omega),if_pos (by rw [hab];exact lt_app b s d),rdC]
   conv=>lhs;rw [show ((a.length:Nat):Int)=((b.length:Nat):Int) by rw [hab]]
   rw [rdC,eq_one]
   simp only [Option.bind_some,decide_eq_true_eq]
   rw [wnext (by simp at hl;omega),hab]
  by_cases h:c=d
  ·subst h
   have ih:=eq_loop r s (a++[c]) (b++[c]) (by simp [hab]) (by simpa using hrs) (by simp at hl ⊢;omega)
   rw [snoc_len] at ih
   simp only [List.append_assoc,List.singleton_append] at ih
   have e2:decide (c :: r=c :: s)=decide (r=s):=by simp
   rw [e2]
   refine Ev.step (fun k=>?_) ih
   rw [e,if_pos rfl]
  ·refine Ev.step (f:=fun _=>some false) (fun k=>?_) (by simpa [h] using Ev.now false)
   rw [e,if_neg h]

theorem eq_ev (l m:List Cell) (h:l.length≤1048576):Ev (fun k=>laws_eqTrmCellS.f k l m) (decide (l=m)):=by
 by_cases hl:l.length=m.length
 ·refine Ev.congr (fun k=>?_) (eq_loop l m [] [] rfl hl (by simp;omega))
  unfold laws_eqTrmCellS.f
  rw [if_pos (by omega)]
  rfl
 ·have:l≠m:=fun e=>hl (by rw [e])
  refine Ev.all (fun k=>?_)
  unfold laws_eqTrmCellS.f
  rw [if_neg (by omega)]
  simp [this]

end Go.Proofs.YtlhniagacegbeaaDoor.P
