/- What the program's and the reference's functions on terms answer. -/
import Derived.Test.YtlhniagacegbeaaDoorMBase
import Derived.Test.YtlhniagacegbeaaDoorP1
import Derived.Test.YtlhniagacegbeaaDoorP1
import Derived.Test.YtlhniagacegbeaaDoorP1
import Derived.Test.YtlhniagacegbeaaDoorP5
namespace Go.Proofs.YtlhniagacegbeaaDoor.P
set_option linter.unusedVariables false
set_option linter.unusedSimpArgs false
open Go.RowKit Go.Proofs.YtlhniagacegbeaaDoor.Cat Go.Proofs.YtlhniagacegbeaaDoorW.PrintWords Go.Proofs.YtlhniagacegbeaaDoorW.PrintLast
theorem sin_pure (a b c:Int):spec_l1In.f a b c=some (decide (b≤a∧a≤c)):=by
 unfold spec_l1In.f
 by_cases h:a≥b
 ·rw [if_pos h]
  have:b≤a:=h
  simp [this]
 ·rw [if_neg h]
  have:¬ b≤a:=h
  simp [this]
theorem btC (s:ByteArray) (a r:List UInt8) (c:UInt8) (h:s.data.toList=a++c :: r):bt s ((a.length:Nat):Int)=(c.toNat:Int):=by
 have hs:s.size=(a++c :: r).length:=by rw [← h,Array.length_toList];rfl
 have hl:a.length<s.size:=by rw [hs];simp
 unfold bt
 have e:(((a.length:Nat):Int)).toNat=a.length:=by omega
 rw [dif_pos (by rw [e];exact hl)]
 have g:s.data.toList[a.length]?=some c:=by rw [h];simp
 have g2:s[((a.length:Nat):Int).toNat]'(by rw [e];exact hl)=c:=by
  have hb:a.length<s.data.size:=hl
  rw [Array.getElem?_toList,Array.getElem?_eq_getElem hb] at g
  have g3:=Option.some.inj g
  rw [← g3]
  simp only [e]
  rfl
 rw [g2]
theorem name_loop (s:ByteArray) (hs:s.size≤8):∀ (r a:List UInt8),s.data.toList=a++r→
  Ev (fun k=>spec_l1Name.l0 k s ((a.length:Nat):Int)) (r.all (fun b=>decide (97≤b.toNat∧b.toNat≤122))):=by
 intro r
 induction r with
 | nil=>
  intro a h
  have hsz:s.size=a.length:=by have:=congrArg List.length h;rw [Array.length_toList] at this;simpa using this
  refine Ev.step (fun k=>rfl) ?_
  simp only [spec_l1Name.l0]
  exact Ev.ifn (by omega) (Ev.now _)
 | cons c r ih=>
  intro a h
  have hsz:s.size=a.length+(r.length+1):=by have:=congrArg List.length h;rw [Array.length_toList] at this;simpa using this
  have hb:=btC s a r c h
  refine Ev.step (fun k=>rfl) ?_
  simp only [spec_l1Name.l0]
  refine Ev.ifp (by omega) (Ev.ifp (by omega) ?_)
  rw [hb,List.all_cons]
  by_cases h1:(c.toNat:Int)<97
  ·refine Ev.ifp h1 (Ev.pure ?_)
   rw [decide_eq_false (by omega),Bool.false_and]
  refine Ev.ifn h1 ?_
  by_cases h2:(c.toNat:Int) > 122
  ·refine Ev.ifp h2 (Ev.pure ?_)
   rw [decide_eq_false (by omega),Bool.false_and]
  refine Ev.ifn h2 ?_
  have I:=ih (a++[c]) (by simpa using h)
  rw [snoc_len] at I
  rw [decide_eq_true (by omega),Bool.true_and,wnext (by omega)]
  exact I
theorem name_ev (s:ByteArray):Ev (fun k=>spec_l1Name.f k s) (Cat.nameOk s):=by
 have hs:s.data.toList.length=s.size:=by rw [Array.length_toList];rfl
 unfold spec_l1Name.f Cat.nameOk Cat.nameOkL
 rw [hs]
 have T:∀ b:Bool,b=true→(decide (1≤s.size∧s.size≤8) && s.data.toList.all (fun b=>decide (97≤b.toNat∧b.toNat≤122)) && !(s.data.toList == [97,110,100]))=false→Ev (fun k=>spec_l1Name.j0 k s b) (decide (1≤s.size∧s.size≤8) && s.data.toList.all (fun b=>decide (97≤b.toNat∧b.toNat≤122)) && !(s.data.toList == [97,110,100])):=by
  intro b hb h
  rw [h,hb]
  refine Ev.step (fun k=>rfl) ?_
  simp only [spec_l1Name.j0]
  exact Ev.ifp (by simp) (Ev.now _)
 by_cases h0:(s.size:Int)=0
 ·exact Ev.ifp h0 (T true rfl (by rw [decide_eq_false (by omega),Bool.false_and,Bool.false_and]))
 refine Ev.ifn h0 ?_
 by_cases h8:(s.size:Int) > 8
 ·exact Ev.ifp h8 (T true rfl (by rw [decide_eq_false (by omega),Bool.false_and,Bool.false_and]))
 refine Ev.ifn h8 ?_
 rw [ByteArray.toList_eq]
 by_cases ha:(s.data.toList == [97,110,100])=true
 ·exact T _ ha (by rw [ha];simp)
 ·have ha':(s.data.toList == [97,110,100])=false:=by simpa using ha
  rw [ha']
  refine Ev.step (fun k=>rfl) ?_
  simp only [spec_l1Name.j0]
  refine Ev.ifn (by simp) ?_
  have I:=name_loop s (by omega) s.data.toList [] (by simp)
  rw [decide_eq_true (by omega),Bool.true_and,Bool.not_false,Bool.and_true]
  exact I
theorem cell_ev (c:Cell):Ev (fun k=>spec_l1Cell.f k c.f0 c.f1 c.f2) (Cat.cellOk c):=by
 unfold spec_l1Cell.f Cat.cellOk
 simp only [sin_pure,Option.bind_some,ByteArray.toList_eq]
 have e:∀ l:List UInt8,(l == [])=l.isEmpty:=by intro l;cases l <;> rfl
 by_cases h1:c.f0=1
 ·refine Ev.ifp h1 ?_
  rw [if_pos h1]
  by_cases h:(0:Int)≤c.f1∧c.f1≤99999
  ·exact Ev.ifp (by simpa using h) (Ev.pure (by rw [e,decide_eq_true h,Bool.true_and]))
  ·exact Ev.ifn (by simpa using h) (Ev.pure (by rw [decide_eq_false h,Bool.false_and]))
 refine Ev.ifn h1 ?_
 rw [if_neg h1]
 by_cases h2:c.f0=2
 ·refine Ev.ifp h2 ?_
  rw [if_pos h2]
  by_cases h:(-9999:Int)≤c.f1∧c.f1≤9999
  ·exact Ev.ifp (by simpa using h) (Ev.pure (by rw [e,decide_eq_true h,Bool.true_and]))
  ·exact Ev.ifn (by simpa using h) (Ev.pure (by rw [decide_eq_false h,Bool.false_and]))
 refine Ev.ifn h2 ?_
 rw [if_neg h2]
 by_cases h3:c.f0=3
 ·refine Ev.ifp h3 ?_
  rw [if_pos h3]
  by_cases h:(0:Int)≤c.f1∧c.f1≤3
  ·refine Ev.ifp (by simpa using h) (Ev.bind (name_ev c.f2) (Ev.pure ?_))
   rw [decide_eq_true h,Bool.true_and]
  ·exact Ev.ifn (by simpa using h) (Ev.pure (by rw [decide_eq_false h,Bool.false_and]))
 refine Ev.ifn h3 ?_
 rw [if_neg h3]
 exact Ev.now _
def endAt (l:List Cell) (m:Nat) (r:List Cell):Int:=match skip m r with
 | some s=>((l.length - s.length:Nat):Int)
 | none=>-1
theorem end_loop:∀ (r a:List Cell) (m:Nat),(a++r).length≤1099511627776→okl (a++r)→m≤1+3 * a.length→
  Ev (fun k=>spec_l1End.l0 k (a++r) (m:Int) ((a.length:Nat):Int)) (endAt (a++r) m r):=by
 intro r
 induction r with
 | nil=>
  intro a m hl ho hm
  refine Ev.step (fun k=>rfl) ?_
  simp only [spec_l1End.l0]
  unfold endAt
  cases m with
  | zero=>
   rw [skip_zero]
   exact Ev.ifn (by omega) (Ev.pure (by simp))
  | succ n=>
   rw [skip_nil]
   refine Ev.ifp (by omega) (Ev.ifn (by omega) (Ev.step (fun k=>rfl) ?_))
   simp only [spec_l1End.j1]
   exact Ev.ifp (by simp) (Ev.now _)
 | cons c r ih=>
  intro a m hl ho hm
  refine Ev.step (fun k=>rfl) ?_
  simp only [spec_l1End.l0]
  cases m with
  | zero=>
   unfold endAt
   rw [skip_zero]
   exact Ev.ifn (by omega) (Ev.pure (by simp))
  | succ n=>
   have hll:a.length+(r.length+1)≤1099511627776:=by simpa using hl
   have hc:cellOk c=true:=ho c (by simp)
   obtain ⟨h1,h2⟩:=cellOk_ar hc
   have e:(a++[c])++r=a++c :: r:=by simp
   have I:=ih (a++[c]) (n+ar c) (by rw [e];exact hl) (by rw [e];exact ho) (by simp;omega)
   have E:endAt (a++c :: r) (n+1) (c :: r)=endAt (a++c :: r) (n+ar c) r:=by unfold endAt;rw [skip_cons]
   rw [e,snoc_len] at I
   rw [E]
   have hlt:=lt_app a r c
   refine Ev.ifp (by omega) (Ev.ifn (by omega) (Ev.step (fun k=>rfl) ?_))
   simp only [spec_l1End.j1]
   refine Ev.ifn (by rw [decide_eq_false (by omega)];simp) (Ev.ifp (by omega) (Ev.ifp hlt ?_))
   rw [rdC,wnext (by omega)]
   have e1:wrap64 (((n+1:Nat):Int) - 1)=(n:Int):=by rw [w64 (by omega) (by omega)];omega
   rw [e1]
   by_cases h3:c.f0=3
   ·refine Ev.ifp h3 ?_
    rw [if_pos h3] at h1
    rw [Option.some.inj h1,w64 (by omega) (by omega)]
    exact I
   ·refine Ev.ifn h3 ?_
    rw [if_neg h3] at h1
    have h0:ar c=0:=by have:=Option.some.inj h1;omega
    rw [h0] at I ⊢
    exact I
theorem end_ev (l:List Cell) (a r:List Cell) (h:l=a++r) (hl:l.length≤1099511627776) (ho:okl l):Ev (fun k=>spec_l1End.f k l ((a.length:Nat):Int)) (endAt l 1 r):=by
 subst h
 unfold spec_l1End.f
 exact end_loop r a 1 hl ho (by omega)
theorem trm_loop (l:List Cell) (hl:l.length≤40):∀ (r a:List Cell),l=a++r→okl a→
  Ev (fun k=>spec_TrmOk.l0 k l ((a.length:Nat):Int)) (r.all cellOk && decide (skip 1 l=some [])):=by
 intro r
 induction r with
 | nil=>
  intro a h ho
  have ha:l=a:=by simpa using h
  refine Ev.step (fun k=>rfl) ?_
  simp only [spec_TrmOk.l0]
  refine Ev.ifn (by rw [ha];omega) ?_
  have E:=end_ev l [] l (by simp) (by omega) (by rw [ha];exact ho)
  refine Ev.bind E (Ev.pure ?_)
  rw [List.all_nil,Bool.true_and]
  unfold endAt
  cases hs:skip 1 l with
  | none=>
   show ((-1:Int) == (l.length:Int))=decide ((none:Option (List Cell))=some [])
   rw [beq_eq_false_iff_ne.2 (by omega),decide_eq_false (by simp)]
  | some s=>
   have hle:=skip_len l 1 s hs
   show ((((l.length - s.length:Nat):Int)) == (l.length:Int))=decide (some s=some [])
   cases s with
   | nil=>simp
   | cons d s=>
    have:1≤l.length:=by simp at hle;omega
    rw [beq_eq_false_iff_ne.2 (by simp;omega),decide_eq_false (by simp)]
 | cons c r ih=>
  intro a h ho
  refine Ev.step (fun k=>rfl) ?_
  simp only [spec_TrmOk.l0]
  have hlt:((a.length:Nat):Int)<(l.length:Int):=by rw [h];exact lt_app a r c
  refine Ev.ifp hlt (Ev.ifp (by omega) ?_)
  have hr:rd_T44 l ((a.length:Nat):Int)=c:=by rw [h];exact rdC a r c
  rw [hr,List.all_cons]
  refine Ev.bind (cell_ev c) ?_
  cases hc:cellOk c with
  | false=>exact Ev.ifn (by simp) (Ev.pure (by simp))
  | true=>
   refine Ev.ifp (by simp) ?_
   have I:=ih (a++[c]) (by rw [h];simp) (okl_append.2 ⟨ho,okl_cons.2 ⟨hc,okl_nil⟩⟩)
   rw [snoc_len] at I
   rw [wnext (by omega),Bool.true_and]
   exact I
theorem sok_ev (l:List Cell):Ev (fun k=>spec_TrmOk.f k l) (isTerm l):=by
 unfold spec_TrmOk.f
 have T:∀ b:Bool,b=true→isTerm l=false→Ev (fun k=>spec_TrmOk.j0 k l b) (isTerm l):=by
  intro b hb h
  rw [h,hb]
  refine Ev.step (fun k=>rfl) ?_
  simp only [spec_TrmOk.j0]
  exact Ev.ifp (by simp) (Ev.now _)
 by_cases h0:(l.length:Int)=0
 ·exact Ev.ifp h0 (T true rfl (by unfold isTerm;rw [decide_eq_false (by omega),Bool.false_and]))
 refine Ev.ifn h0 ?_
 by_cases h1:(l.length:Int) > 40
 ·exact T _ (decide_eq_true h1) (by unfold isTerm;rw [decide_eq_false (by omega),Bool.false_and])
 rw [decide_eq_false h1]
 refine Ev.step (fun k=>rfl) ?_
 simp only [spec_TrmOk.j0]
 refine Ev.ifn (by simp) ?_
 have I:=trm_loop l (by omega) l [] (by simp) okl_nil
 unfold isTerm
 rw [decide_eq_true (by omega),Bool.true_and]
 exact I
theorem iok (l:List Cell):impl_TrmOk.f l=some (isTerm l):=rfl
theorem isTerm_iff {l:List Cell}:isTerm l=true↔1≤l.length∧l.length≤40∧okl l∧Forest 1 l:=by
 unfold isTerm Forest okl
 simp only [Bool.and_eq_true,decide_eq_true_eq,List.all_eq_true]
 constructor
 ·rintro ⟨⟨a,b⟩,c,d⟩;exact ⟨a,b,c,d⟩
 ·rintro ⟨a,b,c,d⟩;exact ⟨⟨a,b⟩,c,d⟩
end Go.Proofs.YtlhniagacegbeaaDoor.P
