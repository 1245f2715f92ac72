/- What the reference and the program read: of a text the term that has it, or nothing. -/
import Derived.Test.YtlhniagacegbeaaDoorMTxtI
import Derived.Test.YtlhniagacegbeaaDoorMRead
import Derived.Test.YtlhniagacegbeaaDoorP3
import Derived.Test.YtlhniagacegbeaaDoorP3
import Derived.Test.YtlhniagacegbeaaDoorP3
namespace Go.Proofs.YtlhniagacegbeaaDoor.P
set_option linter.unusedVariables false
set_option linter.unusedSimpArgs false
open Go.RowKit Go.Proofs.YtlhniagacegbeaaDoor.Cat Go.Proofs.YtlhniagacegbeaaDoorW.PrintWords Go.Proofs.YtlhniagacegbeaaDoorW.PrintLast Go.Lib
theorem sz_app {s:ByteArray} {a w:List UInt8} (h:s.data.toList=a++w):(s.size:Int)=(a.length:Int)+w.length:=by
 have:s.size=s.data.toList.length:=by rw [Array.length_toList];rfl
 rw [this,h,List.length_append];omega
theorem digits_ev (s:ByteArray) (hs:s.size≤1099511627776):∀ (w a:List UInt8),s.data.toList=a++w→Ev (fun k=>spec_l1Digits.f k s ((a.length:Nat):Int)) (((a.length+(w.takeWhile isDig).length:Nat)):Int)
 | [],a,h=>by
  have hz:=sz_app h
  unfold spec_l1Digits.f
  refine Ev.step (fun k=>rfl) ?_
  simp only [spec_l1Digits.l0]
  refine Ev.ifn (by simp at hz;omega) ?_
  refine Ev.step (fun k=>rfl) ?_
  simp only [spec_l1Digits.j1]
  exact Ev.ifn (by simp) (Ev.pure (by simp))
 | c :: w,a,h=>by
  have hz:=sz_app h
  simp only [List.length_cons] at hz
  have hb:=btC s a w c h
  have ih:=digits_ev s hs w (a++[c]) (by rw [h];simp)
  unfold spec_l1Digits.f at ih ⊢
  refine Ev.step (fun k=>rfl) ?_
  simp only [spec_l1Digits.l0]
  refine Ev.ifp (by omega) (Ev.ifp (by omega) ?_)
  rw [hb]
  have hj:∀ b:Bool,b=isDig c→Ev (fun k=>spec_l1Digits.j1 k s ((a.length:Nat):Int) b) (((a.length+((c :: w).takeWhile isDig).length:Nat)):Int):=by
   intro b hbb
   refine Ev.step (fun k=>rfl) ?_
   simp only [spec_l1Digits.j1]
   rw [List.takeWhile_cons]
   cases hd:isDig c with
   | true=>
    refine Ev.ifp (by rw [hbb,hd]) ?_
    rw [wnext (by omega)]
    rw [snoc_len] at ih
    simp only [if_true,List.length_cons]
    rw [show a.length+1+(w.takeWhile isDig).length=a.length+((w.takeWhile isDig).length+1) by omega] at ih
    exact ih
   | false=>
    refine Ev.ifn (by rw [hbb,hd];simp) (Ev.pure ?_)
    simp
  by_cases h1:(c.toNat:Int)≥48
  ·refine Ev.ifp h1 (hj _ ?_)
   unfold isDig
   congr 1
   exact propext (by omega)
  ·refine Ev.ifn h1 (hj _ ?_)
   unfold isDig
   rw [decide_eq_false (by omega)]
theorem num_any (s:ByteArray) (hs:s.size≤1099511627776):∀ (w a:List UInt8) (x:Int),s.data.toList=a++w→∃ v,Ev (fun k=>spec_l1Num.l0 k s x ((a.length:Nat):Int)) v
 | [],a,x,h=>by
  have hz:=sz_app h
  refine ⟨x,Ev.step (fun k=>rfl) ?_⟩
  simp only [spec_l1Num.l0]
  exact Ev.ifn (by simp at hz;omega) (Ev.now _)
 | c :: w,a,x,h=>by
  have hz:=sz_app h
  simp only [List.length_cons] at hz
  obtain ⟨v,ih⟩:=num_any s hs w (a++[c]) (wrap64 ((wrap64 (x * 10))+(((bt s ((a.length:Nat):Int)) - 48) % 256))) (by rw [h];simp)
  refine ⟨v,Ev.step (fun k=>rfl) ?_⟩
  simp only [spec_l1Num.l0]
  refine Ev.ifp (by omega) (Ev.ifp (by omega) ?_)
  rw [wnext (by omega)]
  rw [snoc_len] at ih
  exact ih
theorem numf_any (s:ByteArray) (hs:s.size≤1099511627776):∃ v,Ev (fun k=>spec_l1Num.f k s) v:=by
 obtain ⟨v,hv⟩:=num_any s hs s.data.toList [] 0 rfl
 have hj:∀ b:Bool,∃ v,Ev (fun k=>spec_l1Num.j0 k s b) v:=by
  intro b
  cases b with
  | true=>exact ⟨-1,Ev.step (fun k=>rfl) (by simp only [spec_l1Num.j0];exact Ev.ifp (by simp) (Ev.now _))⟩
  | false=>exact ⟨v,Ev.step (fun k=>rfl) (by simp only [spec_l1Num.j0];exact Ev.ifn (by simp) hv)⟩
 unfold spec_l1Num.f
 by_cases h:(s.size:Int)=0
 ·obtain ⟨v,hv⟩:=hj true
  exact ⟨v,Ev.ifp h hv⟩
 ·obtain ⟨v,hv⟩:=hj (decide ((s.size:Int) > 5))
  exact ⟨v,Ev.ifn h hv⟩
theorem lets_ev (s:ByteArray) (hs:s.size≤1099511627776) (i:Nat):∀ (w a:List UInt8),s.data.toList=a++w→i≤a.length→Ev (fun k=>spec_l1Take.l0 k s (i:Int) ((a.length:Nat):Int)) (3,0,s.extract i (a.length+(w.takeWhile isLet).length),((a.length+(w.takeWhile isLet).length:Nat):Int))
 | [],a,h,hi=>by
  have hz:=sz_app h
  refine Ev.step (fun k=>rfl) ?_
  simp only [spec_l1Take.l0]
  refine Ev.ifn (by simp at hz;omega) ?_
  refine Ev.step (fun k=>rfl) ?_
  simp only [spec_l1Take.j2]
  refine Ev.ifn (by simp) (Ev.ifp (by omega) (Ev.ifp (by omega) (Ev.ifp (by simp at hz;omega) (Ev.pure (by simp)))))
 | c :: w,a,h,hi=>by
  have hz:=sz_app h
  simp only [List.length_cons] at hz
  have hb:=btC s a w c h
  have ih:=lets_ev s hs i w (a++[c]) (by rw [h];simp) (by simp;omega)
  refine Ev.step (fun k=>rfl) ?_
  simp only [spec_l1Take.l0]
  refine Ev.ifp (by omega) (Ev.ifp (by omega) ?_)
  rw [hb]
  have hj:∀ b:Bool,b=isLet c→Ev (fun k=>spec_l1Take.j2 k s (i:Int) ((a.length:Nat):Int) b) (3,0,s.extract i (a.length+((c :: w).takeWhile isLet).length),((a.length+((c :: w).takeWhile isLet).length:Nat):Int)):=by
   intro b hbb
   refine Ev.step (fun k=>rfl) ?_
   simp only [spec_l1Take.j2]
   rw [List.takeWhile_cons]
   cases hd:isLet c with
   | true=>
    refine Ev.ifp (by rw [hbb,hd]) ?_
    rw [wnext (by omega)]
    rw [snoc_len] at ih
    simp only [if_true,List.length_cons]
    rw [show a.length+1+(w.takeWhile isLet).length=a.length+((w.takeWhile isLet).length+1) by omega] at ih
    exact ih
   | false=>
    refine Ev.ifn (by rw [hbb,hd];simp) (Ev.ifp (by omega) (Ev.ifp (by omega) (Ev.ifp (by omega) (Ev.pure (by simp)))))
  by_cases h1:(c.toNat:Int)≥97
  ·refine Ev.ifp h1 (hj _ ?_)
   unfold isLet
   congr 1
   exact propext (by omega)
  ·refine Ev.ifn h1 (hj _ ?_)
   unfold isLet
   rw [decide_eq_false (by omega)]
theorem tw_le {p:UInt8→Bool} (w:List UInt8):(w.takeWhile p).length≤w.length:=(List.takeWhile_sublist (p:=p) (l:=w)).length_le
theorem take_any (s:ByteArray) (hs:s.size≤1099511627776) (a w:List UInt8) (c:UInt8) (h:s.data.toList=a++c :: w) :
  ∃ (c0 c1:Int) (c2:ByteArray) (kk:Nat),Ev (fun k=>spec_l1Take.f k s ((a.length:Nat):Int)) (c0,c1,c2,(kk:Int))∧a.length≤kk∧kk≤s.size:=by
 have hz:=sz_app h
 simp only [List.length_cons] at hz
 have hb:=btC s a w c h
 have hd:=digits_ev s hs w (a++[c]) (by rw [h];simp)
 rw [snoc_len] at hd
 have hd0:=digits_ev s hs (c :: w) a h
 have hl:=lets_ev s hs a.length (c :: w) a h (Nat.le_refl _)
 have t1:=tw_le (p:=isDig) w
 have t0:=tw_le (p:=isDig) (c :: w)
 have tl:=tw_le (p:=isLet) (c :: w)
 simp only [List.length_cons] at t0 tl
 unfold spec_l1Take.f
 have hsub:∀ i j:Nat,(s.extract i j).size≤1099511627776:=fun i j=>by
  have:(s.extract i j).size=(s.extract i j).data.toList.length:=by rw [Array.length_toList];rfl
  rw [this,Lib.extract_data,List.length_take,List.length_drop,← Lib.size_eq];omega
 have hw1:wrap64 ((a.length:Int)+1)=((a.length+1:Nat):Int):=wnext (by omega)
 have hz2:¬ ((a.length:Int)≥(s.size:Int)):=by omega
 rw [hw1,hb]
 by_cases h88:(c.toNat:Int)=88
 ·obtain ⟨v,hv⟩:=numf_any (s.extract (a.length+1) (a.length+1+(w.takeWhile isDig).length)) (hsub _ _)
  refine ⟨1,v,⟨#[]⟩,a.length+1+(w.takeWhile isDig).length,?_,by omega,by omega⟩
  exact Ev.ifn hz2 (Ev.ifp (by omega) (Ev.ifp (by omega) (Ev.ifp h88 (Ev.bind hd (Ev.ifp (by omega) (Ev.ifp (by omega) (Ev.ifp (by omega) (Ev.bind hv (Ev.now _)))))))))
 by_cases h45:(c.toNat:Int)=45
 ·obtain ⟨v,hv⟩:=numf_any (s.extract (a.length+1) (a.length+1+(w.takeWhile isDig).length)) (hsub _ _)
  refine ⟨2,wrap64 (-v),⟨#[]⟩,a.length+1+(w.takeWhile isDig).length,?_,by omega,by omega⟩
  exact Ev.ifn hz2 (Ev.ifp (by omega) (Ev.ifp (by omega) (Ev.ifn h88 (Ev.ifp h45 (Ev.bind hd (Ev.ifp (by omega) (Ev.ifp (by omega) (Ev.ifp (by omega) (Ev.bind hv (Ev.now _))))))))))
 have hj:∀ b:Bool,∃ (c0 c1:Int) (c2:ByteArray) (kk:Nat),Ev (fun k=>spec_l1Take.j0 k s ((a.length:Nat):Int) b) (c0,c1,c2,(kk:Int))∧a.length≤kk∧kk≤s.size:=by
  intro b
  cases b with
  | true=>
   obtain ⟨v,hv⟩:=numf_any (s.extract a.length (a.length+((c :: w).takeWhile isDig).length)) (hsub _ _)
   refine ⟨2,v,⟨#[]⟩,a.length+((c :: w).takeWhile isDig).length,Ev.step (fun k=>rfl) ?_,by omega,by omega⟩
   simp only [spec_l1Take.j0]
   exact Ev.ifp (by simp) (Ev.bind hd0 (Ev.ifp (by omega) (Ev.ifp (by omega) (Ev.ifp (by omega) (Ev.bind hv (Ev.now _))))))
  | false=>
   refine ⟨3,0,s.extract a.length (a.length+((c :: w).takeWhile isLet).length),a.length+((c :: w).takeWhile isLet).length,Ev.step (fun k=>rfl) ?_,by omega,by omega⟩
   simp only [spec_l1Take.j0]
   exact Ev.ifn (by simp) hl
 by_cases h48:(c.toNat:Int)≥48
 ·obtain ⟨c0,c1,c2,kk,hv,h1,h2⟩:=hj (decide ((c.toNat:Int)≤57))
  exact ⟨c0,c1,c2,kk,Ev.ifn hz2 (Ev.ifp (by omega) (Ev.ifp (by omega) (Ev.ifn h88 (Ev.ifn h45 (Ev.ifp h48 hv))))),h1,h2⟩
 ·obtain ⟨c0,c1,c2,kk,hv,h1,h2⟩:=hj false
  exact ⟨c0,c1,c2,kk,Ev.ifn hz2 (Ev.ifp (by omega) (Ev.ifp (by omega) (Ev.ifn h88 (Ev.ifn h45 (Ev.ifn h48 hv))))),h1,h2⟩
def Stop2 (v:List UInt8):Prop:=v=[]∨v.head?=some 40∨v.head?=some 44∨v.head?=some 41
theorem Stop2.at_ {v:List UInt8} (h:Stop2 v):∀ x,v.head?=some x→isDig x=false∧isLet x=false:=by
 intro x hx
 rcases h with rfl|h|h|h
 ·cases hx
 ·rw [h] at hx;cases hx;decide
 ·rw [h] at hx;cases hx;decide
 ·rw [h] at hx;cases hx;decide
def bare (c:Cell):Cell:=if c.f0=3 then ⟨3,0,c.f2⟩ else c
def fin (s:ByteArray) (O:List Cell):List Cell × Bool:=if (textB O).data.toList=s.data.toList then (if s.data.toList=[] then ([],false) else (O,true)) else ([],false)
theorem fin_ev (s:ByteArray) (O:List Cell):Ev (fun k=>(spec_TrmText.f k O).bind fun t209=>(if t209.toList=s.toList then (if s.toList=([]:List UInt8) then (some ((([]:List Cell)),false)) else (some (O,true))) else (some ((([]:List Cell)),false)))) (fin s O):=by
 refine Ev.bind (stext_ev O) ?_
 simp only [ByteArray.toList_eq]
 by_cases h:(textB O).data.toList=s.data.toList
 ·by_cases h0:s.data.toList=[]
  ·have e:fin s O=([],false):=by unfold fin;rw [if_pos h,if_pos h0]
   rw [e]
   exact Ev.ifp h (Ev.ifp h0 (Ev.now _))
  ·have e:fin s O=(O,true):=by unfold fin;rw [if_pos h,if_neg h0]
   rw [e]
   exact Ev.ifp h (Ev.ifn h0 (Ev.now _))
 ·have e:fin s O=([],false):=by unfold fin;rw [if_neg h]
  rw [e]
  exact Ev.ifn h (Ev.now _)
def ReadR (s:ByteArray) (r:List Cell × Bool):Prop:=r=([],false)∨(r.2=true∧(textB r.1).data.toList=s.data.toList∧s.data.toList≠[])
theorem fin_good (s:ByteArray) (O:List Cell):ReadR s (fin s O):=by
 unfold fin
 by_cases h:(textB O).data.toList=s.data.toList
 ·rw [if_pos h]
  by_cases h0:s.data.toList=[]
  ·rw [if_pos h0];exact .inl rfl
  ·rw [if_neg h0];exact .inr ⟨rfl,h,h0⟩
 ·rw [if_neg h];exact .inl rfl
theorem j5_any (s:ByteArray) (hs:s.size≤1099511627776) (O:List Cell) (op:List Nat) (i:Nat) (hi:i≤s.size) (H:∀ i',i≤i'→i'≤s.size→∃ r,Ev (fun k=>spec_TrmRead.l0 k s O (stk op) (i':Int)) r∧ReadR s r) :
  ∃ r,Ev (fun k=>spec_TrmRead.j5 k s O (stk op) (i:Int) false) r∧ReadR s r:=by
 by_cases hlt:i<s.size
 ·by_cases h44:bt s (i:Int)=44
  ·obtain ⟨r,h1,h2⟩:=H (i+1) (by omega) (by omega)
   refine ⟨r,Ev.step (fun k=>rfl) ?_,h2⟩
   simp only [spec_TrmRead.j5]
   refine Ev.ifn (by simp) (Ev.ifp (by omega) (Ev.ifp (by omega) (Ev.ifp h44 ?_)))
   rw [wnext (by omega)]
   exact h1
  ·obtain ⟨r,h1,h2⟩:=H i (Nat.le_refl _) hi
   refine ⟨r,Ev.step (fun k=>rfl) ?_,h2⟩
   simp only [spec_TrmRead.j5]
   exact Ev.ifn (by simp) (Ev.ifp (by omega) (Ev.ifp (by omega) (Ev.ifn h44 h1)))
 ·obtain ⟨r,h1,h2⟩:=H i (Nat.le_refl _) hi
  refine ⟨r,Ev.step (fun k=>rfl) ?_,h2⟩
  simp only [spec_TrmRead.j5]
  exact Ev.ifn (by simp) (Ev.ifn (by omega) h1)
theorem l1_any (s:ByteArray) (hs:s.size≤1099511627776) (O:List Cell):∀ (op:List Nat) (i:Nat),i≤s.size→op.length≤1000→(∀ (op':List Nat) (i':Nat),i≤i'→i'≤s.size→(∀ x ∈ op',x ∈ op)→op'.length≤op.length→∃ r,Ev (fun k=>spec_TrmRead.l0 k s O (stk op') (i':Int)) r∧ReadR s r)→
  ∃ r,Ev (fun k=>spec_TrmRead.l1 k s O (stk op) (i:Int)) r∧ReadR s r
 | [],i,hi,hop,H=>by
  obtain ⟨r,h1,h2⟩:=j5_any s hs O [] i hi (fun i' a b=>H [] i' a b (fun _ h=>h) (Nat.le_refl _))
  refine ⟨r,Ev.step (fun k=>rfl) ?_,h2⟩
  simp only [spec_TrmRead.l1]
  have hd:decide (((stk []).length:Int) > 0)=false:=by simp [stk]
  by_cases hlt:i<s.size
  ·refine Ev.ifp (by omega) (Ev.ifp (by omega) ?_)
   by_cases h41:bt s (i:Int)=41
   ·refine Ev.ifp h41 ?_
    rw [hd]
    exact h1
   ·exact Ev.ifn h41 h1
  ·exact Ev.ifn (by omega) h1
 | x :: op,i,hi,hop,H=>by
  obtain ⟨r,h1,h2⟩:=j5_any s hs O (x :: op) i hi (fun i' a b=>H (x :: op) i' a b (fun _ h=>h) (Nat.le_refl _))
  have hl:((stk (x :: op)).length:Int)=((op.length+1:Nat):Int):=by rw [stk_len];rfl
  have hd:decide (((stk (x :: op)).length:Int) > 0)=true:=by rw [hl];exact decide_eq_true (by omega)
  by_cases hlt:i<s.size
  ·by_cases h41:bt s (i:Int)=41
   ·obtain ⟨r',k1,k2⟩:=l1_any s hs O op (i+1) (by omega) (by simp at hop;omega) (fun op' i' a b c d=>H op' i' (by omega) b (fun y hy=>by simp [c y hy]) (by simp;omega))
    refine ⟨r',Ev.step (fun k=>rfl) ?_,k2⟩
    simp only [spec_TrmRead.l1]
    refine Ev.ifp (by omega) (Ev.ifp (by omega) (Ev.ifp h41 ?_))
    rw [hd]
    refine Ev.step (fun k=>rfl) ?_
    simp only [spec_TrmRead.j5]
    simp only [List.length_cons] at hop
    have hw:wrap64 (((op.length+1:Nat):Int) - 1)=(op.length:Int):=by rw [w64 (by omega) (by omega)];omega
    rw [hl,hw]
    have e1:(stk (x :: op)).take ((op.length:Int)).toNat=stk op:=by
     rw [stk_cons]
     have:=stk_len op
     simp [← this]
    rw [e1,wnext (by omega)]
    exact Ev.ifp (by simp) (Ev.ifp (by omega) (Ev.ifp (by omega) k1))
   ·refine ⟨r,Ev.step (fun k=>rfl) ?_,h2⟩
    simp only [spec_TrmRead.l1]
    exact Ev.ifp (by omega) (Ev.ifp (by omega) (Ev.ifn h41 h1))
  ·refine ⟨r,Ev.step (fun k=>rfl) ?_,h2⟩
   simp only [spec_TrmRead.l1]
   exact Ev.ifn (by omega) h1
def bumpTop:List Nat→List Cell→List Cell
 | [],O=>O
 | i :: _,O=>bump i O
theorem bumpTop_len (op:List Nat) (O:List Cell):(bumpTop op O).length=O.length:=by
 cases op with
 | nil=>rfl
 | cons i op=>exact bump_len i O
theorem bump_is (i:Nat) (O:List Cell) (h:i<O.length):O.set i ⟨(rd_T44 O (i:Int)).f0,wrap64 ((rd_T44 O (i:Int)).f1+1),(rd_T44 O (i:Int)).f2⟩=bump i O:=by
 have e:rd_T44 O (i:Int)=O[i]:=by simp [rd_T44,List.getD,h]
 rw [e]
 unfold Cat.bump
 apply List.ext_getElem?
 intro j
 rw [List.getElem?_modify,List.getElem?_set]
 by_cases e:i=j
 ·subst e;simp [h]
 ·simp [e]
theorem step_ev (s:ByteArray) (O:List Cell) (op:List Nat) (i kk:Nat) (c0 c1:Int) (c2:ByteArray) (r:List Cell × Bool) (hi:i<s.size) (hO:O.length<40) (hop:∀ x ∈ op,x<O.length) (hol:op.length≤40) (hk:i<kk)
  (ht:Ev (fun k=>spec_l1Take.f k s (i:Int)) (c0,c1,c2,(kk:Int))) (h2:Ev (fun k=>spec_TrmRead.j2 k s (bumpTop op O) (stk op) (kk:Int) c0 c1 c2) r):Ev (fun k=>spec_TrmRead.l0 k s O (stk op) (i:Int)) r:=by
 refine Ev.step (fun k=>rfl) ?_
 simp only [spec_TrmRead.l0]
 refine Ev.ifp (by omega) ?_
 refine Ev.step (fun k=>rfl) ?_
 simp only [spec_TrmRead.j1]
 refine Ev.ifp (decide_eq_true (by omega)) (Ev.bind ht (Ev.ifn (by simp;omega) ?_))
 cases op with
 | nil=>exact Ev.ifn (by simp [stk]) h2
 | cons x op=>
  have hl:((stk (x :: op)).length:Int)=((op.length+1:Nat):Int):=by rw [stk_len];rfl
  simp only [List.length_cons] at hol
  have hw:wrap64 (((op.length+1:Nat):Int) - 1)=(op.length:Int):=by rw [w64 (by omega) (by omega)];omega
  have hrd:rd (stk (x :: op)) (op.length:Int)=(x:Int):=by
   rw [stk_cons]
   have:=stk_len op
   simp [rd,List.getD,← this]
  have hx:=hop x (by simp)
  rw [hl,hw,hrd]
  refine Ev.ifp (by omega) (Ev.ifp (by omega) (Ev.ifp (by omega) (Ev.ifp (by omega) (Ev.ifp (by omega) ?_))))
  rw [Int.toNat_natCast,bump_is x O hx]
  exact h2
theorem j2_ev (s:ByteArray) (O:List Cell) (op:List Nat) (kk:Nat) (c0 c1:Int) (c2:ByteArray) (r:List Cell × Bool) (hO:O.length<40) (hkk:kk≤s.size)
  (h:∀ b:Bool,b=(decide (c0=3) && (decide (kk<s.size) && decide (bt s (kk:Int)=40)))→Ev (fun k=>spec_TrmRead.j3 k s (O++[⟨c0,c1,c2⟩]) (stk op) (kk:Int) b) r):Ev (fun k=>spec_TrmRead.j2 k s O (stk op) (kk:Int) c0 c1 c2) r:=by
 refine Ev.step (fun k=>rfl) ?_
 simp only [spec_TrmRead.j2]
 refine Ev.ifp (by omega) (Ev.bindv rfl ?_)
 by_cases h3:c0=3
 ·refine Ev.ifp h3 ?_
  by_cases hlt:kk<s.size
  ·refine Ev.ifp (by omega) (Ev.ifp (by omega) (h _ ?_))
   rw [decide_eq_true h3,decide_eq_true hlt,Bool.true_and,Bool.true_and]
   by_cases hb:bt s (kk:Int)=40
   ·rw [hb];rfl
   ·rw [decide_eq_false hb];exact beq_eq_false_iff_ne.2 hb
  ·exact Ev.ifn (by omega) (h _ (by rw [decide_eq_false hlt];simp))
 ·exact Ev.ifn h3 (h _ (by rw [decide_eq_false h3];simp))
theorem j3_true (s:ByteArray) (hs:s.size≤1099511627776) (O:List Cell) (c:Cell) (op:List Nat) (kk:Nat) (r:List Cell × Bool) (hO:O.length<40) (hol:op.length≤40) (hkk:kk≤s.size) (h:Ev (fun k=>spec_TrmRead.l0 k s (O++[c]) (stk (O.length :: op)) ((kk+1:Nat):Int)) r):Ev (fun k=>spec_TrmRead.j3 k s (O++[c]) (stk op) (kk:Int) true) r:=by
 refine Ev.step (fun k=>rfl) ?_
 simp only [spec_TrmRead.j3]
 refine Ev.ifp (by simp) (Ev.ifp (by rw [stk_len];omega) ?_)
 have e:wrap64 ((((O++[c]).length:Nat):Int) - 1)=(O.length:Int):=by rw [snoc_len,w64 (by omega) (by omega)];omega
 rw [e,wnext (by omega),← stk_cons]
 exact h
theorem j3_false (s:ByteArray) (O:List Cell) (op:List Nat) (kk:Nat) (r:List Cell × Bool) (h:Ev (fun k=>spec_TrmRead.l1 k s O (stk op) (kk:Int)) r):Ev (fun k=>spec_TrmRead.j3 k s O (stk op) (kk:Int) false) r:=by
 refine Ev.step (fun k=>rfl) ?_
 simp only [spec_TrmRead.j3]
 exact Ev.ifn (by simp) h
theorem l0_any (s:ByteArray) (hs:s.size≤1099511627776):∀ (n:Nat) (O:List Cell) (op:List Nat) (i:Nat),s.size - i≤n→i≤s.size→O.length≤40→(∀ x ∈ op,x<O.length)→op.length≤O.length→∃ r,Ev (fun k=>spec_TrmRead.l0 k s O (stk op) (i:Int)) r∧ReadR s r:=by
 intro n
 induction n with
 | zero=>
  intro O op i h0 h1 h2 h3 h4
  refine ⟨fin s O,Ev.step (fun k=>rfl) ?_,fin_good s O⟩
  simp only [spec_TrmRead.l0]
  refine Ev.ifn (by omega) (Ev.step (fun k=>rfl) ?_)
  simp only [spec_TrmRead.j1]
  exact Ev.ifn (by simp) (fin_ev s O)
 | succ n ih=>
  intro O op i h0 h1 h2 h3 h4
  by_cases hlt:i<s.size
  case neg=>
   refine ⟨fin s O,Ev.step (fun k=>rfl) ?_,fin_good s O⟩
   simp only [spec_TrmRead.l0]
   refine Ev.ifn (by omega) (Ev.step (fun k=>rfl) ?_)
   simp only [spec_TrmRead.j1]
   exact Ev.ifn (by simp) (fin_ev s O)
  by_cases h40:O.length<40
  case neg=>
   refine ⟨fin s O,Ev.step (fun k=>rfl) ?_,fin_good s O⟩
   simp only [spec_TrmRead.l0]
   refine Ev.ifp (by omega) (Ev.step (fun k=>rfl) ?_)
   simp only [spec_TrmRead.j1]
   exact Ev.ifn (by simp;omega) (fin_ev s O)
  have hsl:s.size=s.data.toList.length:=by rw [Array.length_toList];rfl
  have hdec:s.data.toList=s.data.toList.take i++s.data.toList[i]'(by omega) :: s.data.toList.drop (i+1):=by
   rw [← List.drop_eq_getElem_cons,List.take_append_drop]
  have hai:(s.data.toList.take i).length=i:=by rw [List.length_take];omega
  obtain ⟨c0,c1,c2,kk,ht,hk1,hk2⟩:=take_any s hs _ _ _ hdec
  rw [hai] at ht hk1
  by_cases hk:i<kk
  case neg=>
   refine ⟨([],false),Ev.step (fun k=>rfl) ?_,.inl rfl⟩
   simp only [spec_TrmRead.l0]
   refine Ev.ifp (by omega) (Ev.step (fun k=>rfl) ?_)
   simp only [spec_TrmRead.j1]
   exact Ev.ifp (decide_eq_true (by omega)) (Ev.bind ht (Ev.ifp (by simp;omega) (Ev.now _)))
  have hbl:=bumpTop_len op O
  have hsn:(bumpTop op O++[(⟨c0,c1,c2⟩:Cell)]).length=O.length+1:=by rw [snoc_len,hbl]
  by_cases hb:(decide (c0=3) && (decide (kk<s.size) && decide (bt s (kk:Int)=40)))=true
  ·have hks:kk<s.size:=by simp at hb;exact hb.2.1
   obtain ⟨r,k1,k2⟩:=ih (bumpTop op O++[⟨c0,c1,c2⟩]) ((bumpTop op O).length :: op) (kk+1) (by omega) (by omega) (by omega) (by
    intro x hx
    rw [hsn]
    rcases List.mem_cons.1 hx with rfl|hx
    ·omega
    ·have:=h3 x hx;omega) (by simp;omega)
   refine ⟨r,step_ev s O op i kk c0 c1 c2 r hlt h40 h3 (by omega) hk ht (j2_ev s _ op kk c0 c1 c2 r (by omega) hk2 (fun b hbb=>?_)),k2⟩
   rw [hbb,hb]
   exact j3_true s hs _ _ op kk r (by omega) (by omega) hk2 k1
  ·obtain ⟨r,k1,k2⟩:=l1_any s hs (bumpTop op O++[⟨c0,c1,c2⟩]) op kk hk2 (by omega) (fun op' i' a b c d=>ih _ op' i' (by omega) b (by omega) (fun x hx=>by have:=h3 x (c x hx);omega) (by omega))
   refine ⟨r,step_ev s O op i kk c0 c1 c2 r hlt h40 h3 (by omega) hk ht (j2_ev s _ op kk c0 c1 c2 r (by omega) hk2 (fun b hbb=>?_)),k2⟩
   rw [hbb,Bool.eq_false_iff.2 hb]
   exact j3_false s _ op kk r k1
theorem sread_any (s:ByteArray) (hs:s.size≤1099511627776):∃ r,Ev (fun k=>spec_TrmRead.f k s) r∧ReadR s r:=by
 obtain ⟨r,h1,h2⟩:=l0_any s hs s.size [] [] 0 (by omega) (by omega) (by simp) (by simp) (by simp)
 exact ⟨r,h1,h2⟩
def popc:List Nat→List Nat→List Nat
 | _ :: op,1 :: st=>popc op st
 | op,_=>op
def fill:List Cell→List Nat→List Nat→List Cell→List Cell
 | O,_,_,[]=>O
 | O,op,st,c :: r=>if 0<ar c then fill (bumpTop op O++[bare c]) (O.length :: op) (ar c :: st) r else fill (bumpTop op O++[bare c]) (popc op st) (close st).2 r
end Go.Proofs.YtlhniagacegbeaaDoor.P
