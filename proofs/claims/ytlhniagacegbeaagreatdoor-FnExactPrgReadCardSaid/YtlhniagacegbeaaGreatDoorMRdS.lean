/- What the reference and the program read: of a text the term that has it, or nothing. -/
import Derived.Test.YtlhniagacegbeaaGreatDoorMTxtI
import Derived.Test.YtlhniagacegbeaaGreatDoorMRead
import Derived.Test.YtlhniagacegbeaaGreatDoorP2
import Derived.Test.YtlhniagacegbeaaGreatDoorP2
import Derived.Test.YtlhniagacegbeaaGreatDoorP2
import Derived.Test.YtlhniagacegbeaaGreatDoorP4
namespace Go.Proofs.YtlhniagacegbeaaGreatDoor.P
set_option linter.unusedVariables false
set_option linter.unusedSimpArgs false
open Go.RowKit Go.Proofs.YtlhniagacegbeaaGreatDoor.Cat Go.Proofs.YtlhniagacegbeaaGreatDoorW.PrintWords Go.Proofs.YtlhniagacegbeaaGreatDoorW.PrintLast Go.Lib
theorem sz_app {s:ByteArray} {a w:List UInt8} (h:s.data.toList=a++w):(s.size:Int)=(a.length:Int)+w.length:=by
 have:s.size=s.data.toList.length:=by rw [Array.length_toList];rfl
 rw [this,h,List.length_append];omega
theorem ex_app {s:ByteArray} {a d w:List UInt8} (h:s.data.toList=a++(d++w)):s.extract a.length (a.length+d.length)=ba d:=by
 refine ba_ext ?_
 rw [Lib.extract_data,h,ba_data]
 simp
/-! ### digits and numbers -/
theorem digits_ev (s:ByteArray) (hs:s.size≤1099511627776):∀ (w a:List UInt8),s.data.toList=a++w→Ev (fun k=>spec_l1Digits.f k s ((a.length:Nat):Int)) (((a.length+(w.takeWhile isDig).length:Nat)):Int)
 | [],a,h=>by
  have hz:=sz_app h
  unfold spec_l1Digits.f
  refine Ev.step (fun k=>rfl) ?_
  simp only [spec_l1Digits.l0]
  refine Ev.ifn (by simp at hz;omega) ?_
  refine Ev.step (fun k=>rfl) ?_
  simp only [spec_l1Digits.j1]
  exact Ev.ifn (by simp) (Ev.pure (by simp))
 | c :: w,a,h=>by
  have hz:=sz_app h
  simp only [List.length_cons] at hz
  have hb:=btC s a w c h
  have ih:=digits_ev s hs w (a++[c]) (by rw [h];simp)
  unfold spec_l1Digits.f at ih ⊢
  refine Ev.step (fun k=>rfl) ?_
  simp only [spec_l1Digits.l0]
  refine Ev.ifp (by omega) (Ev.ifp (by omega) ?_)
  rw [hb]
  have hj:∀ b:Bool,b=isDig c→Ev (fun k=>spec_l1Digits.j1 k s ((a.length:Nat):Int) b) (((a.length+((c :: w).takeWhile isDig).length:Nat)):Int):=by
   intro b hbb
   refine Ev.step (fun k=>rfl) ?_
   simp only [spec_l1Digits.j1]
   rw [List.takeWhile_cons]
   cases hd:isDig c with
   | true=>
    refine Ev.ifp (by rw [hbb,hd]) ?_
    rw [wnext (by omega)]
    rw [snoc_len] at ih
    simp only [if_true,List.length_cons]
    rw [show a.length+1+(w.takeWhile isDig).length=a.length+((w.takeWhile isDig).length+1) by omega] at ih
    exact ih
   | false=>
    refine Ev.ifn (by rw [hbb,hd];simp) (Ev.pure ?_)
    simp
  by_cases h1:(c.toNat:Int)≥48
  ·refine Ev.ifp h1 (hj _ ?_)
   unfold isDig
   congr 1
   exact propext (by omega)
  ·refine Ev.ifn h1 (hj _ ?_)
   unfold isDig
   rw [decide_eq_false (by omega)]
theorem num_any (s:ByteArray) (hs:s.size≤1099511627776):∀ (w a:List UInt8) (x:Int),s.data.toList=a++w→∃ v,Ev (fun k=>spec_l1Num.l0 k s x ((a.length:Nat):Int)) v
 | [],a,x,h=>by
  have hz:=sz_app h
  refine ⟨x,Ev.step (fun k=>rfl) ?_⟩
  simp only [spec_l1Num.l0]
  exact Ev.ifn (by simp at hz;omega) (Ev.now _)
 | c :: w,a,x,h=>by
  have hz:=sz_app h
  simp only [List.length_cons] at hz
  obtain ⟨v,ih⟩:=num_any s hs w (a++[c]) (wrap64 ((wrap64 (x * 10))+(((bt s ((a.length:Nat):Int)) - 48) % 256))) (by rw [h];simp)
  refine ⟨v,Ev.step (fun k=>rfl) ?_⟩
  simp only [spec_l1Num.l0]
  refine Ev.ifp (by omega) (Ev.ifp (by omega) ?_)
  rw [wnext (by omega)]
  rw [snoc_len] at ih
  exact ih
theorem numf_any (s:ByteArray) (hs:s.size≤1099511627776):∃ v,Ev (fun k=>spec_l1Num.f k s) v:=by
 obtain ⟨v,hv⟩:=num_any s hs s.data.toList [] 0 rfl
 have hj:∀ b:Bool,∃ v,Ev (fun k=>spec_l1Num.j0 k s b) v:=by
  intro b
  cases b with
  | true=>exact ⟨-1,Ev.step (fun k=>rfl) (by simp only [spec_l1Num.j0];exact Ev.ifp (by simp) (Ev.now _))⟩
  | false=>exact ⟨v,Ev.step (fun k=>rfl) (by simp only [spec_l1Num.j0];exact Ev.ifn (by simp) hv)⟩
 unfold spec_l1Num.f
 by_cases h:(s.size:Int)=0
 ·obtain ⟨v,hv⟩:=hj true
  exact ⟨v,Ev.ifp h hv⟩
 ·obtain ⟨v,hv⟩:=hj (decide ((s.size:Int) > 5))
  exact ⟨v,Ev.ifn h hv⟩
theorem decFrom_ge:∀ (l:List UInt8) (n m:Nat),decFrom n l=some m→n≤m
 | [],n,m,h=>by cases h;exact Nat.le_refl _
 | b :: l,n,m,h=>by
  simp only [decFrom] at h
  cases hd:digitVal b with
  | none=>simp [hd] at h
  | some d=>
   simp only [hd] at h
   have:=decFrom_ge l _ _ h
   omega
theorem num_dec (s:ByteArray) (hs:s.size≤1099511627776):∀ (w a:List UInt8) (n m:Nat),s.data.toList=a++w→decFrom n w=some m→m≤99999→Ev (fun k=>spec_l1Num.l0 k s (n:Int) ((a.length:Nat):Int)) (m:Int)
 | [],a,n,m,h,hd,hm=>by
  have hz:=sz_app h
  cases hd
  refine Ev.step (fun k=>rfl) ?_
  simp only [spec_l1Num.l0]
  exact Ev.ifn (by simp at hz;omega) (Ev.now _)
 | c :: w,a,n,m,h,hd,hm=>by
  have hz:=sz_app h
  simp only [List.length_cons] at hz
  have hb:=btC s a w c h
  simp only [decFrom] at hd
  cases hdv:digitVal c with
  | none=>simp [hdv] at hd
  | some d=>
   simp only [hdv] at hd
   have hge:=decFrom_ge w _ _ hd
   have hdd:d<10∧c.toNat=48+d:=by
    unfold digitVal at hdv
    by_cases hq:48≤c.toNat∧c.toNat≤57
    ·rw [if_pos hq] at hdv;have:=Option.some.inj hdv;omega
    ·rw [if_neg hq] at hdv;cases hdv
   have ih:=num_dec s hs w (a++[c]) (n * 10+d) m (by rw [h];simp) hd hm
   refine Ev.step (fun k=>rfl) ?_
   simp only [spec_l1Num.l0]
   refine Ev.ifp (by omega) (Ev.ifp (by omega) ?_)
   rw [wnext (by omega),hb,w64 (x:=(n:Int) * 10) (by omega) (by omega),w64 (by omega) (by omega)]
   rw [snoc_len] at ih
   have e:(n:Int) * 10+((c.toNat:Int) - 48) % 256=((n * 10+d:Nat):Int):=by omega
   rw [e]
   exact ih
theorem numf_dec {u:Nat} (h:u≤99999):Ev (fun k=>spec_l1Num.f k (ba (decDigits u))) (u:Int):=by
 have hl:=decd_len h
 have hne:=decDigits_ne u
 have hp:0<(decDigits u).length:=List.length_pos_iff.2 hne
 have hn:=num_dec (ba (decDigits u)) (by rw [ba_size];omega) (decDigits u) [] 0 u (by rw [ba_data];rfl) (decFrom_digits u) h
 unfold spec_l1Num.f
 refine Ev.ifn (by rw [ba_size];omega) ?_
 refine Ev.step (fun k=>rfl) ?_
 simp only [spec_l1Num.j0]
 refine Ev.ifn (by rw [ba_size];simp;omega) ?_
 exact hn
/-! ### a place -/
theorem lets_ev (s:ByteArray) (hs:s.size≤1099511627776) (i:Nat):∀ (w a:List UInt8),s.data.toList=a++w→i≤a.length→Ev (fun k=>spec_l1Take.l0 k s (i:Int) ((a.length:Nat):Int)) (3,0,s.extract i (a.length+(w.takeWhile isLet).length),((a.length+(w.takeWhile isLet).length:Nat):Int))
 | [],a,h,hi=>by
  have hz:=sz_app h
  refine Ev.step (fun k=>rfl) ?_
  simp only [spec_l1Take.l0]
  refine Ev.ifn (by simp at hz;omega) ?_
  refine Ev.step (fun k=>rfl) ?_
  simp only [spec_l1Take.j2]
  refine Ev.ifn (by simp) (Ev.ifp (by omega) (Ev.ifp (by omega) (Ev.ifp (by simp at hz;omega) (Ev.pure (by simp)))))
 | c :: w,a,h,hi=>by
  have hz:=sz_app h
  simp only [List.length_cons] at hz
  have hb:=btC s a w c h
  have ih:=lets_ev s hs i w (a++[c]) (by rw [h];simp) (by simp;omega)
  refine Ev.step (fun k=>rfl) ?_
  simp only [spec_l1Take.l0]
  refine Ev.ifp (by omega) (Ev.ifp (by omega) ?_)
  rw [hb]
  have hj:∀ b:Bool,b=isLet c→Ev (fun k=>spec_l1Take.j2 k s (i:Int) ((a.length:Nat):Int) b) (3,0,s.extract i (a.length+((c :: w).takeWhile isLet).length),((a.length+((c :: w).takeWhile isLet).length:Nat):Int)):=by
   intro b hbb
   refine Ev.step (fun k=>rfl) ?_
   simp only [spec_l1Take.j2]
   rw [List.takeWhile_cons]
   cases hd:isLet c with
   | true=>
    refine Ev.ifp (by rw [hbb,hd]) ?_
    rw [wnext (by omega)]
    rw [snoc_len] at ih
    simp only [if_true,List.length_cons]
    rw [show a.length+1+(w.takeWhile isLet).length=a.length+((w.takeWhile isLet).length+1) by omega] at ih
    exact ih
   | false=>
    refine Ev.ifn (by rw [hbb,hd];simp) (Ev.ifp (by omega) (Ev.ifp (by omega) (Ev.ifp (by omega) (Ev.pure (by simp)))))
  by_cases h1:(c.toNat:Int)≥97
  ·refine Ev.ifp h1 (hj _ ?_)
   unfold isLet
   congr 1
   exact propext (by omega)
  ·refine Ev.ifn h1 (hj _ ?_)
   unfold isLet
   rw [decide_eq_false (by omega)]
theorem tw_le {p:UInt8→Bool} (w:List UInt8):(w.takeWhile p).length≤w.length:=(List.takeWhile_sublist (p:=p) (l:=w)).length_le
/-- it tells a place, and where it ends -/
theorem take_any (s:ByteArray) (hs:s.size≤1099511627776) (a w:List UInt8) (c:UInt8) (h:s.data.toList=a++c :: w) :
  ∃ (c0 c1:Int) (c2:ByteArray) (kk:Nat),Ev (fun k=>spec_l1Take.f k s ((a.length:Nat):Int)) (c0,c1,c2,(kk:Int))∧a.length≤kk∧kk≤s.size:=by
 have hz:=sz_app h
 simp only [List.length_cons] at hz
 have hb:=btC s a w c h
 have hd:=digits_ev s hs w (a++[c]) (by rw [h];simp)
 rw [snoc_len] at hd
 have hd0:=digits_ev s hs (c :: w) a h
 have hl:=lets_ev s hs a.length (c :: w) a h (Nat.le_refl _)
 have t1:=tw_le (p:=isDig) w
 have t0:=tw_le (p:=isDig) (c :: w)
 have tl:=tw_le (p:=isLet) (c :: w)
 simp only [List.length_cons] at t0 tl
 unfold spec_l1Take.f
 have hsub:∀ i j:Nat,(s.extract i j).size≤1099511627776:=fun i j=>by
  have:(s.extract i j).size=(s.extract i j).data.toList.length:=by rw [Array.length_toList];rfl
  rw [this,Lib.extract_data,List.length_take,List.length_drop,← Lib.size_eq];omega
 have hw1:wrap64 ((a.length:Int)+1)=((a.length+1:Nat):Int):=wnext (by omega)
 have hz2:¬ ((a.length:Int)≥(s.size:Int)):=by omega
 rw [hw1,hb]
 by_cases h88:(c.toNat:Int)=88
 ·obtain ⟨v,hv⟩:=numf_any (s.extract (a.length+1) (a.length+1+(w.takeWhile isDig).length)) (hsub _ _)
  refine ⟨1,v,⟨#[]⟩,a.length+1+(w.takeWhile isDig).length,?_,by omega,by omega⟩
  exact Ev.ifn hz2 (Ev.ifp (by omega) (Ev.ifp (by omega) (Ev.ifp h88 (Ev.bind hd (Ev.ifp (by omega) (Ev.ifp (by omega) (Ev.ifp (by omega) (Ev.bind hv (Ev.now _)))))))))
 by_cases h45:(c.toNat:Int)=45
 ·obtain ⟨v,hv⟩:=numf_any (s.extract (a.length+1) (a.length+1+(w.takeWhile isDig).length)) (hsub _ _)
  refine ⟨2,wrap64 (-v),⟨#[]⟩,a.length+1+(w.takeWhile isDig).length,?_,by omega,by omega⟩
  exact Ev.ifn hz2 (Ev.ifp (by omega) (Ev.ifp (by omega) (Ev.ifn h88 (Ev.ifp h45 (Ev.bind hd (Ev.ifp (by omega) (Ev.ifp (by omega) (Ev.ifp (by omega) (Ev.bind hv (Ev.now _))))))))))
 have hj:∀ b:Bool,∃ (c0 c1:Int) (c2:ByteArray) (kk:Nat),Ev (fun k=>spec_l1Take.j0 k s ((a.length:Nat):Int) b) (c0,c1,c2,(kk:Int))∧a.length≤kk∧kk≤s.size:=by
  intro b
  cases b with
  | true=>
   obtain ⟨v,hv⟩:=numf_any (s.extract a.length (a.length+((c :: w).takeWhile isDig).length)) (hsub _ _)
   refine ⟨2,v,⟨#[]⟩,a.length+((c :: w).takeWhile isDig).length,Ev.step (fun k=>rfl) ?_,by omega,by omega⟩
   simp only [spec_l1Take.j0]
   exact Ev.ifp (by simp) (Ev.bind hd0 (Ev.ifp (by omega) (Ev.ifp (by omega) (Ev.ifp (by omega) (Ev.bind hv (Ev.now _))))))
  | false=>
   refine ⟨3,0,s.extract a.length (a.length+((c :: w).takeWhile isLet).length),a.length+((c :: w).takeWhile isLet).length,Ev.step (fun k=>rfl) ?_,by omega,by omega⟩
   simp only [spec_l1Take.j0]
   exact Ev.ifn (by simp) hl
 by_cases h48:(c.toNat:Int)≥48
 ·obtain ⟨c0,c1,c2,kk,hv,h1,h2⟩:=hj (decide ((c.toNat:Int)≤57))
  exact ⟨c0,c1,c2,kk,Ev.ifn hz2 (Ev.ifp (by omega) (Ev.ifp (by omega) (Ev.ifn h88 (Ev.ifn h45 (Ev.ifp h48 hv))))),h1,h2⟩
 ·obtain ⟨c0,c1,c2,kk,hv,h1,h2⟩:=hj false
  exact ⟨c0,c1,c2,kk,Ev.ifn hz2 (Ev.ifp (by omega) (Ev.ifp (by omega) (Ev.ifn h88 (Ev.ifn h45 (Ev.ifn h48 hv))))),h1,h2⟩
/-- what may stand behind a place's word -/
def Stop2 (v:List UInt8):Prop:=v=[]∨v.head?=some 40∨v.head?=some 44∨v.head?=some 41
theorem Stop2.at_ {v:List UInt8} (h:Stop2 v):∀ x,v.head?=some x→isDig x=false∧isLet x=false:=by
 intro x hx
 rcases h with rfl|h|h|h
 ·cases hx
 ·rw [h] at hx;cases hx;decide
 ·rw [h] at hx;cases hx;decide
 ·rw [h] at hx;cases hx;decide
def bare (c:Cell):Cell:=if c.f0=3 then ⟨3,0,c.f2⟩ else c
theorem bare_ok {c:Cell} (hc:cellOk c=true) (ha:ar c=0):bare c=c:=by
 unfold bare
 by_cases h3:c.f0=3
 ·rw [if_pos h3]
  have hcc:=hc
  unfold cellOk at hcc
  rw [if_neg (by omega),if_neg (by omega),if_pos h3] at hcc
  simp only [Bool.and_eq_true,decide_eq_true_eq] at hcc
  unfold ar at ha
  rw [if_pos h3] at ha
  exact Cell.ext' h3.symm (by show (0:Int)=c.f1;omega) rfl
 ·rw [if_neg h3]
theorem take_word (s:ByteArray) (hs:s.size≤1099511627776) (a v:List UInt8) (c:Cell) (hc:cellOk c=true) (h:s.data.toList=a++(Cat.word c++v)) (hv:Stop2 v) :
  Ev (fun k=>spec_l1Take.f k s ((a.length:Nat):Int)) ((bare c).f0,(bare c).f1,(bare c).f2,((a.length+(Cat.word c).length:Nat):Int)):=by
 have hst:=hv.at_
 have hz:=sz_app h
 have hw0:=hc
 unfold cellOk at hw0
 have hwl:=word_len hc
 by_cases h1:c.f0=1
 ·rw [if_pos h1] at hw0
  simp only [Bool.and_eq_true,decide_eq_true_eq,List.isEmpty_iff] at hw0
  obtain ⟨n,hn⟩:=Int.eq_ofNat_of_zero_le hw0.1.1
  have ew:Cat.word c=88 :: decDigits n:=by unfold Cat.word;rw [if_pos h1,hn,itoa_nonneg]
  have eb:bare c=c:=by unfold bare;rw [if_neg (by omega)]
  have e2:c.f2=⟨#[]⟩:=ba_ext (by rw [hw0.2])
  rw [ew] at h hz hwl ⊢
  rw [eb,h1,hn,e2]
  simp only [List.length_cons,List.length_append,List.cons_append] at hz h hwl ⊢
  have hb:=btC s a _ 88 h
  have h':s.data.toList=(a++[88])++(decDigits n++v):=by rw [h];simp
  have tw:=(takeW (p:=isDig) (a:=decDigits n) (v:=v) (decDigits_dig n) (fun x hx=>(hst x hx).1)).1
  have hd:=digits_ev s hs _ (a++[88]) h'
  rw [snoc_len,tw] at hd
  have hx:=ex_app h'
  rw [snoc_len] at hx
  have hw1:wrap64 ((a.length:Int)+1)=((a.length+1:Nat):Int):=wnext (by omega)
  have hnum:=numf_dec (u:=n) (by omega)
  unfold spec_l1Take.f
  rw [hw1,hb]
  refine Ev.ifn (by omega) (Ev.ifp (by omega) (Ev.ifp (by omega) (Ev.ifp (by rfl) (Ev.bind hd (Ev.ifp (by omega) (Ev.ifp (by omega) (Ev.ifp (by omega) ?_)))))))
  simp only [Int.toNat_natCast]
  rw [hx]
  refine Ev.bind hnum (Ev.pure ?_)
  congr 3
  omega
 rw [if_neg h1] at hw0
 by_cases h2:c.f0=2
 ·rw [if_pos h2] at hw0
  simp only [Bool.and_eq_true,decide_eq_true_eq,List.isEmpty_iff] at hw0
  have eb:bare c=c:=by unfold bare;rw [if_neg (by omega)]
  have e2:c.f2=⟨#[]⟩:=ba_ext (by rw [hw0.2])
  have hwd:Cat.word c=itoa c.f1:=by unfold Cat.word;rw [if_neg h1,if_pos h2]
  by_cases hn:c.f1<0
  ·have ew:Cat.word c=45 :: decDigits c.f1.natAbs:=by rw [hwd];unfold itoa;rw [if_pos hn]
   rw [ew] at h hz hwl ⊢
   rw [eb,h2,e2]
   simp only [List.length_cons,List.length_append,List.cons_append] at hz h hwl ⊢
   have hb:=btC s a _ 45 h
   have h':s.data.toList=(a++[45])++(decDigits c.f1.natAbs++v):=by rw [h];simp
   have tw:=(takeW (p:=isDig) (a:=decDigits c.f1.natAbs) (v:=v) (decDigits_dig _) (fun x hx=>(hst x hx).1)).1
   have hd:=digits_ev s hs _ (a++[45]) h'
   rw [snoc_len,tw] at hd
   have hx:=ex_app h'
   rw [snoc_len] at hx
   have hw1:wrap64 ((a.length:Int)+1)=((a.length+1:Nat):Int):=wnext (by omega)
   have hnum:=numf_dec (u:=c.f1.natAbs) (by omega)
   unfold spec_l1Take.f
   rw [hw1,hb]
   refine Ev.ifn (by omega) (Ev.ifp (by omega) (Ev.ifp (by omega) (Ev.ifn (by decide) (Ev.ifp (by rfl) (Ev.bind hd (Ev.ifp (by omega) (Ev.ifp (by omega) (Ev.ifp (by omega) ?_))))))))
   simp only [Int.toNat_natCast]
   rw [hx]
   refine Ev.bind hnum (Ev.pure ?_)
   rw [w64 (by omega) (by omega)]
   have e3:-((c.f1.natAbs:Nat):Int)=c.f1:=by omega
   rw [e3]
   congr 3
   omega
  ·have e0:c.f1=((c.f1.toNat:Nat):Int):=by omega
   have ew:Cat.word c=decDigits c.f1.toNat:=by rw [hwd];unfold itoa;rw [if_neg hn]
   rw [ew] at h hz hwl ⊢
   rw [eb,h2,e2]
   cases hdd:decDigits c.f1.toNat with
   | nil=>exact absurd hdd (decDigits_ne _)
   | cons b l=>
    have hbd:=decDigits_dig c.f1.toNat b (by rw [hdd];simp)
    have hbn:48≤b.toNat∧b.toNat≤57:=by unfold isDig at hbd;simpa using hbd
    have hcs:=h
    rw [hdd,List.cons_append] at hcs
    have hb:=btC s a _ b hcs
    have tw:=(takeW (p:=isDig) (a:=decDigits c.f1.toNat) (v:=v) (decDigits_dig _) (fun x hx=>(hst x hx).1)).1
    have hd:=digits_ev s hs _ a h
    rw [tw] at hd
    have hx:=ex_app h
    have hnum:=numf_dec (u:=c.f1.toNat) (by omega)
    rw [← e0] at hnum
    rw [← hdd]
    have hp:0<(decDigits c.f1.toNat).length:=List.length_pos_iff.2 (decDigits_ne _)
    simp only [List.length_append] at hz
    have hw1:wrap64 ((a.length:Int)+1)=((a.length+1:Nat):Int):=wnext (by omega)
    unfold spec_l1Take.f
    rw [hw1,hb]
    refine Ev.ifn (by omega) (Ev.ifp (by omega) (Ev.ifp (by omega) (Ev.ifn (by omega) (Ev.ifn (by omega) (Ev.ifp (by omega) ?_)))))
    refine Ev.step (fun k=>rfl) ?_
    simp only [spec_l1Take.j0]
    refine Ev.ifp (decide_eq_true (by omega)) (Ev.bind hd (Ev.ifp (by omega) (Ev.ifp (by omega) (Ev.ifp (by omega) ?_))))
    simp only [Int.toNat_natCast]
    rw [hx]
    exact Ev.bind hnum (Ev.now _)
 rw [if_neg h2] at hw0
 by_cases h3:c.f0=3
 case neg=>rw [if_neg h3] at hw0;cases hw0
 rw [if_pos h3] at hw0
 simp only [Bool.and_eq_true,decide_eq_true_eq] at hw0
 obtain ⟨n1,n2,n3⟩:=name_ok hw0.2
 have ew:Cat.word c=c.f2.data.toList:=by unfold Cat.word;rw [if_neg h1,if_neg h2]
 have eb:bare c=⟨3,0,c.f2⟩:=by unfold bare;rw [if_pos h3]
 rw [ew] at h hz ⊢
 rw [eb]
 cases hdd:c.f2.data.toList with
 | nil=>exact absurd hdd n1
 | cons b l=>
  have hbd:=n2 b (by rw [hdd];simp)
  have hbn:97≤b.toNat∧b.toNat≤122:=by unfold isLet at hbd;simpa using hbd
  have hcs:=h
  rw [hdd,List.cons_append] at hcs
  have hb:=btC s a _ b hcs
  have tw:=(takeW (p:=isLet) (a:=c.f2.data.toList) (v:=v) n2 (fun x hx=>(hst x hx).2)).1
  have hd:=lets_ev s hs a.length _ a h (Nat.le_refl _)
  rw [tw,ex_app h,ba_of] at hd
  rw [← hdd]
  have hp:0<c.f2.data.toList.length:=List.length_pos_iff.2 n1
  simp only [List.length_append] at hz
  have hw1:wrap64 ((a.length:Int)+1)=((a.length+1:Nat):Int):=wnext (by omega)
  unfold spec_l1Take.f
  rw [hw1,hb]
  refine Ev.ifn (by omega) (Ev.ifp (by omega) (Ev.ifp (by omega) (Ev.ifn (by omega) (Ev.ifn (by omega) (Ev.ifp (by omega) ?_)))))
  refine Ev.step (fun k=>rfl) ?_
  simp only [spec_l1Take.j0]
  exact Ev.ifn (by simp;omega) hd
/-! ### the end -/
def fin (s:ByteArray) (O:List Cell):List Cell × Bool:=if (textB O).data.toList=s.data.toList then (if s.data.toList=[] then ([],false) else (O,true)) else ([],false)
theorem fin_ev (s:ByteArray) (O:List Cell):Ev (fun k=>(spec_TrmText.f k O).bind fun t209=>(if t209.toList=s.toList then (if s.toList=([]:List UInt8) then (some ((([]:List Cell)),false)) else (some (O,true))) else (some ((([]:List Cell)),false)))) (fin s O):=by
 refine Ev.bind (stext_ev O) ?_
 simp only [ByteArray.toList_eq]
 by_cases h:(textB O).data.toList=s.data.toList
 ·by_cases h0:s.data.toList=[]
  ·have e:fin s O=([],false):=by unfold fin;rw [if_pos h,if_pos h0]
   rw [e]
   exact Ev.ifp h (Ev.ifp h0 (Ev.now _))
  ·have e:fin s O=(O,true):=by unfold fin;rw [if_pos h,if_neg h0]
   rw [e]
   exact Ev.ifp h (Ev.ifn h0 (Ev.now _))
 ·have e:fin s O=([],false):=by unfold fin;rw [if_neg h]
  rw [e]
  exact Ev.ifn h (Ev.now _)
/-- what is read of any text -/
def ReadR (s:ByteArray) (r:List Cell × Bool):Prop:=r=([],false)∨(r.2=true∧(textB r.1).data.toList=s.data.toList∧s.data.toList≠[])
theorem fin_good (s:ByteArray) (O:List Cell):ReadR s (fin s O):=by
 unfold fin
 by_cases h:(textB O).data.toList=s.data.toList
 ·rw [if_pos h]
  by_cases h0:s.data.toList=[]
  ·rw [if_pos h0];exact .inl rfl
  ·rw [if_neg h0];exact .inr ⟨rfl,h,h0⟩
 ·rw [if_neg h];exact .inl rfl
/-! ### it ends -/
theorem j5_any (s:ByteArray) (hs:s.size≤1099511627776) (O:List Cell) (op:List Nat) (i:Nat) (hi:i≤s.size) (H:∀ i',i≤i'→i'≤s.size→∃ r,Ev (fun k=>spec_TrmRead.l0 k s O (stk op) (i':Int)) r∧ReadR s r) :
  ∃ r,Ev (fun k=>spec_TrmRead.j5 k s O (stk op) (i:Int) false) r∧ReadR s r:=by
 by_cases hlt:i<s.size
 ·by_cases h44:bt s (i:Int)=44
  ·obtain ⟨r,h1,h2⟩:=H (i+1) (by omega) (by omega)
   refine ⟨r,Ev.step (fun k=>rfl) ?_,h2⟩
   simp only [spec_TrmRead.j5]
   refine Ev.ifn (by simp) (Ev.ifp (by omega) (Ev.ifp (by omega) (Ev.ifp h44 ?_)))
   rw [wnext (by omega)]
   exact h1
  ·obtain ⟨r,h1,h2⟩:=H i (Nat.le_refl _) hi
   refine ⟨r,Ev.step (fun k=>rfl) ?_,h2⟩
   simp only [spec_TrmRead.j5]
   exact Ev.ifn (by simp) (Ev.ifp (by omega) (Ev.ifp (by omega) (Ev.ifn h44 h1)))
 ·obtain ⟨r,h1,h2⟩:=H i (Nat.le_refl _) hi
  refine ⟨r,Ev.step (fun k=>rfl) ?_,h2⟩
  simp only [spec_TrmRead.j5]
  exact Ev.ifn (by simp) (Ev.ifn (by omega) h1)
theorem l1_any (s:ByteArray) (hs:s.size≤1099511627776) (O:List Cell):∀ (op:List Nat) (i:Nat),i≤s.size→op.length≤1000→(∀ (op':List Nat) (i':Nat),i≤i'→i'≤s.size→(∀ x ∈ op',x ∈ op)→op'.length≤op.length→∃ r,Ev (fun k=>spec_TrmRead.l0 k s O (stk op') (i':Int)) r∧ReadR s r)→
  ∃ r,Ev (fun k=>spec_TrmRead.l1 k s O (stk op) (i:Int)) r∧ReadR s r
 | [],i,hi,hop,H=>by
  obtain ⟨r,h1,h2⟩:=j5_any s hs O [] i hi (fun i' a b=>H [] i' a b (fun _ h=>h) (Nat.le_refl _))
  refine ⟨r,Ev.step (fun k=>rfl) ?_,h2⟩
  simp only [spec_TrmRead.l1]
  have hd:decide (((stk []).length:Int) > 0)=false:=by simp [stk]
  by_cases hlt:i<s.size
  ·refine Ev.ifp (by omega) (Ev.ifp (by omega) ?_)
   by_cases h41:bt s (i:Int)=41
   ·refine Ev.ifp h41 ?_
    rw [hd]
    exact h1
   ·exact Ev.ifn h41 h1
  ·exact Ev.ifn (by omega) h1
 | x :: op,i,hi,hop,H=>by
  obtain ⟨r,h1,h2⟩:=j5_any s hs O (x :: op) i hi (fun i' a b=>H (x :: op) i' a b (fun _ h=>h) (Nat.le_refl _))
  have hl:((stk (x :: op)).length:Int)=((op.length+1:Nat):Int):=by rw [stk_len];rfl
  have hd:decide (((stk (x :: op)).length:Int) > 0)=true:=by rw [hl];exact decide_eq_true (by omega)
  by_cases hlt:i<s.size
  ·by_cases h41:bt s (i:Int)=41
   ·obtain ⟨r',k1,k2⟩:=l1_any s hs O op (i+1) (by omega) (by simp at hop;omega) (fun op' i' a b c d=>H op' i' (by omega) b (fun y hy=>by simp [c y hy]) (by simp;omega))
    refine ⟨r',Ev.step (fun k=>rfl) ?_,k2⟩
    simp only [spec_TrmRead.l1]
    refine Ev.ifp (by omega) (Ev.ifp (by omega) (Ev.ifp h41 ?_))
    rw [hd]
    refine Ev.step (fun k=>rfl) ?_
    simp only [spec_TrmRead.j5]
    simp only [List.length_cons] at hop
    have hw:wrap64 (((op.length+1:Nat):Int) - 1)=(op.length:Int):=by rw [w64 (by omega) (by omega)];omega
    rw [hl,hw]
    have e1:(stk (x :: op)).take ((op.length:Int)).toNat=stk op:=by
     rw [stk_cons]
     have:=stk_len op
     simp [← this]
    rw [e1,wnext (by omega)]
    exact Ev.ifp (by simp) (Ev.ifp (by omega) (Ev.ifp (by omega) k1))
   ·refine ⟨r,Ev.step (fun k=>rfl) ?_,h2⟩
    simp only [spec_TrmRead.l1]
    exact Ev.ifp (by omega) (Ev.ifp (by omega) (Ev.ifn h41 h1))
  ·refine ⟨r,Ev.step (fun k=>rfl) ?_,h2⟩
   simp only [spec_TrmRead.l1]
   exact Ev.ifn (by omega) h1
def bumpTop:List Nat→List Cell→List Cell
 | [],O=>O
 | i :: _,O=>bump i O
theorem bumpTop_len (op:List Nat) (O:List Cell):(bumpTop op O).length=O.length:=by
 cases op with
 | nil=>rfl
 | cons i op=>exact bump_len i O
theorem bump_is (i:Nat) (O:List Cell) (h:i<O.length):O.set i ⟨(rd_T63 O (i:Int)).f0,wrap64 ((rd_T63 O (i:Int)).f1+1),(rd_T63 O (i:Int)).f2⟩=bump i O:=by
 have e:rd_T63 O (i:Int)=O[i]:=by simp [rd_T63,List.getD,h]
 rw [e]
 unfold Cat.bump
 apply List.ext_getElem?
 intro j
 rw [List.getElem?_modify,List.getElem?_set]
 by_cases e:i=j
 ·subst e;simp [h]
 ·simp [e]
/-- one place of the reader's loop -/
theorem step_ev (s:ByteArray) (O:List Cell) (op:List Nat) (i kk:Nat) (c0 c1:Int) (c2:ByteArray) (r:List Cell × Bool) (hi:i<s.size) (hO:O.length<40) (hop:∀ x ∈ op,x<O.length) (hol:op.length≤40) (hk:i<kk)
  (ht:Ev (fun k=>spec_l1Take.f k s (i:Int)) (c0,c1,c2,(kk:Int))) (h2:Ev (fun k=>spec_TrmRead.j2 k s (bumpTop op O) (stk op) (kk:Int) c0 c1 c2) r):Ev (fun k=>spec_TrmRead.l0 k s O (stk op) (i:Int)) r:=by
 refine Ev.step (fun k=>rfl) ?_
 simp only [spec_TrmRead.l0]
 refine Ev.ifp (by omega) ?_
 refine Ev.step (fun k=>rfl) ?_
 simp only [spec_TrmRead.j1]
 refine Ev.ifp (decide_eq_true (by omega)) (Ev.bind ht (Ev.ifn (by simp;omega) ?_))
 cases op with
 | nil=>exact Ev.ifn (by simp [stk]) h2
 | cons x op=>
  have hl:((stk (x :: op)).length:Int)=((op.length+1:Nat):Int):=by rw [stk_len];rfl
  simp only [List.length_cons] at hol
  have hw:wrap64 (((op.length+1:Nat):Int) - 1)=(op.length:Int):=by rw [w64 (by omega) (by omega)];omega
  have hrd:rd (stk (x :: op)) (op.length:Int)=(x:Int):=by
   rw [stk_cons]
   have:=stk_len op
   simp [rd,List.getD,← this]
  have hx:=hop x (by simp)
  rw [hl,hw,hrd]
  refine Ev.ifp (by omega) (Ev.ifp (by omega) (Ev.ifp (by omega) (Ev.ifp (by omega) (Ev.ifp (by omega) ?_))))
  rw [Int.toNat_natCast,bump_is x O hx]
  exact h2
theorem j2_ev (s:ByteArray) (O:List Cell) (op:List Nat) (kk:Nat) (c0 c1:Int) (c2:ByteArray) (r:List Cell × Bool) (hO:O.length<40) (hkk:kk≤s.size)
  (h:∀ b:Bool,b=(decide (c0=3) && (decide (kk<s.size) && decide (bt s (kk:Int)=40)))→Ev (fun k=>spec_TrmRead.j3 k s (O++[⟨c0,c1,c2⟩]) (stk op) (kk:Int) b) r):Ev (fun k=>spec_TrmRead.j2 k s O (stk op) (kk:Int) c0 c1 c2) r:=by
 refine Ev.step (fun k=>rfl) ?_
 simp only [spec_TrmRead.j2]
 refine Ev.ifp (by omega) (Ev.bindv rfl ?_)
 by_cases h3:c0=3
 ·refine Ev.ifp h3 ?_
  by_cases hlt:kk<s.size
  ·refine Ev.ifp (by omega) (Ev.ifp (by omega) (h _ ?_))
   rw [decide_eq_true h3,decide_eq_true hlt,Bool.true_and,Bool.true_and]
   by_cases hb:bt s (kk:Int)=40
   ·rw [hb];rfl
   ·rw [decide_eq_false hb];exact beq_eq_false_iff_ne.2 hb
  ·exact Ev.ifn (by omega) (h _ (by rw [decide_eq_false hlt];simp))
 ·exact Ev.ifn h3 (h _ (by rw [decide_eq_false h3];simp))
theorem j3_true (s:ByteArray) (hs:s.size≤1099511627776) (O:List Cell) (c:Cell) (op:List Nat) (kk:Nat) (r:List Cell × Bool) (hO:O.length<40) (hol:op.length≤40) (hkk:kk≤s.size) (h:Ev (fun k=>spec_TrmRead.l0 k s (O++[c]) (stk (O.length :: op)) ((kk+1:Nat):Int)) r):Ev (fun k=>spec_TrmRead.j3 k s (O++[c]) (stk op) (kk:Int) true) r:=by
 refine Ev.step (fun k=>rfl) ?_
 simp only [spec_TrmRead.j3]
 refine Ev.ifp (by simp) (Ev.ifp (by rw [stk_len];omega) ?_)
 have e:wrap64 ((((O++[c]).length:Nat):Int) - 1)=(O.length:Int):=by rw [snoc_len,w64 (by omega) (by omega)];omega
 rw [e,wnext (by omega),← stk_cons]
 exact h
theorem j3_false (s:ByteArray) (O:List Cell) (op:List Nat) (kk:Nat) (r:List Cell × Bool) (h:Ev (fun k=>spec_TrmRead.l1 k s O (stk op) (kk:Int)) r):Ev (fun k=>spec_TrmRead.j3 k s O (stk op) (kk:Int) false) r:=by
 refine Ev.step (fun k=>rfl) ?_
 simp only [spec_TrmRead.j3]
 exact Ev.ifn (by simp) h
theorem l0_any (s:ByteArray) (hs:s.size≤1099511627776):∀ (n:Nat) (O:List Cell) (op:List Nat) (i:Nat),s.size - i≤n→i≤s.size→O.length≤40→(∀ x ∈ op,x<O.length)→op.length≤O.length→∃ r,Ev (fun k=>spec_TrmRead.l0 k s O (stk op) (i:Int)) r∧ReadR s r:=by
 intro n
 induction n with
 | zero=>
  intro O op i h0 h1 h2 h3 h4
  refine ⟨fin s O,Ev.step (fun k=>rfl) ?_,fin_good s O⟩
  simp only [spec_TrmRead.l0]
  refine Ev.ifn (by omega) (Ev.step (fun k=>rfl) ?_)
  simp only [spec_TrmRead.j1]
  exact Ev.ifn (by simp) (fin_ev s O)
 | succ n ih=>
  intro O op i h0 h1 h2 h3 h4
  by_cases hlt:i<s.size
  case neg=>
   refine ⟨fin s O,Ev.step (fun k=>rfl) ?_,fin_good s O⟩
   simp only [spec_TrmRead.l0]
   refine Ev.ifn (by omega) (Ev.step (fun k=>rfl) ?_)
   simp only [spec_TrmRead.j1]
   exact Ev.ifn (by simp) (fin_ev s O)
  by_cases h40:O.length<40
  case neg=>
   refine ⟨fin s O,Ev.step (fun k=>rfl) ?_,fin_good s O⟩
   simp only [spec_TrmRead.l0]
   refine Ev.ifp (by omega) (Ev.step (fun k=>rfl) ?_)
   simp only [spec_TrmRead.j1]
   exact Ev.ifn (by simp;omega) (fin_ev s O)
  have hsl:s.size=s.data.toList.length:=by rw [Array.length_toList];rfl
  have hdec:s.data.toList=s.data.toList.take i++s.data.toList[i]'(by omega) :: s.data.toList.drop (i+1):=by
   rw [← List.drop_eq_getElem_cons,List.take_append_drop]
  have hai:(s.data.toList.take i).length=i:=by rw [List.length_take];omega
  obtain ⟨c0,c1,c2,kk,ht,hk1,hk2⟩:=take_any s hs _ _ _ hdec
  rw [hai] at ht hk1
  by_cases hk:i<kk
  case neg=>
   refine ⟨([],false),Ev.step (fun k=>rfl) ?_,.inl rfl⟩
   simp only [spec_TrmRead.l0]
   refine Ev.ifp (by omega) (Ev.step (fun k=>rfl) ?_)
   simp only [spec_TrmRead.j1]
   exact Ev.ifp (decide_eq_true (by omega)) (Ev.bind ht (Ev.ifp (by simp;omega) (Ev.now _)))
  have hbl:=bumpTop_len op O
  have hsn:(bumpTop op O++[(⟨c0,c1,c2⟩:Cell)]).length=O.length+1:=by rw [snoc_len,hbl]
  by_cases hb:(decide (c0=3) && (decide (kk<s.size) && decide (bt s (kk:Int)=40)))=true
  ·have hks:kk<s.size:=by simp at hb;exact hb.2.1
   obtain ⟨r,k1,k2⟩:=ih (bumpTop op O++[⟨c0,c1,c2⟩]) ((bumpTop op O).length :: op) (kk+1) (by omega) (by omega) (by omega) (by
    intro x hx
    rw [hsn]
    rcases List.mem_cons.1 hx with rfl|hx
    ·omega
    ·have:=h3 x hx;omega) (by simp;omega)
   refine ⟨r,step_ev s O op i kk c0 c1 c2 r hlt h40 h3 (by omega) hk ht (j2_ev s _ op kk c0 c1 c2 r (by omega) hk2 (fun b hbb=>?_)),k2⟩
   rw [hbb,hb]
   exact j3_true s hs _ _ op kk r (by omega) (by omega) hk2 k1
  ·obtain ⟨r,k1,k2⟩:=l1_any s hs (bumpTop op O++[⟨c0,c1,c2⟩]) op kk hk2 (by omega) (fun op' i' a b c d=>ih _ op' i' (by omega) b (by omega) (fun x hx=>by have:=h3 x (c x hx);omega) (by omega))
   refine ⟨r,step_ev s O op i kk c0 c1 c2 r hlt h40 h3 (by omega) hk ht (j2_ev s _ op kk c0 c1 c2 r (by omega) hk2 (fun b hbb=>?_)),k2⟩
   rw [hbb,Bool.eq_false_iff.2 hb]
   exact j3_false s _ op kk r k1
theorem sread_any (s:ByteArray) (hs:s.size≤1099511627776):∃ r,Ev (fun k=>spec_TrmRead.f k s) r∧ReadR s r:=by
 obtain ⟨r,h1,h2⟩:=l0_any s hs s.size [] [] 0 (by omega) (by omega) (by simp) (by simp) (by simp)
 exact ⟨r,h1,h2⟩
/-! ### of a term's text -/
def popc:List Nat→List Nat→List Nat
 | _ :: op,1 :: st=>popc op st
 | op,_=>op
def fill:List Cell→List Nat→List Nat→List Cell→List Cell
 | O,_,_,[]=>O
 | O,op,st,c :: r=>if 0<ar c then fill (bumpTop op O++[bare c]) (O.length :: op) (ar c :: st) r else fill (bumpTop op O++[bare c]) (popc op st) (close st).2 r
theorem popc_len:∀ (st op:List Nat),op.length=st.length→(popc op st).length=(close st).2.length
 | [],op,h=>by
  have:op=[]:=List.eq_nil_of_length_eq_zero h
  subst this;simp [popc,close]
 | 0 :: st,op,h=>by cases op <;> simp [popc,close] at h ⊢ <;> omega
 | 1 :: st,[],h=>by simp at h
 | 1 :: st,i :: op,h=>by
  rw [popc,close]
  exact popc_len st op (by simpa using h)
 | (n+2) :: st,op,h=>by cases op <;> simp [popc,close] at h ⊢ <;> omega
theorem popc_sub:∀ (st op:List Nat),∀ x ∈ popc op st,x ∈ op
 | [],op,x,h=>by
  have e:popc op []=op:=by cases op <;> rfl
  rw [e] at h;exact h
 | 0 :: st,op,x,h=>by
  have e:popc op (0 :: st)=op:=by cases op <;> rfl
  rw [e] at h;exact h
 | 1 :: st,[],x,h=>by simp [popc] at h
 | 1 :: st,i :: op,x,h=>by
  rw [popc] at h
  simp [popc_sub st op x h]
 | (n+2) :: st,op,x,h=>by
  have e:popc op ((n+2) :: st)=op:=by cases op <;> rfl
  rw [e] at h;exact h
theorem fill_args {k:Nat} (ih:∀ (u:List Cell) (O:List Cell) (op st:List Nat) (v:List Cell),Forest 1 u→okl u→u.length≤k→fill O op st (u++v)=fill (bumpTop op O++u) (popc op st) (close st).2 v) :
  ∀ (gs:List (List Cell)) (g:List Cell) (P D:List Cell) (j:Int) (nm:ByteArray) (op st:List Nat) (v:List Cell),(∀ x ∈ g :: gs,Forest 1 x∧okl x∧x.length≤k)→0≤j→j+gs.length≤3→
   fill (P ++ ⟨3,j,nm⟩ :: D) (P.length :: op) ((gs.length+1) :: st) ((g :: gs).flatten++v)=fill (P ++ ⟨3,j+gs.length+1,nm⟩ :: (D++(g :: gs).flatten)) (popc op st) (close st).2 v
 | [],g,P,D,j,nm,op,st,v,h,h0,h3=>by
  obtain ⟨g1,g2,g3⟩:=h g (by simp)
  simp only [List.length_nil] at h3 ⊢
  rw [show ([g]:List (List Cell)).flatten=g by simp,ih g _ _ _ v g1 g2 g3]
  simp only [bumpTop,bump_at,popc,close]
  rw [Cat.wrap_small h0 (by omega)]
  simp
  rfl
 | g2 :: gs,g,P,D,j,nm,op,st,v,h,h0,h3=>by
  obtain ⟨a1,a2,a3⟩:=h g (by simp)
  simp only [List.length_cons] at h3 ⊢
  rw [List.flatten_cons,List.append_assoc,ih g _ _ _ _ a1 a2 a3]
  simp only [bumpTop,bump_at,close]
  rw [Cat.wrap_small h0 (by omega)]
  have e:popc (P.length :: op) ((gs.length+1+1) :: st)=P.length :: op:=rfl
  rw [e]
  have:=fill_args ih gs g2 P (D++g) (j+1) nm op st v (fun x hx=>h x (by simp at hx ⊢;exact .inr hx)) (by omega) (by omega)
  rw [show P ++ ⟨3,j+1,nm⟩ :: D++g=P ++ ⟨3,j+1,nm⟩ :: (D++g) by simp,this]
  rw [show j+1+(gs.length:Int)+1=j+((gs.length+1:Nat):Int)+1 by omega]
  simp
theorem fill_app:∀ (k:Nat) (u:List Cell) (O:List Cell) (op st:List Nat) (v:List Cell),Forest 1 u→okl u→u.length≤k→fill O op st (u++v)=fill (bumpTop op O++u) (popc op st) (close st).2 v
 | 0,u,O,op,st,v,h,_,hl=>by have:=h.len;omega
 | k+1,u,O,op,st,v,h,hok,hl=>by
  obtain ⟨c,r,rfl,hr⟩:=h.one
  obtain ⟨hc,hokr⟩:=okl_cons.1 hok
  simp only [List.length_cons] at hl
  rw [List.cons_append,fill]
  by_cases ha:0<ar c
  ·rw [if_pos ha]
   obtain ⟨c1,c2,c3⟩:=cut_spec hr
   cases hcc:cut (ar c) r with
   | nil=>rw [hcc] at c2;simp at c2;omega
   | cons g gs=>
    rw [hcc] at c1 c2 c3
    have hmem:∀ x ∈ g :: gs,Forest 1 x∧okl x∧x.length≤k:=fun x hx=>by
     have hsub:=List.sublist_flatten_of_mem hx
     rw [c1] at hsub
     refine ⟨c3 x hx,fun y hy=>hokr y (hsub.subset hy),?_⟩
     have:=hsub.length_le
     omega
    have h3:c.f0=3:=by
     by_cases h3:c.f0=3
     ·exact h3
     ·have:ar c=0:=by unfold ar;rw [if_neg h3]
      omega
    have hcc2:=hc
    unfold cellOk at hcc2
    rw [if_neg (by omega),if_neg (by omega),if_pos h3] at hcc2
    simp only [Bool.and_eq_true,decide_eq_true_eq] at hcc2
    have har:ar c=c.f1.toNat:=by unfold ar;rw [if_pos h3]
    simp only [List.length_cons] at c2
    have eb:bare c=⟨3,0,c.f2⟩:=by unfold bare;rw [if_pos h3]
    have:=fill_args (fun u O op st v a b d=>fill_app k u O op st v a b d) gs g (bumpTop op O) [] 0 c.f2 op st v hmem (Int.le_refl _) (by omega)
    rw [bumpTop_len,c2,c1] at this
    rw [eb,this]
    have e:(⟨3,0+(gs.length:Int)+1,c.f2⟩:Cell)=c:=Cell.ext' h3.symm (by show 0+(gs.length:Int)+1=c.f1;omega) rfl
    rw [e]
    simp
  ·have h0:ar c=0:=by omega
   rw [h0] at hr
   obtain rfl:=hr.zero
   rw [if_neg ha,bare_ok hc h0]
   simp
theorem fill_term {t:List Cell} (h:Forest 1 t) (hok:okl t):fill [] [] [] t=t:=by
 have:=fill_app t.length t [] [] [] [] h hok (Nat.le_refl _)
 simpa [bumpTop,popc,close,fill] using this
/-- how many terms are still to come behind the next one -/
def rest_:List Nat→Nat
 | []=>0
 | m :: st=>(m - 1)+rest_ st
theorem rest_close:∀ (st:List Nat) (r:List Cell),(∀ n ∈ st,1≤n)→Forest (rest_ st) r→((close st).2=[]∧r=[])∨((close st).2≠[]∧Forest (1+rest_ (close st).2) r)
 | [],r,_,h=>.inl ⟨rfl,h.zero⟩
 | 0 :: st,r,h1,h=>by have:=h1 0 (by simp);omega
 | 1 :: st,r,h1,h=>by
  rw [close]
  exact rest_close st r (fun n hn=>h1 n (by simp [hn])) (by simpa [rest_] using h)
 | (n+2) :: st,r,h1,h=>by
  rw [close]
  refine .inr ⟨by simp,?_⟩
  have e:1+rest_ ((n+1) :: st)=rest_ ((n+2) :: st):=by simp [rest_];omega
  rw [e];exact h
theorem l1_close (s:ByteArray) (hs:s.size≤1099511627776) (O:List Cell) (r:List Cell × Bool):∀ (st op:List Nat) (a w:List UInt8),s.data.toList=a++((close st).1++w)→op.length=st.length→st.length≤1000→(∀ n ∈ st,1≤n)→((close st).2=[]→w=[])→
  Ev (fun k=>spec_TrmRead.l0 k s O (stk (popc op st)) ((a.length+(close st).1.length:Nat):Int)) r→Ev (fun k=>spec_TrmRead.l1 k s O (stk op) ((a.length:Nat):Int)) r
 | [],op,a,w,h,hl,hb,h1,hw,hr=>by
  have e:op=[]:=List.eq_nil_of_length_eq_zero hl
  subst e
  have hz:=sz_app h
  rw [hw rfl] at hz
  simp [close] at hz
  refine Ev.step (fun k=>rfl) ?_
  simp only [spec_TrmRead.l1]
  refine Ev.ifn (by omega) (Ev.step (fun k=>rfl) ?_)
  simp only [spec_TrmRead.j5]
  refine Ev.ifn (by simp) (Ev.ifn (by omega) ?_)
  simpa [popc,close] using hr
 | 0 :: st,op,a,w,h,hl,hb,h1,hw,hr=>by have:=h1 0 (by simp);omega
 | 1 :: st,[],a,w,h,hl,hb,h1,hw,hr=>by simp at hl
 | 1 :: st,x :: op,a,w,h,hl,hb,h1,hw,hr=>by
  rw [close] at h hw hr
  simp only [List.cons_append] at h
  have hz:=sz_app h
  simp only [List.length_cons,List.length_append] at hz hl hb
  have hbt:=btC s a _ 41 h
  have ih:=l1_close s hs O r st op (a++[41]) w (by rw [h];simp) (by omega) (by omega) (fun n hn=>h1 n (by simp [hn])) hw (by
   rw [snoc_len]
   rw [popc] at hr
   rw [show a.length+1+(close st).1.length=a.length+(41 :: (close st).1).length by simp;omega]
   exact hr)
  refine Ev.step (fun k=>rfl) ?_
  simp only [spec_TrmRead.l1]
  have hl2:((stk (x :: op)).length:Int)=((op.length+1:Nat):Int):=by rw [stk_len];rfl
  rw [hbt,hl2]
  refine Ev.ifp (by omega) (Ev.ifp (by omega) (Ev.ifp (by rfl) (Ev.step (fun k=>rfl) ?_)))
  simp only [spec_TrmRead.j5]
  have hwr:wrap64 (((op.length+1:Nat):Int) - 1)=(op.length:Int):=by rw [w64 (by omega) (by omega)];omega
  rw [hl2,hwr]
  have e1:(stk (x :: op)).take ((op.length:Int)).toNat=stk op:=by
   rw [stk_cons]
   have:=stk_len op
   simp [← this]
  rw [e1,wnext (by omega)]
  rw [snoc_len] at ih
  exact Ev.ifp (decide_eq_true (by omega)) (Ev.ifp (by omega) (Ev.ifp (by omega) ih))
 | (n+2) :: st,op,a,w,h,hl,hb,h1,hw,hr=>by
  rw [close] at h hr
  simp only [List.cons_append,List.nil_append] at h
  have hz:=sz_app h
  simp only [List.length_cons] at hz
  have hbt:=btC s a _ 44 h
  have ep:popc op ((n+2) :: st)=op:=by cases op <;> rfl
  rw [ep] at hr
  refine Ev.step (fun k=>rfl) ?_
  simp only [spec_TrmRead.l1]
  rw [hbt]
  refine Ev.ifp (by omega) (Ev.ifp (by omega) (Ev.ifn (by decide) (Ev.step (fun k=>rfl) ?_)))
  simp only [spec_TrmRead.j5]
  rw [hbt]
  refine Ev.ifn (by simp) (Ev.ifp (by omega) (Ev.ifp (by omega) (Ev.ifp (by rfl) ?_)))
  rw [wnext (by omega)]
  exact hr
theorem l0_read (s:ByteArray) (hs:s.size≤1099511627776):∀ (r:List Cell) (a:List UInt8) (O:List Cell) (op st:List Nat),s.data.toList=a++Cat.out st r→((st=[]∧r=[])∨Forest (1+rest_ st) r)→op.length=st.length→op.length≤O.length→(∀ x ∈ op,x<O.length)→O.length+r.length≤40→okl r→(∀ n ∈ st,1≤n∧n≤3)→
  Ev (fun k=>spec_TrmRead.l0 k s O (stk op) ((a.length:Nat):Int)) (fin s (fill O op st r))
 | [],a,O,op,st,h,hf,hl,hlo,hop,h40,hok,hst=>by
  have hz:=sz_app h
  rw [Cat.out] at hz
  simp only [List.length_nil] at hz
  refine Ev.step (fun k=>rfl) ?_
  simp only [spec_TrmRead.l0]
  refine Ev.ifn (by omega) (Ev.step (fun k=>rfl) ?_)
  simp only [spec_TrmRead.j1]
  rw [fill]
  exact Ev.ifn (by simp) (fin_ev s O)
 | c :: r,a,O,op,st,h,hf,hl,hlo,hop,h40,hok,hst=>by
  obtain ⟨hc,hokr⟩:=okl_cons.1 hok
  have hf1:Forest (rest_ st+ar c) r:=by
   rcases hf with ⟨_,hq⟩|hq
   ·cases hq
   ·rw [Nat.add_comm] at hq;exact Forest.cons_iff.1 hq
  simp only [List.length_cons] at h40
  have hwl:=word_len hc
  have hwp:0<(Cat.word c).length:=by
   rcases Nat.eq_zero_or_pos (Cat.word c).length with hq|hq
   ·exfalso
    have hq:=List.eq_nil_of_length_eq_zero hq
    have hcc:=hc
    unfold Cat.word at hq
    unfold cellOk at hcc
    by_cases h1:c.f0=1
    ·rw [if_pos h1] at hq;cases hq
    rw [if_neg h1] at hq hcc
    by_cases h2:c.f0=2
    ·rw [if_pos h2] at hq
     unfold itoa at hq
     split at hq
     ·cases hq
     ·exact decDigits_ne _ hq
    rw [if_neg h2] at hq hcc
    by_cases h3:c.f0=3
    ·rw [if_pos h3] at hcc
     simp only [Bool.and_eq_true] at hcc
     exact (name_ok hcc.2).1 hq
    ·rw [if_neg h3] at hcc;cases hcc
   ·exact hq
  have hbl:=bumpTop_len op O
  have eb:(⟨(bare c).f0,(bare c).f1,(bare c).f2⟩:Cell)=bare c:=rfl
  have hst1:∀ n ∈ st,1≤n:=fun n hn=>(hst n hn).1
  rw [Cat.out] at h
  rw [fill]
  by_cases ha:0<ar c
  ·rw [if_pos ha] at h ⊢
   have h3:c.f0=3:=by
    by_cases h3:c.f0=3
    ·exact h3
    ·have:ar c=0:=by unfold ar;rw [if_neg h3]
     omega
   have har:ar c≤3:=by
    have hcc:=hc
    unfold cellOk at hcc
    rw [if_neg (by omega),if_neg (by omega),if_pos h3] at hcc
    simp only [Bool.and_eq_true,decide_eq_true_eq] at hcc
    unfold ar;rw [if_pos h3];omega
   have ht:=take_word s hs a _ c hc h (.inr (.inl rfl))
   have hz:=sz_app h
   simp only [List.length_append,List.length_cons] at hz
   have h':s.data.toList=(a++Cat.word c)++40 :: Cat.out (ar c :: st) r:=by rw [h];simp
   have hbt:=btC s _ _ 40 h'
   rw [List.length_append] at hbt
   have ih:=l0_read s hs r (a++Cat.word c++[40]) (bumpTop op O++[bare c]) (O.length :: op) (ar c :: st) (by rw [h];simp) (.inr (by
    have e:1+rest_ (ar c :: st)=rest_ st+ar c:=by simp [rest_];omega
    rw [e];exact hf1)) (by simp;omega) (by simp;omega) (by
     intro x hx
     rw [snoc_len,hbl]
     rcases List.mem_cons.1 hx with rfl|hx
     ·omega
     ·have:=hop x hx;omega) (by rw [snoc_len,hbl];omega) hokr (by
     intro n hn
     rcases List.mem_cons.1 hn with rfl|hn
     ·omega
     ·exact hst n hn)
   refine step_ev s O op a.length (a.length+(Cat.word c).length) _ _ _ _ (by omega) (by omega) hop (by omega) (by omega) ht (j2_ev s _ op _ _ _ _ _ (by omega) (by omega) (fun b hb=>?_))
   have hb1:b=true:=by
    rw [hb,hbt]
    have e1:(bare c).f0=3:=by unfold bare;rw [if_pos h3]
    rw [e1,decide_eq_true (show a.length+(Cat.word c).length<s.size by omega)]
    rfl
   rw [hb1,eb]
   refine j3_true s hs _ _ op _ _ (by omega) (by omega) (by omega) ?_
   rw [hbl]
   rw [snoc_len,List.length_append] at ih
   exact ih
  ·rw [if_neg ha] at h ⊢
   have h0:ar c=0:=by omega
   rw [h0,Nat.add_zero] at hf1
   have hrc:=rest_close st r hst1 hf1
   have hwnil:(close st).2=[]→Cat.out (close st).2 r=[]:=by
    intro e
    rcases hrc with ⟨_,hq⟩|hq
    ·rw [hq,Cat.out]
    ·exact absurd e hq.1
   have hstop:Stop2 ((close st).1++Cat.out (close st).2 r):=by
    cases st with
    | nil=>
     rw [hwnil rfl]
     exact .inl rfl
    | cons n st=>
     have hn:=hst1 n (by simp)
     obtain ⟨m,rfl⟩:∃ m,n=m+1:=⟨n - 1,by omega⟩
     cases m with
     | zero=>exact .inr (.inr (.inr rfl))
     | succ m=>exact .inr (.inr (.inl rfl))
   have ht:=take_word s hs a _ c hc h hstop
   have hz:=sz_app h
   simp only [List.length_append] at hz
   have h':s.data.toList=(a++Cat.word c)++((close st).1++Cat.out (close st).2 r):=by rw [h];simp
   have hpl:=popc_len st op hl
   have hcl:=(close_len st).2
   have ih:=l0_read s hs r (a++Cat.word c++(close st).1) (bumpTop op O++[bare c]) (popc op st) (close st).2 (by rw [h];simp) (hrc.elim .inl (fun q=>.inr q.2)) hpl (by rw [hpl,snoc_len,hbl];omega) (by
     intro x hx
     rw [snoc_len,hbl]
     have:=hop x (popc_sub st op x hx);omega) (by rw [snoc_len,hbl];omega) hokr (close_ok st hst)
   refine step_ev s O op a.length (a.length+(Cat.word c).length) _ _ _ _ (by omega) (by omega) hop (by omega) (by omega) ht (j2_ev s _ op _ _ _ _ _ (by omega) (by omega) (fun b hb=>?_))
   have hb1:b=false:=by
    rw [hb]
    by_cases hlt:a.length+(Cat.word c).length<s.size
    ·have hne:bt s ((a.length+(Cat.word c).length:Nat):Int)≠40:=by
      cases hq:(close st).1++Cat.out (close st).2 r with
      | nil=>rw [hq] at h';have hz':=sz_app h';simp only [List.length_append,List.length_nil] at hz';omega
      | cons y ys=>
       rw [hq] at h' hstop
       have hbt:=btC s _ _ y h'
       rw [List.length_append] at hbt
       rw [hbt]
       intro e
       have e3:y.toNat=40:=by omega
       have e2:y=40:=UInt8.toNat_inj.1 (by rw [e3];rfl)
       -- behind a place without arguments no bracket opens
       cases st with
       | nil=>rw [hwnil rfl] at hq;simp [close] at hq
       | cons n st=>
        have hn:=hst1 n (by simp)
        obtain ⟨m,rfl⟩:∃ m,n=m+1:=⟨n - 1,by omega⟩
        cases m with
        | zero=>simp [close] at hq;rw [← hq.1] at e2;cases e2
        | succ m=>simp [close] at hq;rw [← hq.1] at e2;cases e2
     rw [decide_eq_false hne];simp
    ·rw [decide_eq_false hlt];simp
   rw [hb1,eb]
   refine j3_false s _ op _ _ ?_
   have:=l1_close s hs (bumpTop op O++[bare c]) (fin s (fill (bumpTop op O++[bare c]) (popc op st) (close st).2 r)) st op (a++Cat.word c) (Cat.out (close st).2 r) h' hl (by omega) hst1 hwnil (by
    rw [List.length_append]
    rw [List.length_append,List.length_append] at ih
    exact ih)
   rw [List.length_append] at this
   exact this
/-! ### what both readers answer -/
def readP (s:ByteArray):List Cell × Bool:=match Cat.readF (s.size+1) [] s.data.toList with
 | none=>([],false)
 | some q=>if s.data.toList=[] then ([],false) else if (textB q.1).data.toList=s.data.toList then (q.1,true) else ([],false)
theorem textB_term {t:List Cell} {l:List UInt8} (h:(textB t).data.toList=l) (hl:l≠[]):isTerm t=true∧Cat.text t=l:=by
 unfold textB at h
 by_cases ht:isTerm t=true
 ·rw [if_pos ht,ba_data] at h;exact ⟨ht,h⟩
 ·rw [if_neg ht] at h;exact absurd h.symm hl
theorem readP_term {s:ByteArray} {t:List Cell} (ht:isTerm t=true) (h:Cat.text t=s.data.toList):readP s=(t,true):=by
 have hr:=read_term ht (F:=s.size+1) (by rw [h,← Lib.size_eq];omega)
 rw [h] at hr
 have hne:s.data.toList≠[]:=by rw [← h];exact text_ne ht
 unfold readP
 rw [hr]
 simp only
 rw [if_neg hne,if_pos (by unfold textB;rw [if_pos ht,ba_data,h])]
theorem readP_none {s:ByteArray} (h:∀ t,isTerm t=true→Cat.text t≠s.data.toList):readP s=([],false):=by
 unfold readP
 cases Cat.readF (s.size+1) [] s.data.toList with
 | none=>rfl
 | some q=>
  simp only
  by_cases h0:s.data.toList=[]
  ·rw [if_pos h0]
  ·rw [if_neg h0]
   by_cases h1:(textB q.1).data.toList=s.data.toList
   ·obtain ⟨a,b⟩:=textB_term h1 h0
    exact absurd b (h _ a)
   ·rw [if_neg h1]
theorem readP_cases (s:ByteArray):(∃ t,isTerm t=true∧Cat.text t=s.data.toList∧readP s=(t,true))∨((∀ t,isTerm t=true→Cat.text t≠s.data.toList)∧readP s=([],false)):=by
 by_cases h:∃ t,isTerm t=true∧Cat.text t=s.data.toList
 ·obtain ⟨t,h1,h2⟩:=h
  exact .inl ⟨t,h1,h2,readP_term h1 h2⟩
 ·have h':∀ t,isTerm t=true→Cat.text t≠s.data.toList:=fun t h1 h2=>h ⟨t,h1,h2⟩
  exact .inr ⟨h',readP_none h'⟩
theorem readP_len (s:ByteArray):(readP s).1.length≤40:=by
 rcases readP_cases s with ⟨t,h1,_,e⟩|⟨_,e⟩
 ·rw [e];exact (isTerm_iff.1 h1).2.1
 ·rw [e];simp
theorem sread_ev (s:ByteArray) (hs:s.size≤1099511627776):Ev (fun k=>spec_TrmRead.f k s) (readP s):=by
 obtain ⟨r,hr,hg⟩:=sread_any s hs
 rcases readP_cases s with ⟨t,h1,h2,e⟩|⟨h1,e⟩
 ·rw [e]
  obtain ⟨b1,b2,b3,b4⟩:=isTerm_iff.1 h1
  have:=l0_read s hs t [] [] [] [] (by rw [List.nil_append,out_txt b4];exact h2.symm) (.inr b4) rfl (by simp) (by simp) (by simpa using b2) b3 (by simp)
  rw [fill_term b4 b3] at this
  have ef:fin s t=(t,true):=by
   unfold fin
   rw [if_pos (by unfold textB;rw [if_pos h1,ba_data,h2]),if_neg (by rw [← h2];exact text_ne h1)]
  rw [ef] at this
  exact this
 ·rw [e]
  rcases hg with hg|⟨g1,g2,g3⟩
  ·rw [← hg];exact hr
  ·obtain ⟨a,b⟩:=textB_term g2 g3
   exact absurd b (h1 _ a)
theorem iread_ev (s:ByteArray) (hs:s.size≤1099511627776):Ev (fun k=>impl_TrmRead.f k s) (readP s):=by
 obtain ⟨o,r,hr,_⟩:=readF_some (s.size+1) [] s.data.toList (by rw [← Lib.size_eq];omega)
 unfold impl_TrmRead.f readP
 refine Ev.ifp hs ?_
 rw [hr]
 simp only [Option.bind_some]
 by_cases h0:s.data.toList=[]
 ·rw [if_pos h0];exact Ev.ifp h0 (Ev.now _)
 ·rw [if_neg h0]
  refine Ev.ifn h0 (Ev.bind (itext_ev o) ?_)
  by_cases h1:(textB o).data.toList=s.data.toList
  ·have e:(if (textB o).data.toList=s.data.toList then (o,true) else (([]:List Cell),false))=(o,true):=if_pos h1
   rw [e]
   exact Ev.ifp h1 (Ev.now _)
  ·have e:(if (textB o).data.toList=s.data.toList then (o,true) else (([]:List Cell),false))=([],false):=if_neg h1
   rw [e]
   exact Ev.ifn h1 (Ev.now _)
end Go.Proofs.YtlhniagacegbeaaGreatDoor.P
