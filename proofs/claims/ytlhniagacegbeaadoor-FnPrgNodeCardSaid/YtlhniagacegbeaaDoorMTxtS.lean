/- What the reference and the program write for a term is its text. -/
import Derived.Test.YtlhniagacegbeaaDoorMText
import Derived.Test.YtlhniagacegbeaaDoorMTrm
import Derived.Test.YtlhniagacegbeaaDoorP2
import Derived.Test.YtlhniagacegbeaaDoorP2
import Derived.Test.YtlhniagacegbeaaDoorP2
namespace Go.Proofs.YtlhniagacegbeaaDoor.P
set_option linter.unusedVariables false
set_option linter.unusedSimpArgs false
open Go.RowKit Go.Proofs.YtlhniagacegbeaaDoor.Cat Go.Proofs.YtlhniagacegbeaaDoorW.PrintWords Go.Proofs.YtlhniagacegbeaaDoorW.PrintLast Go.Lib
def ba (l:List UInt8):ByteArray:=⟨l.toArray⟩
theorem ba_app (a b:List UInt8):ba a++ba b=ba (a++b):=by
 refine ba_ext ?_
 rw [ByteArray.data_append]
 simp [ba]
theorem ba_size (a:List UInt8):(ba a).size=a.length:=by simp [ba,ByteArray.size]
theorem ba_data (a:List UInt8):(ba a).data.toList=a:=by simp [ba]
theorem ba_of (s:ByteArray):ba s.data.toList=s:=ba_ext (by simp [ba])
theorem plain_one {d:Nat} (h:d<10):strOfNums [(wrap64 (48+(d:Int))) % 256]=ba [UInt8.ofNat (48+d)]:=by
 rw [w64 (by omega) (by omega)]
 refine ba_ext ?_
 rw [strOfNums_data,ba_data,List.map_cons,List.map_nil]
 congr 2
 omega
theorem plain_loop:∀ (m n:Nat) (acc:List UInt8),n≤m→n≤9999999→n+acc.length≤100000000→
  Ev (fun k=>spec_l1Plain.l0 k (n:Int) (ba acc)) (ba (decDigits n++acc)):=by
 intro m
 induction m with
 | zero=>
  intro n acc h1 h2 h3
  obtain rfl:n=0:=by omega
  refine Ev.step (fun k=>rfl) ?_
  simp only [spec_l1Plain.l0]
  refine Ev.ifn (by omega) (Ev.bindv rfl ?_)
  have e:=plain_one (d:=0) (by omega)
  rw [e,ba_size]
  refine Ev.ifp (by rw [ba_size];simp only [List.length_singleton];omega) (Ev.pure ?_)
  rw [ba_app,decDigits,dif_pos (by omega)]
 | succ m ih=>
  intro n acc h1 h2 h3
  refine Ev.step (fun k=>rfl) ?_
  simp only [spec_l1Plain.l0]
  by_cases h:n<10
  ·refine Ev.ifn (by omega) (Ev.bindv rfl ?_)
   have e:=plain_one h
   rw [e,ba_size]
   refine Ev.ifp (by rw [ba_size];simp only [List.length_singleton];omega) (Ev.pure ?_)
   rw [ba_app,decDigits,dif_pos h]
  ·refine Ev.ifp (by omega) (Ev.bindv rfl ?_)
   have et:Int.tmod (n:Int) 10=((n % 10:Nat):Int):=by rw [Int.tmod_eq_emod_of_nonneg (by omega)];omega
   have ed:Int.tdiv (n:Int) 10=((n / 10:Nat):Int):=by rw [Int.tdiv_eq_ediv_of_nonneg (by omega)];omega
   have e:=plain_one (d:=n % 10) (Nat.mod_lt _ (by omega))
   rw [et,ed,e,ba_size,w64 (by omega) (by omega)]
   refine Ev.ifp (by rw [ba_size];simp only [List.length_singleton];omega) ?_
   rw [ba_app,decDigits,dif_neg h,List.append_assoc]
   exact ih (n / 10) (UInt8.ofNat (48+n % 10) :: acc) (by omega) (by omega) (by simp;omega)
theorem plain_ev (n:Nat) (h:n≤9999999):Ev (fun k=>spec_l1Plain.f k (n:Int)) (ba (decDigits n)):=by
 have:=plain_loop n n [] (Nat.le_refl _) h (by simp;omega)
 rw [List.append_nil] at this
 exact this
theorem decd_len {u:Nat} (h:u≤99999):(decDigits u).length≤5:=by
 rw [decDigits_length]
 have s:=@nDigits_small
 have b:=@nDigits_big
 by_cases h0:u<10
 ·rw [s h0];omega
 rw [b h0]
 by_cases h1:u / 10<10
 ·rw [s h1];omega
 rw [b h1]
 by_cases h2:u / 10 / 10<10
 ·rw [s h2];omega
 rw [b h2]
 by_cases h3:u / 10 / 10 / 10<10
 ·rw [s h3];omega
 rw [b h3]
 have h4:u / 10 / 10 / 10 / 10<10:=by omega
 rw [s h4];omega
theorem itoa_small {n:Int} (h0:-99999≤n) (h1:n≤99999):(itoa n).length≤6:=by
 unfold itoa
 split
 ·have:=decd_len (u:=n.natAbs) (by omega);simp;omega
 ·have:=decd_len (u:=n.toNat) (by omega);omega
theorem word_len {c:Cell} (hc:cellOk c=true):(Cat.word c).length≤8:=by
 unfold cellOk at hc
 unfold Cat.word
 by_cases h1:c.f0=1
 ·rw [if_pos h1] at hc ⊢
  simp only [Bool.and_eq_true,decide_eq_true_eq] at hc
  have:=itoa_small (n:=c.f1) (by omega) (by omega)
  simp;omega
 rw [if_neg h1] at hc ⊢
 by_cases h2:c.f0=2
 ·rw [if_pos h2] at hc ⊢
  simp only [Bool.and_eq_true,decide_eq_true_eq] at hc
  have:=itoa_small (n:=c.f1) (by omega) (by omega)
  omega
 rw [if_neg h2] at hc ⊢
 by_cases h3:c.f0=3
 ·rw [if_pos h3] at hc
  simp only [Bool.and_eq_true,decide_eq_true_eq,nameOk,nameOkL] at hc
  omega
 ·rw [if_neg h3] at hc;cases hc
theorem word_ev {c:Cell} (hc:cellOk c=true):Ev (fun k=>spec_l1Word.f k c.f0 c.f1 c.f2) (ba (Cat.word c)):=by
 have hl:=word_len hc
 unfold cellOk at hc
 unfold spec_l1Word.f
 unfold Cat.word at hl ⊢
 by_cases h1:c.f0=1
 ·rw [if_pos h1] at hc hl ⊢
  simp only [Bool.and_eq_true,decide_eq_true_eq] at hc
  refine Ev.ifp h1 ?_
  obtain ⟨n,hn⟩:=Int.eq_ofNat_of_zero_le hc.1.1
  have hp:=plain_ev n (by omega)
  rw [← hn] at hp
  refine Ev.bind hp ?_
  have e:itoa c.f1=decDigits n:=by rw [hn];exact itoa_nonneg n
  rw [e] at hl ⊢
  simp only [List.length_cons] at hl
  refine Ev.ifp (by rw [ba_size];omega) (Ev.pure ?_)
  exact ba_app [88] _
 rw [if_neg h1] at hc hl ⊢
 refine Ev.ifn h1 ?_
 by_cases h2:c.f0=2
 ·rw [if_pos h2] at hc hl ⊢
  simp only [Bool.and_eq_true,decide_eq_true_eq] at hc
  refine Ev.ifp h2 ?_
  by_cases hn:c.f1<0
  ·refine Ev.ifp hn ?_
   rw [w64 (by omega) (by omega)]
   have e0:-c.f1=((c.f1.natAbs:Nat):Int):=by omega
   have hp:=plain_ev c.f1.natAbs (by omega)
   rw [← e0] at hp
   refine Ev.bind hp ?_
   have e:itoa c.f1=45 :: decDigits c.f1.natAbs:=by unfold itoa;rw [if_pos hn]
   rw [e] at hl ⊢
   simp only [List.length_cons] at hl
   refine Ev.ifp (by rw [ba_size];omega) (Ev.pure ?_)
   exact ba_app [45] _
  ·refine Ev.ifn hn ?_
   have e0:c.f1=((c.f1.toNat:Nat):Int):=by omega
   have hp:=plain_ev c.f1.toNat (by omega)
   rw [← e0] at hp
   refine Ev.bind hp (Ev.pure ?_)
   unfold itoa;rw [if_neg hn]
 rw [if_neg h2] at hc ⊢
 refine Ev.ifn h2 (Ev.pure ?_)
 exact (ba_of _).symm
def stk (st:List Nat):List Int:=st.reverse.map (fun n:Nat=>(n:Int))
theorem stk_cons (n:Nat) (st:List Nat):stk (n :: st)=stk st++[(n:Int)]:=by simp [stk]
theorem stk_len (st:List Nat):(stk st).length=st.length:=by simp [stk]
theorem close_len:∀ st:List Nat,(close st).1.length≤st.length∧(close st).2.length≤st.length
 | []=>by simp [close]
 | 0 :: st=>by simp [close]
 | 1 :: st=>by have:=close_len st;simp [close];omega
 | (n+2) :: st=>by simp [close]
theorem close_ok:∀ st:List Nat,(∀ n ∈ st,1≤n∧n≤3)→∀ n ∈ (close st).2,1≤n∧n≤3
 | [],_=>by simp [close]
 | 0 :: st,h=>by have:=h 0 (by simp);omega
 | 1 :: st,h=>by
  rw [close]
  exact close_ok st (fun n hn=>h n (by simp [hn]))
 | (n+2) :: st,h=>by
  rw [close]
  intro m hm
  rcases List.mem_cons.1 hm with rfl|hm
  ·have:=h (n+2) (by simp);omega
  ·exact h m (by simp [hm])
theorem close_ev (l:List Cell) (i:Nat) (hi:i≤9223372036854775806) (r:ByteArray):∀ (st:List Nat) (s:List UInt8),(∀ n ∈ st,1≤n∧n≤3)→s.length+st.length≤1000000→
  Ev (fun k=>spec_TrmText.l0 k l (ba (s++(close st).1)) (stk (close st).2) ((i+1:Nat):Int)) r→Ev (fun k=>spec_TrmText.l1 k l (ba s) (stk st) (i:Int)) r
 | [],s,h,hs,hr=>by
  refine Ev.step (fun k=>rfl) ?_
  simp only [spec_TrmText.l1]
  refine Ev.ifn (by simp [stk]) ?_
  rw [wnext hi]
  simpa [close] using hr
 | 0 :: st,s,h,hs,hr=>by have:=h 0 (by simp);omega
 | (n+1) :: st,s,h,hs,hr=>by
  have hst:∀ n ∈ st,1≤n∧n≤3:=fun m hm=>h m (by simp [hm])
  have hn:=h (n+1) (by simp)
  refine Ev.step (fun k=>rfl) ?_
  simp only [spec_TrmText.l1]
  have hl:((stk ((n+1) :: st)).length:Int)=((st.length+1:Nat):Int):=by rw [stk_len];rfl
  simp only [List.length_cons] at hs
  have hw:wrap64 (((st.length+1:Nat):Int) - 1)=(st.length:Int):=by rw [w64 (by omega) (by omega)];omega
  have hrd:rd (stk ((n+1) :: st)) (st.length:Int)=((n+1:Nat):Int):=by
   rw [stk_cons]
   have:=stk_len st
   simp [rd,List.getD,← this]
  rw [hl,hw,hrd]
  refine Ev.ifp (by omega) (Ev.ifp (by omega) (Ev.ifp (by omega) ?_))
  cases n with
  | zero=>
   refine Ev.ifp (by rfl) (Ev.ifp (by rw [ba_size];omega) (Ev.ifp (by omega) ?_))
   have e1:(stk ((0+1) :: st)).take ((st.length:Int)).toNat=stk st:=by
    rw [stk_cons]
    have:=stk_len st
    simp [← this]
   rw [e1,show ba s++(⟨#[41]⟩:ByteArray)=ba (s++[41]) from ba_app s [41]]
   refine close_ev l i hi r st (s++[41]) hst (by simp;omega) ?_
   rw [close] at hr
   simpa using hr
  | succ n=>
   refine Ev.ifn (by omega) (Ev.ifp (by rw [ba_size];omega) ?_)
   have e1:(stk ((n+1+1) :: st)).set ((st.length:Int)).toNat (wrap64 (((n+1+1:Nat):Int) - 1))=stk ((n+1) :: st):=by
    rw [stk_cons,stk_cons,w64 (by omega) (by omega)]
    have:=stk_len st
    have e:(((n+1+1:Nat):Int) - 1)=((n+1:Nat):Int):=by omega
    rw [e,Int.toNat_natCast,← this]
    simp
   rw [e1,show ba s++(⟨#[44]⟩:ByteArray)=ba (s++[44]) from ba_app s [44],wnext hi]
   rw [close] at hr
   exact hr
theorem out_ev (l:List Cell) (hl:l.length≤40) (ho:okl l):∀ (r a:List Cell) (st:List Nat) (s:List UInt8),l=a++r→s.length+60 * r.length≤100000→(∀ n ∈ st,1≤n∧n≤3)→st.length≤a.length→
  Ev (fun k=>spec_TrmText.l0 k l (ba s) (stk st) ((a.length:Nat):Int)) (ba (s++Cat.out st r))
 | [],a,st,s,h,hs,hst,hsl=>by
  refine Ev.step (fun k=>rfl) ?_
  simp only [spec_TrmText.l0]
  refine Ev.ifn (by rw [h];simp) (Ev.pure ?_)
  rw [Cat.out,List.append_nil]
 | c :: r,a,st,s,h,hs,hst,hsl=>by
  have hc:cellOk c=true:=ho c (by rw [h];simp)
  have hwl:=word_len hc
  have hal:a.length+(r.length+1)≤40:=by rw [h] at hl;simpa using hl
  simp only [List.length_cons] at hs
  have hlt:((a.length:Nat):Int)<(l.length:Int):=by rw [h];simp;omega
  have hrd:rd_T44 l ((a.length:Nat):Int)=c:=by rw [h];exact rdC a r c
  have e:l=(a++[c])++r:=by rw [h];simp
  refine Ev.step (fun k=>rfl) ?_
  simp only [spec_TrmText.l0,hrd]
  refine Ev.ifp hlt (Ev.ifp (by omega) (Ev.bind (word_ev hc) (Ev.ifp (by rw [ba_size,ba_size];omega) ?_)))
  rw [ba_app,Cat.out]
  have hfin:∀ b:Bool,b=decide (0<ar c)→Ev (fun k=>spec_TrmText.j1 k l (ba (s++Cat.word c)) (stk st) ((a.length:Nat):Int) b) (ba (s++(Cat.word c++if 0<ar c then 40 :: Cat.out (ar c :: st) r else (close st).1++Cat.out (close st).2 r))):=by
   intro b hb
   refine Ev.step (fun k=>rfl) ?_
   simp only [spec_TrmText.j1,hrd]
   have hcc:=hc
   unfold cellOk at hcc
   by_cases ha:0<ar c
   ·have h3:c.f0=3:=by
     by_cases h3:c.f0=3
     ·exact h3
     ·have:ar c=0:=by unfold ar;rw [if_neg h3]
      omega
    rw [if_neg (by omega),if_neg (by omega),if_pos h3] at hcc
    simp only [Bool.and_eq_true,decide_eq_true_eq] at hcc
    have har:ar c=c.f1.toNat:=by unfold ar;rw [if_pos h3]
    refine Ev.ifp (by rw [hb];exact decide_eq_true ha) (Ev.ifp (by rw [ba_size];simp;omega) (Ev.ifp (by omega) (Ev.ifp hlt (Ev.ifp (by rw [stk_len];omega) ?_))))
    rw [if_pos ha,show ba (s++Cat.word c)++(⟨#[40]⟩:ByteArray)=ba (s++Cat.word c++[40]) from ba_app _ [40],wnext (by omega)]
    have e1:stk st++[c.f1]=stk (ar c :: st):=by rw [stk_cons];congr 2;omega
    rw [e1]
    have:=out_ev l hl ho r (a++[c]) (ar c :: st) (s++Cat.word c++[40]) e (by simp;omega) (by
     intro n hn
     rcases List.mem_cons.1 hn with rfl|hn
     ·omega
     ·exact hst n hn) (by simp;omega)
    rw [snoc_len] at this
    simpa using this
   ·refine Ev.ifn (by rw [hb];simp;omega) ?_
    rw [if_neg ha]
    have hcl:=close_len st
    refine close_ev l a.length (by omega) _ st (s++Cat.word c) hst (by simp;omega) ?_
    have:=out_ev l hl ho r (a++[c]) (close st).2 (s++Cat.word c++(close st).1) e (by simp;omega) (close_ok st hst) (by simp;omega)
    rw [snoc_len] at this
    simpa using this
  by_cases h3:c.f0=3
  ·refine Ev.ifp h3 (hfin _ ?_)
   unfold ar;rw [if_pos h3]
   congr 1
   exact propext (by omega)
  ·refine Ev.ifn h3 (hfin _ ?_)
   unfold ar;rw [if_neg h3];simp
def textB (l:List Cell):ByteArray:=if isTerm l=true then ba (Cat.text l) else ⟨#[]⟩
theorem stext_ev (l:List Cell):Ev (fun k=>spec_TrmText.f k l) (textB l):=by
 unfold spec_TrmText.f textB
 refine Ev.bind (sok_ev l) ?_
 by_cases h:isTerm l=true
 ·refine Ev.ifp h ?_
  rw [if_pos h]
  obtain ⟨h1,h2,h3,h4⟩:=isTerm_iff.1 h
  have:=out_ev l h2 h3 l [] [] [] rfl (by simp;omega) (by simp) (by simp)
  rw [List.nil_append,out_txt h4] at this
  show Ev (fun n=>spec_TrmText.l0 n l (ba []) (stk []) (([]:List Cell).length:Int)) (ba (txt l.length l))
  exact this
 ·refine Ev.ifn h ?_
  rw [if_neg h]
  exact Ev.now _
end Go.Proofs.YtlhniagacegbeaaDoor.P
