/- Reading of terms: what the program's reader makes of a text; that a term's text is read as the term. Plain mathematics. Conditions: none. -/
import Derived.Test.YtlhniagacegbeaaGreatDoorMText
import Derived.Lib.AtoiTie
import Derived.Lib.AtoiAllCases
import Derived.RowKit
namespace Go.Proofs.YtlhniagacegbeaaGreatDoor.Cat
set_option linter.unusedVariables false
set_option linter.unusedSimpArgs false
open Go.Lib Go.RowKit

def isDig (b:UInt8):Bool:=decide (48≤b.toNat∧b.toNat≤57)
def isLet (b:UInt8):Bool:=decide (97≤b.toNat∧b.toNat≤122)
def isNum (b:UInt8):Bool:=decide (b.toNat=45) || isDig b
/-- what Atoi answers, whatever it says of errors -/
def num (l:List UInt8):Int:=match atoiAll l with
 | .ok v=>v
 | .syntax=>0
 | .range=>atoiSat l
def bump (i:Nat) (o:List Cell):List Cell:=o.modify i fun c=>⟨c.f0,wrap64 (c.f1+1),c.f2⟩
def trimC (l:List UInt8):List UInt8:=if l.head?=some 41 then l.tail else l
/-- the arguments of the name at place i, one behind the other -/
def readL (rd:List Cell→List UInt8→Option (List Cell × List UInt8)) (i:Nat):Nat→List Cell→List UInt8→Option (List Cell × List UInt8)
 | 0,_,_=>none
 | f+1,o,r=>if r=[]∨r.head?=some 41∨40<o.length then some (o,r) else (rd (bump i o) r.tail).bind fun q=>readL rd i f q.1 q.2
def readF:Nat→List Cell→List UInt8→Option (List Cell × List UInt8)
 | 0,_,_=>none
 | f+1,o,s=>if s=[]∨40<o.length then some (o,[]) else
  if s.head?=some 88 then some (o++[⟨1,num (s.tail.takeWhile isDig),⟨#[]⟩⟩],s.tail.dropWhile isDig)
  else if s.takeWhile isLet≠[] then
   if (s.dropWhile isLet).head?=some 40 then (readL (readF f) o.length f (o++[⟨3,0,⟨(s.takeWhile isLet).toArray⟩⟩]) (s.dropWhile isLet)).map fun q=>(q.1,trimC q.2)
   else some (o++[⟨3,0,⟨(s.takeWhile isLet).toArray⟩⟩],s.dropWhile isLet)
  else some (o++[⟨2,num (s.takeWhile isNum),⟨#[]⟩⟩],s.dropWhile isNum)

theorem takeW {p:UInt8→Bool} {a v:List UInt8} (ha:∀ b ∈ a,p b=true) (hv:∀ x,v.head?=some x→p x=false):(a++v).takeWhile p=a∧(a++v).dropWhile p=v:=by
 induction a with
 | nil=>
  cases v with
  | nil=>simp
  | cons x v=>have:=hv x rfl;simp [this]
 | cons x a ih=>
  have hx:=ha x (by simp)
  obtain ⟨h1,h2⟩:=ih (fun b hb=>ha b (by simp [hb]))
  simp only [List.cons_append,List.takeWhile_cons,List.dropWhile_cons,hx,if_true]
  exact ⟨by rw [h1],h2⟩
theorem dropW_len {p:UInt8→Bool}:∀ (s:List UInt8),(s.dropWhile p).length≤s.length
 | []=>by simp
 | x :: s=>by
  rw [List.dropWhile_cons]
  split
  ·have:=dropW_len (p:=p) s;simp;omega
  ·simp
theorem dropW_lt {p:UInt8→Bool} {s:List UInt8} (h:s.takeWhile p≠[]):(s.dropWhile p).length<s.length:=by
 cases s with
 | nil=>simp at h
 | cons x s=>
  rw [List.takeWhile_cons] at h
  by_cases hx:p x=true
  ·rw [List.dropWhile_cons,if_pos hx]
   have:=dropW_len (p:=p) s
   simp;omega
  ·rw [if_neg hx] at h;exact absurd rfl h
theorem bump_len (i:Nat) (o:List Cell):(bump i o).length=o.length:=by simp [bump]
theorem bump_at (pre post:List Cell) (c:Cell):bump pre.length (pre++c :: post)=pre ++ ⟨c.f0,wrap64 (c.f1+1),c.f2⟩ :: post:=by
 induction pre with
 | nil=>simp [bump,List.modify]
 | cons x pre ih=>
  simp only [bump,List.length_cons,List.cons_append,List.modify_succ_cons] at ih ⊢
  rw [ih]
theorem trimC_len (l:List UInt8):(trimC l).length≤l.length:=by
 unfold trimC;split
 ·simp
 ·exact Nat.le_refl _

/-! ### numerals -/
theorem digit_ok {d:Nat} (h:d<10):isDig (UInt8.ofNat (48+d))=true∧digitVal (UInt8.ofNat (48+d))=some d:=by
 have e:(UInt8.ofNat (48+d)).toNat=48+d:=by rw [UInt8.toNat_ofNat'];omega
 unfold isDig digitVal
 rw [e]
 exact ⟨decide_eq_true (by omega),by rw [if_pos (by omega)];congr 1;omega⟩
theorem decDigits_dig:∀ (u:Nat) (b:UInt8),b ∈ decDigits u→isDig b=true:=by
 intro u
 induction u using Nat.strongRecOn with
 | _ u ih=>
  intro b hb
  rw [decDigits] at hb
  by_cases h:u<10
  ·rw [dif_pos h] at hb
   rw [List.mem_singleton.1 hb]
   exact (digit_ok h).1
  ·rw [dif_neg h] at hb
   rcases List.mem_append.1 hb with hb|hb
   ·exact ih (u / 10) (by omega) b hb
   ·rw [List.mem_singleton.1 hb];exact (digit_ok (Nat.mod_lt _ (by omega))).1
theorem decFrom_app:∀ (a b:List UInt8) (n:Nat),decFrom n (a++b)=(decFrom n a).bind fun m=>decFrom m b
 | [],b,n=>rfl
 | x :: a,b,n=>by
  rw [List.cons_append,decFrom,decFrom]
  cases digitVal x with
  | none=>rfl
  | some d=>exact decFrom_app a b _
theorem decFrom_digits:∀ (u:Nat),decFrom 0 (decDigits u)=some u:=by
 intro u
 induction u using Nat.strongRecOn with
 | _ u ih=>
  rw [decDigits]
  by_cases h:u<10
  ·rw [dif_pos h];simp only [decFrom,(digit_ok h).2,Nat.zero_mul,Nat.zero_add]
  ·rw [dif_neg h,decFrom_app,ih (u / 10) (by omega)]
   simp only [Option.bind_some,decFrom,(digit_ok (Nat.mod_lt u (show 0<10 by omega))).2]
   congr 1;omega
theorem decDigits_ne (u:Nat):decDigits u≠[]:=by
 rw [decDigits];split
 ·simp
 ·simp
theorem decDigits_len {u:Nat} (h:u≤99999):(decDigits u).length≤5:=by
 rw [decDigits_length]
 have s:=@nDigits_small
 have b:=@nDigits_big
 by_cases h0:u<10
 ·rw [s h0];omega
 rw [b h0]
 by_cases h1:u / 10<10
 ·rw [s h1];omega
 rw [b h1]
 by_cases h2:u / 10 / 10<10
 ·rw [s h2];omega
 rw [b h2]
 by_cases h3:u / 10 / 10 / 10<10
 ·rw [s h3];omega
 rw [b h3]
 have h4:u / 10 / 10 / 10 / 10<10:=by omega
 rw [s h4];omega
theorem itoa_len {n:Int} (h0:-99999≤n) (h1:n≤99999):(itoa n).length≤6:=by
 unfold itoa
 split
 ·have:=decDigits_len (u:=n.natAbs) (by omega);simp;omega
 ·have:=decDigits_len (u:=n.toNat) (by omega);omega
theorem atoi_dig {u:Nat}:atoi (decDigits u)=some (u:Int):=by
 cases h:decDigits u with
 | nil=>exact absurd h (decDigits_ne u)
 | cons b r=>
  have hb:=decDigits_dig u b (by rw [h];simp)
  have h45:(b == 45)=false:=by
   rw [beq_eq_false_iff_ne];rintro rfl;exact absurd hb (by decide)
  have h43:(b == 43)=false:=by
   rw [beq_eq_false_iff_ne];rintro rfl;exact absurd hb (by decide)
  simp only [atoi,h45,h43,Bool.false_eq_true,if_false]
  rw [← h]
  unfold decNat
  rw [decFrom_digits,h]
  rfl
theorem num_itoa {n:Int} (h0:-99999≤n) (h1:n≤99999):num (itoa n)=n:=by
 have hl:=itoa_len h0 h1
 have h:atoi (itoa n)=some n:=by
  unfold itoa
  split
  ·rename_i hn
   have h2:decNat (decDigits n.natAbs)=some n.natAbs:=by
    unfold decNat
    rw [decFrom_digits]
    cases h:decDigits n.natAbs with
    | nil=>exact absurd h (decDigits_ne _)
    | cons b r=>rfl
   simp only [atoi,h2]
   simp
   omega
  ·rename_i hn
   rw [atoi_dig]
   congr 1;omega
 unfold num
 rw [atoiAll_short _ (by omega),h]
 rfl

/-! ### of a term's text -/
/-- what may stand behind a term's text -/
def Stop (v:List UInt8):Prop:=v=[]∨v.head?=some 44∨v.head?=some 41
theorem Stop.dig {v:List UInt8} (h:Stop v):∀ x,v.head?=some x→isDig x=false∧isLet x=false∧isNum x=false∧x≠40:=by
 intro x hx
 rcases h with rfl|h|h
 ·cases hx
 ·rw [h] at hx;cases hx;decide
 ·rw [h] at hx;cases hx;decide
theorem readL_step {rd:List Cell→List UInt8→Option (List Cell × List UInt8)} {i f:Nat} {o o':List Cell} {b:UInt8} {s w:List UInt8} (hb:b≠41) (ho:o.length≤40) (h:rd (bump i o) s=some (o',w)) :
  readL rd i (f+1) o (b :: s)=readL rd i f o' w:=by
 rw [readL,if_neg (by simp;exact ⟨hb,by omega⟩),List.tail_cons,h]
 rfl
theorem readL_end {rd:List Cell→List UInt8→Option (List Cell × List UInt8)} {i f:Nat} {o:List Cell} {v:List UInt8}:readL rd i (f+1) o (41 :: v)=some (o,41 :: v):=by
 rw [readL,if_pos (by simp)]
theorem wrap_small {j:Int} (h0:0≤j) (h1:j≤100):wrap64 (j+1)=j+1:=by unfold wrap64;omega
theorem readL_args {k F:Nat} (ih:∀ (u:List Cell) (o:List Cell) (v:List UInt8),Forest 1 u→okl u→u.length≤k→o.length+u.length≤40→Stop v→(text u++v).length<F→readF F o (text u++v)=some (o++u,v)) :
  ∀ (gs:List (List Cell)) (pre done:List Cell) (j:Int) (nm:ByteArray) (v:List UInt8) (f:Nat),(∀ g ∈ gs,Forest 1 g∧okl g∧g.length≤k)→(pre ++ ⟨3,j,nm⟩ :: done).length+gs.flatten.length≤40→0≤j→j+gs.length≤3→gs.length<f→(gs.flatMap (fun g=>44 :: text g)++41 :: v).length<F+1→
   readL (readF F) pre.length f (pre ++ ⟨3,j,nm⟩ :: done) (gs.flatMap (fun g=>44 :: text g)++41 :: v)=some (pre ++ ⟨3,j+gs.length,nm⟩ :: (done++gs.flatten),41 :: v)
 | [],pre,done,j,nm,v,f,hg,hl,h0,h3,hf,hF=>by
  obtain ⟨f,rfl⟩:∃ m,f=m+1:=⟨f - 1,by simp at hf;omega⟩
  simp only [List.flatMap_nil,List.nil_append,List.flatten_nil,List.append_nil,List.length_nil]
  rw [readL_end]
  simp
 | g :: gs,pre,done,j,nm,v,f,hg,hl,h0,h3,hf,hF=>by
  obtain ⟨f,rfl⟩:∃ m,f=m+1:=⟨f - 1,by simp at hf;omega⟩
  obtain ⟨g1,g2,g3⟩:=hg g (by simp)
  have hgl:=g1.len
  simp only [List.flatMap_cons,List.cons_append,List.append_assoc,List.flatten_cons,List.length_append,List.length_cons] at hl hF h3 hf ⊢
  have hs:Stop (gs.flatMap (fun g=>44 :: text g)++41 :: v):=by
   cases gs with
   | nil=>exact .inr (.inr rfl)
   | cons g' gs=>exact .inr (.inl rfl)
  have h1:=ih g (pre ++ ⟨3,wrap64 (j+1),nm⟩ :: done) (gs.flatMap (fun g=>44 :: text g)++41 :: v) g1 g2 g3 (by simp;omega) hs (by simp only [List.length_append,List.length_cons] at hF ⊢;omega)
  have hb:=bump_at pre done ⟨3,j,nm⟩
  rw [readL_step (by decide) (by simp;omega) (by rw [hb];exact h1)]
  rw [wrap_small h0 (by omega)]
  have:=readL_args ih gs pre (done++g) (j+1) nm v f (fun x hx=>hg x (by simp [hx])) (by simp only [List.length_append,List.length_cons];omega) (by omega) (by omega) (by omega) (by simp only [List.length_append,List.length_cons] at hF ⊢;omega)
  simp only [List.append_assoc,List.cons_append,List.nil_append] at this ⊢
  rw [this]
  have e:j+1+(gs.length:Int)=j+((gs.length+1:Nat):Int):=by omega
  rw [e]
theorem name_ok {l:List UInt8} (h:nameOkL l=true):l≠[]∧(∀ b ∈ l,isLet b=true)∧l.length≤8:=by
 unfold nameOkL at h
 simp only [Bool.and_eq_true,decide_eq_true_eq,List.all_eq_true] at h
 refine ⟨?_,fun b hb=>?_,h.1.1.2⟩
 ·rintro rfl;simp at h
 ·have:=h.1.2 b hb;unfold isLet;exact decide_eq_true this
theorem read_text:∀ (k:Nat) (u:List Cell) (o:List Cell) (v:List UInt8) (F:Nat),Forest 1 u→okl u→u.length≤k→o.length+u.length≤40→Stop v→(text u++v).length<F→readF F o (text u++v)=some (o++u,v)
 | 0,u,o,v,F,h,_,hl,_,_,_=>by have:=h.len;omega
 | k+1,u,o,v,F,h,hok,hl,ho,hv,hF=>by
  obtain ⟨c,r,rfl,hr⟩:=h.one
  obtain ⟨F,rfl⟩:∃ m,F=m+1:=⟨F - 1,by omega⟩
  obtain ⟨hc,hokr⟩:=okl_cons.1 hok
  simp only [List.length_cons] at hl ho
  have hd:=hv.dig
  have ho40:¬ 40<o.length:=by omega
  rw [text_cons h] at hF ⊢
  have hc0:=hc
  unfold cellOk at hc
  by_cases h1:c.f0=1
  ·rw [if_pos h1] at hc
   simp only [Bool.and_eq_true,decide_eq_true_eq,List.isEmpty_iff] at hc
   have ha:ar c=0:=ar_var h1
   rw [ha] at hr hF ⊢
   obtain rfl:=hr.zero
   simp only [cut_zero,List.map_nil,joined,List.append_nil,word,if_pos h1] at hF ⊢
   obtain ⟨t1,t2⟩:=takeW (p:=isDig) (a:=itoa c.f1) (v:=v) (fun b hb=>by
    unfold itoa at hb;rw [if_neg (by omega)] at hb;exact decDigits_dig _ b hb) (fun x hx=>(hd x hx).1)
   rw [readF,if_neg (by simp;omega),if_pos (by simp)]
   simp only [List.cons_append,List.tail_cons]
   rw [t1,t2,num_itoa (by omega) (by omega)]
   have e:(⟨1,c.f1,⟨#[]⟩⟩:Cell)=c:=Cell.ext' h1.symm rfl (ba_ext (by rw [hc.2]))
   rw [e]
  rw [if_neg h1] at hc
  by_cases h2:c.f0=2
  ·rw [if_pos h2] at hc
   simp only [Bool.and_eq_true,decide_eq_true_eq,List.isEmpty_iff] at hc
   have ha:ar c=0:=by unfold ar;rw [if_neg (by omega)]
   rw [ha] at hr hF ⊢
   obtain rfl:=hr.zero
   simp only [cut_zero,List.map_nil,joined,List.append_nil,word,if_neg h1,if_pos h2] at hF ⊢
   have hnum:∀ b ∈ itoa c.f1,isNum b=true:=by
    intro b hb
    unfold itoa at hb
    unfold isNum
    split at hb
    ·rcases List.mem_cons.1 hb with rfl|hb
     ·decide
     ·rw [decDigits_dig _ b hb];simp
    ·rw [decDigits_dig _ b hb];simp
   obtain ⟨t1,t2⟩:=takeW (p:=isNum) (a:=itoa c.f1) (v:=v) hnum (fun x hx=>(hd x hx).2.2.1)
   have hne:itoa c.f1≠[]:=by
    unfold itoa;split
    ·simp
    ·exact decDigits_ne _
   cases hi:itoa c.f1 with
   | nil=>exact absurd hi hne
   | cons b l=>
    have hb:=hnum b (by rw [hi];simp)
    have hb88:b≠88:=by rintro rfl;exact absurd hb (by decide)
    have hbl:isLet b=false:=by
     unfold isNum isDig at hb
     unfold isLet
     simp only [Bool.or_eq_true,decide_eq_true_eq] at hb
     exact decide_eq_false (by omega)
    rw [hi] at t1 t2
    rw [readF,if_neg (by simp;omega),if_neg (by simp [hb88]),if_neg (by simp [hbl])]
    rw [t1,t2,← hi,num_itoa (by omega) (by omega)]
    have e:(⟨2,c.f1,⟨#[]⟩⟩:Cell)=c:=Cell.ext' h2.symm rfl (ba_ext (by rw [hc.2]))
    rw [e]
  rw [if_neg h2] at hc
  by_cases h3:c.f0=3
  case neg=>rw [if_neg h3] at hc;cases hc
  rw [if_pos h3] at hc
  simp only [Bool.and_eq_true,decide_eq_true_eq] at hc
  obtain ⟨n1,n2,n3⟩:=name_ok hc.2
  have hw:word c=c.f2.data.toList:=by unfold word;rw [if_neg h1,if_neg h2]
  have har:ar c=c.f1.toNat:=by unfold ar;rw [if_pos h3]
  obtain ⟨c1,c2,c3⟩:=cut_spec hr
  cases hl0:c.f2.data.toList with
  | nil=>exact absurd hl0 n1
  | cons b l=>
   have hb:=n2 b (by rw [hl0];simp)
   have hb88:b≠88:=by rintro rfl;exact absurd hb (by decide)
   by_cases ha:ar c=0
   ·rw [ha] at hr hF ⊢
    obtain rfl:=hr.zero
    simp only [cut_zero,List.map_nil,joined,List.append_nil,hw] at hF ⊢
    obtain ⟨t1,t2⟩:=takeW (p:=isLet) (a:=c.f2.data.toList) (v:=v) n2 (fun x hx=>(hd x hx).2.1)
    have hv40:v.head?≠some 40:=fun h=>(hd 40 h).2.2.2 rfl
    rw [readF,t1,t2,if_neg (by rw [hl0];simp;omega),if_neg (by rw [hl0];simp [hb88]),if_pos n1,if_neg hv40]
    have e:(⟨3,0,⟨c.f2.data.toList.toArray⟩⟩:Cell)=c:=Cell.ext' h3.symm (by show (0:Int)=c.f1;omega) (ba_ext (by simp))
    rw [e]
   ·cases hcc:cut (ar c) r with
    | nil=>rw [hcc] at c2;simp at c2;omega
    | cons g gs=>
     rw [hcc] at c1 c2 c3
     simp only [hcc,List.map_cons,joined,hw,List.append_assoc,List.cons_append,List.nil_append,List.flatMap_map] at hF ⊢
     have hmem:∀ x ∈ g :: gs,Forest 1 x∧okl x∧x.length≤k:=fun x hx=>by
      have hsub:=List.sublist_flatten_of_mem hx
      rw [c1] at hsub
      refine ⟨c3 x hx,fun y hy=>hokr y (hsub.subset hy),?_⟩
      have:=hsub.length_le
      omega
     obtain ⟨t1,t2⟩:=takeW (p:=isLet) (a:=c.f2.data.toList) (v:=40 :: (text g++(gs.flatMap (fun u=>44 :: text u)++41 :: v))) n2 (fun x hx=>by cases hx;decide)
     rw [readF,t1,t2,if_neg (by rw [hl0];simp;omega),if_neg (by rw [hl0];simp [hb88]),if_pos n1,if_pos (by rfl)]
     have ih:=fun (u:List Cell) (o:List Cell) (v:List UInt8) h1 h2 h3 h4 h5 h6=>read_text k u o v F h1 h2 h3 h4 h5 h6
     have hlen:(g++gs.flatten).length=r.length:=by rw [← c1];simp
     have hgl:=c3 g (by simp)
     have hgl':=hgl.len
     simp only [List.length_append,List.length_cons] at hF hlen c2
     have hn1:1≤c.f2.data.toList.length:=by rw [hl0];simp
     have hs:Stop (gs.flatMap (fun g=>44 :: text g)++41 :: v):=by
      cases gs with
      | nil=>exact .inr (.inr rfl)
      | cons g' gs=>exact .inr (.inl rfl)
     obtain ⟨g1,g2,g3⟩:=hmem g (by simp)
     have hstep:=ih g (o++[⟨3,1,⟨c.f2.data.toList.toArray⟩⟩]) (gs.flatMap (fun g=>44 :: text g)++41 :: v) g1 g2 g3 (by simp;omega) hs (by simp only [List.length_append,List.length_cons];omega)
     have hb0:=bump_at o [] ⟨3,0,⟨c.f2.data.toList.toArray⟩⟩
     have hw0:wrap64 (0+1)=1:=by decide
     simp only [hw0] at hb0
     obtain ⟨f,rfl⟩:∃ m,F=m+1:=⟨F - 1,by omega⟩
     rw [readL_step (by decide) (by simp;omega) (by rw [hb0];exact hstep)]
     have hfin:=readL_args (F:=f+1) ih gs o g 1 ⟨c.f2.data.toList.toArray⟩ v f (fun x hx=>hmem x (by simp [hx])) (by simp only [List.length_append,List.length_cons];omega) (by omega) (by omega) (by
      have:∀ (gs:List (List Cell)),gs.length≤(gs.flatMap (fun g=>44 :: text g)).length:=fun gs=>by
       induction gs with
       | nil=>simp
       | cons x gs ih=>simp at ih ⊢;omega
      have:=this gs
      omega) (by simp only [List.length_append,List.length_cons];omega)
     simp only [List.append_assoc,List.cons_append,List.nil_append] at hfin ⊢
     rw [hfin]
     simp only [Option.map_some,trimC,List.head?_cons,if_true,List.tail_cons]
     have e:(⟨3,1+(gs.length:Int),⟨c.f2.data.toList.toArray⟩⟩:Cell)=c:=Cell.ext' h3.symm (by show (1:Int)+(gs.length:Int)=c.f1;omega) (ba_ext (by simp))
     rw [e,← c1]
     simp
/-- of a term's text is read the term -/
theorem read_term {t:List Cell} (h:isTerm t=true) {F:Nat} (hF:(text t).length<F):readF F [] (text t)=some (t,[]):=by
 unfold isTerm at h
 simp only [Bool.and_eq_true,decide_eq_true_eq,List.all_eq_true] at h
 have:=read_text t.length t [] [] F h.2.2 (fun c hc=>h.2.1 c hc) (Nat.le_refl _) (by simpa using h.1.2) (.inl rfl) (by simpa using hF)
 simpa using this
/-- the reader ends -/
theorem readL_some {F:Nat} (ih:∀ (o:List Cell) (s:List UInt8),s.length<F→∃ o' r,readF F o s=some (o',r)∧r.length≤s.length∧o.length≤o'.length∧o'.length≤max o.length 41) :
  ∀ (f i:Nat) (o:List Cell) (s:List UInt8),s.length<f→s.length<F+1→∃ o' r,readL (readF F) i f o s=some (o',r)∧r.length≤s.length∧o.length≤o'.length∧o'.length≤max o.length 41
 | 0,i,o,s,h,_=>by omega
 | f+1,i,o,s,h,hF=>by
  rw [readL]
  by_cases hc:s=[]∨s.head?=some 41∨40<o.length
  ·rw [if_pos hc];exact ⟨_,_,rfl,Nat.le_refl _,Nat.le_refl _,Nat.le_max_left _ _⟩
  ·rw [if_neg hc]
   cases s with
   | nil=>exact absurd (.inl rfl) hc
   | cons b s=>
    simp only [List.length_cons] at h hF
    obtain ⟨o1,r1,h1,h2,h3,h4⟩:=ih (bump i o) s (by omega)
    rw [bump_len] at h3 h4
    rw [List.tail_cons,h1]
    obtain ⟨o2,r2,g1,g2,g3,g4⟩:=readL_some ih f i o1 r1 (by omega) (by omega)
    exact ⟨o2,r2,g1,by simp;omega,by omega,by omega⟩
theorem readF_some:∀ (F:Nat) (o:List Cell) (s:List UInt8),s.length<F→∃ o' r,readF F o s=some (o',r)∧r.length≤s.length∧o.length≤o'.length∧o'.length≤max o.length 41
 | 0,o,s,h=>by omega
 | F+1,o,s,h=>by
  rw [readF]
  by_cases hc:s=[]∨40<o.length
  ·rw [if_pos hc];exact ⟨_,_,rfl,by simp,Nat.le_refl _,Nat.le_max_left _ _⟩
  rw [if_neg hc]
  have ho:o.length≤40:=by
   rcases Nat.lt_or_ge 40 o.length with h|h
   ·exact absurd (.inr h) hc
   ·exact h
  by_cases h1:s.head?=some 88
  ·rw [if_pos h1]
   have:=dropW_len (p:=isDig) s.tail
   exact ⟨_,_,rfl,by simp at this ⊢;omega,by simp,by simp;omega⟩
  rw [if_neg h1]
  by_cases h2:s.takeWhile isLet≠[]
  ·rw [if_pos h2]
   have hd:=dropW_lt h2
   by_cases h3:(s.dropWhile isLet).head?=some 40
   ·rw [if_pos h3]
    obtain ⟨o1,r1,g1,g2,g3,g4⟩:=readL_some (fun o s h=>readF_some F o s h) F o.length (o++[⟨3,0,⟨(s.takeWhile isLet).toArray⟩⟩]) (s.dropWhile isLet) (by omega) (by omega)
    rw [g1]
    have:=trimC_len r1
    simp only [List.length_append,List.length_singleton] at g3 g4
    exact ⟨o1,trimC r1,rfl,by omega,by omega,by omega⟩
   ·rw [if_neg h3]
    exact ⟨_,_,rfl,by omega,by simp,by simp;omega⟩
  ·rw [if_neg h2]
   have:=dropW_len (p:=isNum) s
   exact ⟨_,_,rfl,this,by simp,by simp;omega⟩
/-- what a reader that ends has read -/
def RB (o:List Cell) (s:List UInt8) (q:List Cell × List UInt8):Prop:=q.2.length≤s.length∧o.length≤q.1.length∧q.1.length≤max o.length 41
theorem readL_bound {F:Nat} (ih:∀ o s q,readF F o s=some q→RB o s q):∀ (f i:Nat) (o:List Cell) (s:List UInt8) (q:List Cell × List UInt8),readL (readF F) i f o s=some q→RB o s q
 | 0,i,o,s,q,h=>by cases h
 | f+1,i,o,s,q,h=>by
  rw [readL] at h
  by_cases hc:s=[]∨s.head?=some 41∨40<o.length
  ·rw [if_pos hc] at h
   obtain rfl:=Option.some.inj h
   exact ⟨Nat.le_refl _,Nat.le_refl _,Nat.le_max_left _ _⟩
  ·rw [if_neg hc] at h
   obtain ⟨q1,h1,h2⟩:=Option.bind_eq_some_iff.1 h
   obtain ⟨a1,a2,a3⟩:=ih _ _ _ h1
   obtain ⟨b1,b2,b3⟩:=readL_bound ih f i _ _ _ h2
   rw [bump_len] at a2 a3
   rw [List.length_tail] at a1
   exact ⟨by omega,by omega,by omega⟩
theorem readF_bound:∀ (F:Nat) (o:List Cell) (s:List UInt8) (q:List Cell × List UInt8),readF F o s=some q→RB o s q
 | 0,o,s,q,h=>by cases h
 | F+1,o,s,q,h=>by
  rw [readF] at h
  by_cases hc:s=[]∨40<o.length
  ·rw [if_pos hc] at h
   obtain rfl:=Option.some.inj h
   exact ⟨by simp,Nat.le_refl _,Nat.le_max_left _ _⟩
  rw [if_neg hc] at h
  have ho:o.length≤40:=by
   rcases Nat.lt_or_ge 40 o.length with h|h
   ·exact absurd (.inr h) hc
   ·exact h
  by_cases h1:s.head?=some 88
  ·rw [if_pos h1] at h
   obtain rfl:=Option.some.inj h
   have:=dropW_len (p:=isDig) s.tail
   rw [List.length_tail] at this
   exact ⟨by show (s.tail.dropWhile isDig).length≤_;omega,by simp,by simp;omega⟩
  rw [if_neg h1] at h
  by_cases h2:s.takeWhile isLet≠[]
  ·rw [if_pos h2] at h
   have hd:=dropW_lt h2
   by_cases h3:(s.dropWhile isLet).head?=some 40
   ·rw [if_pos h3] at h
    obtain ⟨q1,g1,g2⟩:=Option.map_eq_some_iff.1 h
    obtain ⟨a1,a2,a3⟩:=readL_bound (fun o s q=>readF_bound F o s q) F _ _ _ _ g1
    have:=trimC_len q1.2
    simp only [List.length_append,List.length_singleton] at a2 a3
    subst g2
    exact ⟨by show (trimC q1.2).length≤_;omega,by show o.length≤q1.1.length;omega,by show q1.1.length≤_;omega⟩
   ·rw [if_neg h3] at h
    obtain rfl:=Option.some.inj h
    exact ⟨by show (s.dropWhile isLet).length≤_;omega,by simp,by simp;omega⟩
  ·rw [if_neg h2] at h
   obtain rfl:=Option.some.inj h
   exact ⟨dropW_len (p:=isNum) s,by simp,by simp;omega⟩
/-- the bytes of a term's text -/
theorem text_bytes:∀ (k:Nat) (u:List Cell),Forest 1 u→okl u→u.length≤k→∀ b ∈ text u,b≠32
 | 0,u,h,_,hl=>by have:=h.len;omega
 | k+1,u,h,hok,hl=>by
  intro b hb
  obtain ⟨c,r,rfl,hr⟩:=h.one
  obtain ⟨hc,hokr⟩:=okl_cons.1 hok
  simp only [List.length_cons] at hl
  rw [text_cons h] at hb
  rcases List.mem_append.1 hb with hb|hb
  ·have hi:∀ n:Int,b ∈ itoa n→b≠32:=by
    intro n hb
    unfold itoa at hb
    split at hb
    ·rcases List.mem_cons.1 hb with rfl|hb
     ·decide
     ·rintro rfl;exact absurd (decDigits_dig _ _ hb) (by decide)
    ·rintro rfl;exact absurd (decDigits_dig _ _ hb) (by decide)
   unfold word at hb
   unfold cellOk at hc
   by_cases h1:c.f0=1
   ·rw [if_pos h1] at hb
    rcases List.mem_cons.1 hb with rfl|hb
    ·decide
    ·exact hi _ hb
   ·rw [if_neg h1] at hb hc
    by_cases h2:c.f0=2
    ·rw [if_pos h2] at hb;exact hi _ hb
    ·rw [if_neg h2] at hb hc
     by_cases h3:c.f0=3
     ·rw [if_pos h3] at hc
      simp only [Bool.and_eq_true] at hc
      rintro rfl
      exact absurd ((name_ok hc.2).2.1 _ hb) (by decide)
     ·rw [if_neg h3] at hc;cases hc
  ·obtain ⟨c1,c2,c3⟩:=cut_spec hr
   have hm:∀ x ∈ cut (ar c) r,∀ b ∈ text x,b≠32:=fun x hx=>by
    have hsub:=List.sublist_flatten_of_mem hx
    rw [c1] at hsub
    have:=hsub.length_le
    exact text_bytes k x (c3 x hx) (fun y hy=>hokr y (hsub.subset hy)) (by omega)
   cases hcc:cut (ar c) r with
   | nil=>rw [hcc] at hb;simp [joined] at hb
   | cons g gs=>
    rw [hcc] at hb hm
    simp only [List.map_cons,joined,List.mem_append,List.mem_cons,List.mem_flatMap,List.mem_map,List.mem_singleton,List.not_mem_nil,or_false] at hb
    rcases hb with ((rfl|hb)|⟨u,⟨x,hx,rfl⟩,hb⟩)|rfl
    ·decide
    ·exact hm g (by simp) b hb
    ·rcases hb with rfl|hb
     ·decide
     ·exact hm x (by simp [hx]) b hb
    ·decide
theorem text_sp {t:List Cell} (h:isTerm t=true):∀ b ∈ text t,b≠32:=by
 unfold isTerm at h
 simp only [Bool.and_eq_true,decide_eq_true_eq,List.all_eq_true] at h
 exact text_bytes t.length t h.2.2 (fun c hc=>h.2.1 c hc) (Nat.le_refl _)
theorem text_ne {t:List Cell} (h:isTerm t=true):text t≠[]:=by
 unfold isTerm at h
 simp only [Bool.and_eq_true,decide_eq_true_eq,List.all_eq_true] at h
 have hf:Forest 1 t:=h.2.2
 obtain ⟨c,r,rfl,hr⟩:=hf.one
 have hc:=h.2.1 c (by simp)
 rw [text_cons hf]
 intro e
 have e:=(List.append_eq_nil_iff.1 e).1
 unfold word at e
 unfold cellOk at hc
 by_cases h1:c.f0=1
 ·rw [if_pos h1] at e;cases e
 ·rw [if_neg h1] at e hc
  by_cases h2:c.f0=2
  ·rw [if_pos h2] at e
   unfold itoa at e
   split at e
   ·cases e
   ·exact decDigits_ne _ e
  ·rw [if_neg h2] at e hc
   by_cases h3:c.f0=3
   ·rw [if_pos h3] at hc
    simp only [Bool.and_eq_true] at hc
    exact (name_ok hc.2).1 e
   ·rw [if_neg h3] at hc;cases hc
end Go.Proofs.YtlhniagacegbeaaGreatDoor.Cat
