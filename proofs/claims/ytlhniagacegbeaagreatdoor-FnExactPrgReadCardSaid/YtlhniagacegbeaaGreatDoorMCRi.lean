/- What the program reads of a text as a clause. -/
import Derived.Test.YtlhniagacegbeaaGreatDoorMCRs
import Derived.Test.YtlhniagacegbeaaGreatDoorP5
import Derived.Test.YtlhniagacegbeaaGreatDoorP5
namespace Go.Proofs.YtlhniagacegbeaaGreatDoor.P
set_option linter.unusedVariables false
set_option linter.unusedSimpArgs false
open Go.RowKit Go.Proofs.YtlhniagacegbeaaGreatDoor.Cat Go.Proofs.YtlhniagacegbeaaGreatDoorW.PrintWords Go.Proofs.YtlhniagacegbeaaGreatDoorW.PrintLast Go.Lib
theorem rdG5 (a r:List Goal) (c:Goal):rd_T24 (a++c :: r) ((a.length:Nat):Int)=c:=by simp [rd_T24,List.getD]
theorem sep_at (n:Nat):rdOf ByteArray.empty [(⟨#[32,105,102,32]⟩:ByteArray),(⟨#[32,97,110,100,32]⟩:ByteArray)] (mn (n:Int) 1)=ba (if n=0 then sIf else sAnd):=by
 unfold mn
 by_cases h:n=0
 ·subst h
  rw [if_neg (by omega),if_pos rfl];rfl
 ·rw [if_neg h]
  by_cases h1:(1:Int)<(n:Int)
  ·rw [if_pos h1];rfl
  ·rw [if_neg h1,show (n:Int)=1 by omega];rfl
theorem mn_lo (n:Nat):0≤mn (n:Int) 1∧mn (n:Int) 1<2:=by
 unfold mn;split <;> omega
theorem gtextL_ba (g:Goal):gtext g.f0 g.f1 g.f2 g.f3=ba (gtextL g):=by unfold gtextL;rw [ba_of]
theorem line_loop:∀ (L D:List Goal) (x:ByteArray) (n:Int),n=((D++L).length:Int)→(D++L).length≤10→x.size≤100000 * (D.length+1)→
  Ev (fun k=>impl_PrgClause_line.l0 k x (D++L) n ((D.length:Nat):Int)) (x++ba (restL (decide (D=[])) L))
 | [],D,x,n,hn,hl,hx=>by
  subst hn
  refine Ev.step (fun k=>rfl) ?_
  simp only [impl_PrgClause_line.l0]
  refine Ev.ifn (by simp) (Ev.pure ?_)
  rw [restL]
  exact ba_ext (by simp [ba])
 | g :: L,D,x,n,hn,hl,hx=>by
  subst hn
  have hlen:(D++g :: L).length=D.length+1+L.length:=by simp;omega
  have hsz:=gtext_size g.f0 g.f1 g.f2 g.f3
  have hss:(ba (if D.length=0 then sIf else sAnd)).size≤5:=by rw [ba_size];split <;> decide
  have ih:=line_loop L (D++[g]) (x++(ba (if D.length=0 then sIf else sAnd)++gtext g.f0 g.f1 g.f2 g.f3)) (((D++[g])++L).length:Int) rfl (by simp;omega) (by rw [ByteArray.size_append,ByteArray.size_append,snoc_len];omega)
  rw [snoc_len,show (D++[g])++L=D++g :: L by simp] at ih
  have e:x++ba (restL (decide (D=[])) (g :: L))=x++(ba (if D.length=0 then sIf else sAnd)++gtext g.f0 g.f1 g.f2 g.f3)++ba (restL (decide (D++[g]=[])) L):=by
   rw [restL,gtextL_ba,ba_app,show (decide (D++[g]=[]))=false by simp]
   rw [show (if decide (D=[])=true then sIf else sAnd)=(if D.length=0 then sIf else sAnd) by cases D <;> simp]
   rw [ByteArray.append_assoc,ba_app]
  rw [e]
  have hm:=mn_lo D.length
  refine Ev.step (fun k=>rfl) ?_
  simp only [impl_PrgClause_line.l0]
  rw [rdG5,wnext (by omega)]
  refine Ev.ifp (lt_app D L g) (Ev.ifp (by omega) (Ev.ifp (lt_app D L g) (Ev.bindv rfl (Ev.ifp hm.1 (Ev.ifp (by simpa using hm.2) (Ev.bind (igtext_ev g.f0 g.f1 g.f2 g.f3) ?_))))))
  rw [sep_at]
  exact Ev.ifp (by omega) (Ev.ifp (by rw [ByteArray.size_append];omega) ih)
theorem line_ev (h:List Cell) (b:List Goal) (hb:b.length≤4):Ev (fun k=>impl_PrgClause_line.f k h b) (textB h++ba (restL true b)):=by
 unfold impl_PrgClause_line.f
 have hs:=textB_size h
 have:=line_loop b [] (textB h) (b.length:Int) rfl (by simp;omega) (by simp;omega)
 exact Ev.bind (itext_ev h) this
/-- what the program tells of what it has read -/
def lastI (s:ByteArray) (h:List Cell) (b:List Goal):CR:=if clauseOk ⟨h,b⟩=true then (if textB h++ba (restL true b)=s then (h,b,true) else noneC) else noneC
theorem ifin_ev (s:ByteArray) (h:List Cell) (b:List Goal) (hb:b.length≤1048576):Ev (fun k=>impl_PrgRead.j1 k s h b) (lastI s h b):=by
 refine Ev.step (fun k=>rfl) ?_
 simp only [impl_PrgRead.j1]
 refine Ev.bind (iclause_ev ⟨h,b⟩ hb) ?_
 unfold lastI
 by_cases hk:clauseOk ⟨h,b⟩=true
 ·rw [if_pos hk]
  refine Ev.ifp hk (Ev.bind (line_ev h b (clause_term hk).2) ?_)
  by_cases hs:textB h++ba (restL true b)=s
  ·rw [if_pos hs];exact Ev.ifp (by rw [hs]) (Ev.now _)
  ·rw [if_neg hs];exact Ev.ifn (fun e=>hs (toList_eq.1 e)) (Ev.now _)
 ·rw [if_neg hk];exact Ev.ifn hk (Ev.now _)
def bodyI (s:ByteArray) (h:List Cell) (b:List Goal) (ws:List (List UInt8)):CR:=match goalsR ws with
 | none=>noneC
 | some gs=>lastI s h (b++gs)
theorem ibody_ev (s:ByteArray) (h:List Cell):∀ (L D:List ByteArray) (b:List Goal) (n:Int),n=((D++L).length:Int)→(D++L).length≤1048576→b.length=D.length→(∀ x ∈ L,x.size≤1099511627)→
  Ev (fun k=>impl_PrgRead.l0 k s (D++L) n ((D.length:Nat):Int) h b) (bodyI s h b (L.map (·.data.toList)))
 | [],D,b,n,hn,hl,hb,hs=>by
  subst hn
  refine Ev.step (fun k=>rfl) ?_
  simp only [impl_PrgRead.l0]
  have e:bodyI s h b (([]:List ByteArray).map (·.data.toList))=lastI s h b:=by simp [bodyI,goalsR]
  rw [e]
  exact Ev.ifn (by simp) (ifin_ev s h b (by simp at hl;omega))
 | x :: L,D,b,n,hn,hl,hb,hs=>by
  subst hn
  have hlen:(D++x :: L).length=D.length+1+L.length:=by simp;omega
  have hr:rdOf ByteArray.empty (D++x :: L) ((D.length:Nat):Int)=x:=by simp [rdOf]
  have hev:=igr_ev x (hs x (by simp))
  have ex:ba x.data.toList=x:=ba_of x
  refine Ev.step (fun k=>rfl) ?_
  simp only [impl_PrgRead.l0]
  rw [hr,wnext (by omega)]
  refine Ev.ifp (lt_app D L x) (Ev.ifp (by omega) (Ev.ifp (lt_app D L x) (Ev.bind hev ?_)))
  by_cases hok:(goalR x).2=true
  ·have ih:=ibody_ev s h L (D++[x]) (b++[goalOf (goalR x)]) (((D++[x])++L).length:Int) rfl (by simp;omega) (by simp [hb]) (fun y hy=>hs y (by simp [hy]))
   rw [snoc_len,show (D++[x])++L=D++x :: L by simp] at ih
   have e:bodyI s h b ((x :: L).map (·.data.toList))=bodyI s h (b++[goalOf (goalR x)]) (L.map (·.data.toList)):=by
    unfold bodyI
    rw [List.map_cons,goalsR,ex,if_pos hok]
    cases goalsR (L.map (·.data.toList)) with
    | none=>rfl
    | some gs=>simp
   rw [e]
   exact Ev.ifp hok (Ev.ifp (by omega) ih)
  ·have e:bodyI s h b ((x :: L).map (·.data.toList))=noneC:=by
    unfold bodyI
    rw [List.map_cons,goalsR,ex,if_neg hok]
   rw [e]
   exact Ev.ifn hok (Ev.now _)
theorem icr_ev (s:ByteArray) (hs:s.size≤1048576):Ev (fun k=>impl_PrgRead.f k s) (clauseR s):=by
 have hz:s.data.toList.length=s.size:=(Lib.size_eq s).symm
 have e1:(⟨#[32,105,102,32]⟩:ByteArray).data.toList=sIf:=rfl
 unfold impl_PrgRead.f
 have hcut:strings_Cut.f s (⟨#[32,105,102,32]⟩:ByteArray)=some (ba (Lib.cut s.data.toList sIf).1,ba (Lib.cut s.data.toList sIf).2.1,(Lib.cut s.data.toList sIf).2.2):=by
  unfold strings_Cut.f
  rw [if_pos (by omega)];rfl
 refine Ev.bindv hcut ?_
 rw [cut_cutS (sep:=sIf) (by simp [sIf]) s.data.toList]
 unfold clauseR
 cases hq:cutS sIf s.data.toList with
 | none=>
  simp only
  rw [ba_of]
  refine Ev.bind (iread_ev s (by omega)) (Ev.ifn (by simp) ?_)
  have e2:(readP s).1=R s.data.toList:=rB_R s
  rw [e2]
  have e3:lastI s (R s.data.toList) []=finC (R s.data.toList) []:=by
   unfold lastI finC
   by_cases hk:clauseOk ⟨R s.data.toList,[]⟩=true
   ·rw [if_pos hk,if_pos hk,if_pos]
    have ht:=(clause_term hk).1
    rw [textB_is ht,(R_text ht).1,ba_of]
    exact ba_ext (by simp [restL,ba])
   ·rw [if_neg hk,if_neg hk]
  rw [← e3]
  exact ifin_ev s _ [] (by simp)
 | some q=>
  simp only
  have hlen:=cutS_len (sep:=sIf) (a:=q.1) (b:=q.2) hq
  have h4:sIf.length=4:=rfl
  have h5:sAnd.length=5:=rfl
  refine Ev.bind (iread_ev (ba q.1) (by rw [ba_size];omega)) (Ev.ifp trivial ?_)
  have e2:(readP (ba q.1)).1=R q.1:=rfl
  rw [e2]
  have hsp:strings_Split.f (ba q.2) (⟨#[32,97,110,100,32]⟩:ByteArray)=some (Lib.splitB (⟨#[32,97,110,100,32]⟩:ByteArray) 0 (Lib.countB (ba q.2) (⟨#[32,97,110,100,32]⟩:ByteArray)) (ba q.2)):=by
   unfold strings_Split.f
   rw [if_pos (by rw [ba_size];omega),if_pos (by decide)]
  refine Ev.bindv hsp ?_
  generalize hT:Lib.splitB (⟨#[32,97,110,100,32]⟩:ByteArray) 0 (Lib.countB (ba q.2) (⟨#[32,97,110,100,32]⟩:ByteArray)) (ba q.2)=T
  have hp:T.map (·.data.toList)=pieces sAnd q.2:=by
   rw [← hT,Cat.splitB_pieces (⟨#[32,97,110,100,32]⟩:ByteArray) (ba q.2) (by decide),ba_data];rfl
  have hlT:T.length≤q.2.length+1:=by
   have h1:=pieces_len (sep:=sAnd) (by simp [sAnd]) q.2.length q.2 (Nat.le_refl _)
   rw [← hp,List.length_map] at h1;exact h1
  have hsT:∀ x ∈ T,x.size≤1099511627:=fun x hx=>by
   have hm:x.data.toList ∈ pieces sAnd q.2:=by rw [← hp];exact List.mem_map_of_mem hx
   have h1:=joinS_len (sep:=sAnd) hm
   rw [joinS_pieces (by simp [sAnd]) q.2.length q.2 (Nat.le_refl _)] at h1
   rw [Lib.size_eq];omega
  have:=ibody_ev s (R q.1) T [] [] (T.length:Int) rfl (by simp;omega) rfl hsT
  have e3:bodyI s (R q.1) [] (T.map (·.data.toList))=(match goalsR (pieces sAnd q.2) with|none=>noneC|some gs=>finC (R q.1) gs):=by
   unfold bodyI
   rw [hp]
   cases hg:goalsR (pieces sAnd q.2) with
   | none=>rfl
   | some gs=>
    simp only [List.nil_append]
    unfold lastI finC
    by_cases hk:clauseOk ⟨R q.1,gs⟩=true
    ·rw [if_pos hk,if_pos hk,if_pos]
     have ht:=(clause_term hk).1
     rw [textB_is ht,ba_app,line_is hq hg ht,ba_of]
    ·rw [if_neg hk,if_neg hk]
  show Ev _ (match goalsR (pieces sAnd q.2) with|none=>noneC|some gs=>finC (R q.1) gs)
  rw [← e3]
  exact this
end Go.Proofs.YtlhniagacegbeaaGreatDoor.P
