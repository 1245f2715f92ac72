/- What the reference reads of a text as a clause. -/
import Derived.Test.YtlhniagacegbeaaGreatDoorMCRd
import Derived.Test.YtlhniagacegbeaaGreatDoorMGRs
import Derived.Test.YtlhniagacegbeaaGreatDoorMPrg
import Derived.Test.YtlhniagacegbeaaGreatDoorP3
import Derived.Test.YtlhniagacegbeaaGreatDoorP3
namespace Go.Proofs.YtlhniagacegbeaaGreatDoor.P
set_option linter.unusedVariables false
set_option linter.unusedSimpArgs false
open Go.RowKit Go.Proofs.YtlhniagacegbeaaGreatDoor.Cat Go.Proofs.YtlhniagacegbeaaGreatDoorW.PrintWords Go.Proofs.YtlhniagacegbeaaGreatDoorW.PrintLast Go.Lib
abbrev CutV:=ByteArray × ByteArray × Bool
def cutV (s:ByteArray) (a:List UInt8):Option (List UInt8 × List UInt8)→CutV
 | none=>(s,(⟨#[]⟩:ByteArray),false)
 | some q=>(ba (a++q.1),ba q.2,true)
theorem cut_loop (s:ByteArray) (hs:s.size≤1099511627) (sep:List UInt8) (hne:sep≠[]) (hl:sep.length≤100):∀ (r a:List UInt8),s.data.toList=a++r→
  Ev (fun k=>spec_l3Cut.l0 k s (ba sep) ((a.length:Nat):Int)) (cutV s a (cutS sep r))
 | [],a,h=>by
  have hz:=sz_app h
  simp only [List.length_nil] at hz
  have hp:=List.length_pos_iff.2 hne
  have hw:wrap64 (((a.length:Nat):Int)+((ba sep).size:Int))=((a.length+sep.length:Nat):Int):=by rw [ba_size,w64 (by omega) (by omega)];omega
  refine Ev.step (fun k=>rfl) ?_
  simp only [spec_l3Cut.l0]
  rw [hw]
  exact Ev.ifn (by omega) (Ev.now _)
 | c :: r,a,h=>by
  have hz:=sz_app h
  simp only [List.length_cons] at hz
  have hp:=List.length_pos_iff.2 hne
  have hw:wrap64 (((a.length:Nat):Int)+((ba sep).size:Int))=((a.length+sep.length:Nat):Int):=by rw [ba_size,w64 (by omega) (by omega)];omega
  have ih:=cut_loop s hs sep hne hl r (a++[c]) (by rw [h];simp)
  refine Ev.step (fun k=>rfl) ?_
  simp only [spec_l3Cut.l0]
  rw [hw]
  by_cases hle:sep.length≤(c :: r).length
  ·simp only [List.length_cons] at hle
   refine Ev.ifp (by omega) (Ev.ifp (by omega) (Ev.ifp (by omega) ?_))
   have e1:((a.length:Nat):Int).toNat=a.length:=rfl
   have e2:((a.length+sep.length:Nat):Int).toNat=a.length+sep.length:=rfl
   rw [e1,e2]
   have hx:(s.extract a.length (a.length+sep.length)).data.toList=(c :: r).take sep.length:=by rw [Lib.extract_data,h];simp
   by_cases hpre:sep.isPrefixOf (c :: r)=true
   ·have ht:(c :: r).take sep.length=sep:=(List.prefix_iff_eq_take.1 (List.isPrefixOf_iff_prefix.1 hpre)).symm
    rw [cutS,if_pos hpre]
    refine Ev.ifp (by rw [Lib.toList_data,Lib.toList_data,hx,ht,ba_data]) (Ev.ifp (by omega) (Ev.ifp (by omega) (Ev.pure ?_)))
    have h1:s.extract 0 a.length=ba a:=ba_ext (by rw [Lib.extract_data,h,ba_data];simp)
    have h2:s.extract (a.length+sep.length) s.size=ba ((c :: r).drop sep.length):=ba_ext (by
     rw [Lib.extract_data,ba_data,h]
     have:s.size - (a.length+sep.length)=((c :: r).drop sep.length).length:=by rw [List.length_drop,List.length_cons];omega
     rw [this,show (a++c :: r).drop (a.length+sep.length)=(c :: r).drop sep.length from by rw [← List.drop_drop];simp,List.take_length])
    rw [h1,h2]
    simp [cutV]
   ·rw [cutS,if_neg hpre]
    have hne2:¬ (s.extract a.length (a.length+sep.length)).toList=(ba sep).toList:=by
     rw [Lib.toList_data,Lib.toList_data,hx,ba_data]
     intro e
     exact hpre (List.isPrefixOf_iff_prefix.2 (List.prefix_iff_eq_take.2 e.symm))
    refine Ev.ifn hne2 ?_
    rw [wnext (by omega)]
    rw [snoc_len] at ih
    have e3:cutV s a ((cutS sep r).map fun q=>(c :: q.1,q.2))=cutV s (a++[c]) (cutS sep r):=by
     cases cutS sep r with
     | none=>rfl
     | some q=>simp [cutV]
    rw [e3]
    exact ih
  ·rw [cutS_short (by omega)]
   simp only [List.length_cons] at hle
   exact Ev.ifn (by omega) (Ev.now _)
theorem l3cut_ev (s:ByteArray) (hs:s.size≤1099511627) (w:List UInt8) (hl:w.length≤90):Ev (fun k=>spec_l3Cut.f k s (ba w)) (cutV s [] (cutS (32 :: (w++[32])) s.data.toList)):=by
 have e:((⟨#[32]⟩:ByteArray)++ba w)++(⟨#[32]⟩:ByteArray)=ba (32 :: (w++[32])):=by
  rw [show (⟨#[32]⟩:ByteArray)=ba [32] from rfl,ba_app,ba_app];rfl
 unfold spec_l3Cut.f
 refine Ev.ifp (by rw [ba_size];omega) (Ev.ifp ?_ ?_)
 ·rw [show (⟨#[32]⟩:ByteArray)=ba [32] from rfl,ba_app,ba_size];simp only [List.length_append,List.length_cons,List.length_nil];omega
 ·rw [e]
  exact cut_loop s hs (32 :: (w++[32])) (by simp) (by simp;omega) s.data.toList [] rfl
theorem l3cut_none {s:ByteArray} (hs:s.size≤1099511627) {w:List UInt8} (hl:w.length≤90) (hq:cutS (32 :: (w++[32])) s.data.toList=none):Ev (fun k=>spec_l3Cut.f k s (ba w)) (s,(⟨#[]⟩:ByteArray),false):=by
 have h:=l3cut_ev s hs w hl
 rw [hq] at h
 exact h
theorem l3cut_some {s:ByteArray} (hs:s.size≤1099511627) {w:List UInt8} (hl:w.length≤90) {q:List UInt8 × List UInt8} (hq:cutS (32 :: (w++[32])) s.data.toList=some q):Ev (fun k=>spec_l3Cut.f k s (ba w)) (ba q.1,ba q.2,true):=by
 have h:=l3cut_ev s hs w hl
 rw [hq] at h
 exact h
def Sm40 (b:List Goal):Prop:=∀ g ∈ b,g.f1.length≤40∧g.f2.length≤40∧g.f3.length≤40
theorem sfin_ev (x:ByteArray) (h:List Cell) (b:List Goal) (hh:h.length≤40) (hb:b.length≤1048576) (hs:Sm40 b):Ev (fun k=>spec_PrgRead.j1 k x false h b) (finC h b):=by
 refine Ev.step (fun k=>rfl) ?_
 simp only [spec_PrgRead.j1]
 have hc:=sclause_ev ⟨h,b⟩ ⟨by show h.length≤_;omega,hb,fun g hg=>by have:=hs g hg;exact ⟨by omega,by omega,by omega⟩⟩
 refine Ev.ifn (by simp) (Ev.bind hc ?_)
 unfold finC
 by_cases hk:clauseOk ⟨h,b⟩=true
 ·simp only [if_pos hk];exact Ev.now _
 ·simp only [if_neg hk];exact Ev.now _
theorem finC_long {h:List Cell} {b:List Goal} (hb:4<b.length):finC h b=noneC:=by
 unfold finC
 rw [if_neg]
 intro hc
 have:=(clause_term hc).2
 omega
def restR (h:List Cell) (b:List Goal) (ws:List (List UInt8)):CR:=match goalsR ws with
 | none=>noneC
 | some gs=>finC h (b++gs)
theorem restR_long {h:List Cell} {b:List Goal} {ws:List (List UInt8)} (hb:4<b.length):restR h b ws=noneC:=by
 unfold restR
 cases goalsR ws with
 | none=>rfl
 | some gs=>exact finC_long (by simp;omega)
theorem restR_cons {h:List Cell} {b:List Goal} {w:List UInt8} {ws:List (List UInt8)} (hw:(goalR (ba w)).2=true):restR h b (w :: ws)=restR h (b++[goalOf (goalR (ba w))]) ws:=by
 unfold restR
 rw [goalsR,if_pos hw]
 cases goalsR ws with
 | none=>rfl
 | some gs=>simp
theorem restR_bad {h:List Cell} {b:List Goal} {w:List UInt8} {ws:List (List UInt8)} (hw:¬ (goalR (ba w)).2=true):restR h b (w :: ws)=noneC:=by
 unfold restR
 rw [goalsR,if_neg hw]
theorem sm_snoc {b:List Goal} (hs:Sm40 b) (w:List UInt8):Sm40 (b++[goalOf (goalR (ba w))]):=by
 intro g hg
 rcases List.mem_append.1 hg with hg|hg
 ·exact hs g hg
 ·rw [List.mem_singleton.1 hg];exact goalR_len (ba w)
theorem sbody_aux (h:List Cell) (hh:h.length≤40) (r:List UInt8) (b:List Goal) (hr:r.length≤1048576) (hb:b.length≤5) (hs:Sm40 b) (ih:∀ q,cutS sAnd r=some q→∀ b':List Goal,b'.length≤5→Sm40 b'→Ev (fun k=>spec_PrgRead.l0 k (ba q.2) true h b') (restR h b' (pieces sAnd q.2))) :
  Ev (fun k=>spec_PrgRead.l0 k (ba r) true h b) (restR h b (pieces sAnd r)):=by
 refine Ev.step (fun k=>rfl) ?_
 simp only [spec_PrgRead.l0]
 refine Ev.ifp trivial ?_
 by_cases h4:b.length≤4
 ·rw [decide_eq_true (show (b.length:Int)≤4 by omega)]
  refine Ev.step (fun k=>rfl) ?_
  simp only [spec_PrgRead.j1]
  refine Ev.ifp trivial ?_
  cases hq:cutS sAnd r with
  | none=>
   refine Ev.bind (l3cut_none (s:=ba r) (by rw [ba_size];omega) (w:=[97,110,100]) (by simp) (by rw [ba_data];exact hq)) ?_
   rw [pieces_none hq]
   have hg:=sgr_ev (ba r) (by rw [ba_size];omega)
   refine Ev.bind hg ?_
   by_cases hok:(goalR (ba r)).2=true
   ·rw [restR_cons hok]
    refine Ev.ifp hok (Ev.ifp (by omega) (Ev.step (fun k=>rfl) ?_))
    simp only [spec_PrgRead.l0]
    refine Ev.ifn (by simp) ?_
    have:=sfin_ev (⟨#[]⟩:ByteArray) h (b++[goalOf (goalR (ba r))]) hh (by simp;omega) (sm_snoc hs r)
    have e:restR h (b++[goalOf (goalR (ba r))]) []=finC h (b++[goalOf (goalR (ba r))]):=by simp [restR,goalsR]
    rw [e]
    exact this
   ·rw [restR_bad hok]
    exact Ev.ifn hok (Ev.now _)
  | some q=>
   have hlen:=cutS_len (sep:=sAnd) (a:=q.1) (b:=q.2) hq
   rw [pieces_some (by simp [sAnd]) (a:=q.1) (b:=q.2) hq]
   refine Ev.bind (l3cut_some (s:=ba r) (by rw [ba_size];omega) (w:=[97,110,100]) (by simp) (q:=q) (by rw [ba_data];exact hq)) ?_
   have hg:=sgr_ev (ba q.1) (by rw [ba_size];omega)
   refine Ev.bind hg ?_
   by_cases hok:(goalR (ba q.1)).2=true
   ·rw [restR_cons hok]
    exact Ev.ifp hok (Ev.ifp (by omega) (ih q hq _ (by simp;omega) (sm_snoc hs q.1)))
   ·rw [restR_bad hok]
    exact Ev.ifn hok (Ev.now _)
 ·rw [decide_eq_false (show ¬ (b.length:Int)≤4 by omega),restR_long (by omega),← finC_long (h:=h) (b:=b) (by omega)]
  exact sfin_ev _ h b hh (by omega) hs
theorem sbody_ev (h:List Cell) (hh:h.length≤40):∀ (n:Nat) (r:List UInt8) (b:List Goal),r.length≤n→r.length≤1048576→b.length≤5→Sm40 b→Ev (fun k=>spec_PrgRead.l0 k (ba r) true h b) (restR h b (pieces sAnd r)):=by
 intro n
 induction n with
 | zero=>
  intro r b hr hr2 hb hs
  obtain rfl:r=[]:=List.eq_nil_of_length_eq_zero (by omega)
  exact sbody_aux h hh [] b (by simp) hb hs (fun q hq=>by cases hq)
 | succ n ih=>
  intro r b hr hr2 hb hs
  exact sbody_aux h hh r b hr2 hb hs (fun q hq b' hb' hs'=>by
   have hc:=cutS_len (sep:=sAnd) (a:=q.1) (b:=q.2) hq
   have:sAnd.length=5:=rfl
   exact ih q.2 b' (by omega) (by omega) hb' hs')
theorem finC_nohead (b:List Goal):finC [] b=noneC:=by
 unfold finC
 rw [if_neg]
 intro hc
 exact absurd (clause_term hc).1 (by decide)
theorem R_fail {w:List UInt8} (h:¬ (readP (ba w)).2=true):R w=[]:=R_none (by simpa using h)
theorem restR_nohead (b:List Goal) (ws:List (List UInt8)):restR [] b ws=noneC:=by
 unfold restR
 cases goalsR ws with
 | none=>rfl
 | some gs=>exact finC_nohead _
theorem scr_ev (s:ByteArray) (hs:s.size≤1048576):Ev (fun k=>spec_PrgRead.f k s) (clauseR s):=by
 unfold spec_PrgRead.f clauseR
 cases hq:cutS sIf s.data.toList with
 | none=>
  refine Ev.bind (l3cut_none (s:=s) (by omega) (w:=[105,102]) (by simp) hq) ?_
  refine Ev.bind (sread_ev s (by omega)) ?_
  have e:(readP s).1=R s.data.toList:=rB_R s
  by_cases hok:(readP s).2=true
  ·refine Ev.ifp hok (Ev.step (fun k=>rfl) ?_)
   simp only [spec_PrgRead.l0]
   rw [e]
   exact Ev.ifn (by simp) (sfin_ev _ (R s.data.toList) [] (R_len _) (by simp) (fun g hg=>by cases hg))
  ·rw [R_fail (w:=s.data.toList) (by rw [ba_of];exact hok),finC_nohead]
   exact Ev.ifn hok (Ev.now _)
 | some q=>
  have hlen:=cutS_len (sep:=sIf) (a:=q.1) (b:=q.2) hq
  have hz:s.data.toList.length=s.size:=(Lib.size_eq s).symm
  refine Ev.bind (l3cut_some (s:=s) (by omega) (w:=[105,102]) (by simp) hq) ?_
  refine Ev.bind (sread_ev (ba q.1) (by rw [ba_size];omega)) ?_
  have e:(readP (ba q.1)).1=R q.1:=rfl
  have e2:(match goalsR (pieces sAnd q.2) with|none=>noneC|some gs=>finC (R q.1) gs)=restR (R q.1) [] (pieces sAnd q.2):=by
   unfold restR
   cases goalsR (pieces sAnd q.2) <;> simp
  show Ev _ (match goalsR (pieces sAnd q.2) with|none=>noneC|some gs=>finC (R q.1) gs)
  rw [e2]
  by_cases hok:(readP (ba q.1)).2=true
  ·rw [e]
   exact Ev.ifp hok (sbody_ev (R q.1) (R_len _) q.2.length q.2 [] (Nat.le_refl _) (by omega) (by simp) (fun g hg=>by cases hg))
  ·rw [R_fail hok,restR_nohead]
   exact Ev.ifn hok (Ev.now _)
end Go.Proofs.YtlhniagacegbeaaGreatDoor.P
