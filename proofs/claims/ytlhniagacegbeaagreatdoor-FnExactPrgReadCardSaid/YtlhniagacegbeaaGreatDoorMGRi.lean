/- What the program reads of a text as a goal. -/
import Derived.Test.YtlhniagacegbeaaGreatDoorMGrd
import Derived.Test.YtlhniagacegbeaaGreatDoorP5
namespace Go.Proofs.YtlhniagacegbeaaGreatDoor.P
set_option linter.unusedVariables false
set_option linter.unusedSimpArgs false
open Go.RowKit Go.Proofs.YtlhniagacegbeaaGreatDoor.Cat Go.Proofs.YtlhniagacegbeaaGreatDoorW.PrintWords Go.Proofs.YtlhniagacegbeaaGreatDoorW.PrintLast Go.Lib
abbrev GR:=Int × List Cell × List Cell × List Cell × Bool
def none5:GR:=(0,[],[],[],false)
/-- a goal that is read is told if it may be and has that text -/
def finG (s:ByteArray) (k:Int) (a b c:List Cell):GR:=if goalB k a b c=true then (if gtext k a b c=s then (k,a,b,c,true) else none5) else none5
theorem toList_eq {a b:ByteArray}:a.toList=b.toList↔a=b:=by
 rw [Lib.toList_data,Lib.toList_data]
 exact ⟨fun h=>ba_ext h,fun h=>by rw [h]⟩
theorem gj3_ev (s:ByteArray) (k:Int) (a b c:List Cell):Ev (fun n=>impl_GoalRead.j3 n s k a b c) (finG s k a b c):=by
 refine Ev.step (fun k=>rfl) ?_
 simp only [impl_GoalRead.j3]
 refine Ev.bindv (igoal k a b c) ?_
 unfold finG
 by_cases hg:goalB k a b c=true
 case neg=>rw [if_neg hg];exact Ev.ifn hg (Ev.now _)
 rw [if_pos hg]
 refine Ev.ifp hg (Ev.bind (igtext_ev k a b c) ?_)
 by_cases ht:gtext k a b c=s
 ·rw [if_pos ht];exact Ev.ifp (toList_eq.2 ht) (Ev.now _)
 ·rw [if_neg ht];exact Ev.ifn (fun h=>ht (toList_eq.1 h)) (Ev.now _)
theorem finG_of {s:ByteArray} {k:Int} {a b c:List Cell}:finG s k a b c=if goalB k a b c=true∧gwords k a b c=words s.data.toList then (k,a,b,c,true) else none5:=by
 unfold finG
 by_cases hg:goalB k a b c=true
 ·rw [if_pos hg]
  by_cases ht:gtext k a b c=s
  ·rw [if_pos ht,if_pos ⟨hg,(gtext_eq hg s).1 ht⟩]
  ·rw [if_neg ht,if_neg (fun h=>ht ((gtext_eq hg s).2 h.2))]
 ·rw [if_neg hg,if_neg (fun h=>hg h.1)]
def flat (q:(Int × List Cell × List Cell × List Cell) × Bool):GR:=(q.1.1,q.1.2.1,q.1.2.2.1,q.1.2.2.2,q.2)
def rB (w:ByteArray):List Cell:=(readP w).1
theorem rB_R (w:ByteArray):rB w=R w.data.toList:=by unfold rB R;rw [ba_of]
theorem gj2_ev (s:ByteArray) (k:Int) (c:List Cell) (t:List ByteArray) (h0:t≠[]) (hs:∀ x ∈ t,x.size≤1099511627776) :
  Ev (fun n=>impl_GoalRead.j2 n s t k c) (finG s k (rB (t.getD 0 ByteArray.empty)) (if 2<t.length then rB (t.getD 2 ByteArray.empty) else []) c):=by
 have hl:0<t.length:=List.length_pos_iff.2 h0
 have hg:∀ i:Nat,i<t.length→(rdOf ByteArray.empty t (i:Int))=t.getD i ByteArray.empty:=fun i _=>by simp [rdOf]
 have hm:∀ i:Nat,i<t.length→(t.getD i ByteArray.empty).size≤1099511627776:=fun i hi=>hs _ (by rw [List.getD_eq_getElem?_getD,List.getElem?_eq_getElem hi];exact List.getElem_mem hi)
 refine Ev.step (fun k=>rfl) ?_
 simp only [impl_GoalRead.j2]
 refine Ev.ifp (by omega) ?_
 rw [show rdOf ByteArray.empty t 0=t.getD 0 ByteArray.empty from hg 0 hl,show rdOf ByteArray.empty t 2=t.getD 2 ByteArray.empty by simp [rdOf]]
 refine Ev.bind (iread_ev _ (hm 0 hl)) ?_
 by_cases h2:2<t.length
 ·rw [if_pos h2]
  exact Ev.ifp (by omega) (Ev.ifp (by omega) (Ev.bind (iread_ev _ (hm 2 h2)) (gj3_ev _ _ _ _ _)))
 ·rw [if_neg h2]
  exact Ev.ifn (by omega) (gj3_ev _ _ _ _ _)
theorem split_ev (s:ByteArray) (hs:s.size≤1099511627):∃ t:List ByteArray,strings_Split.f s (⟨#[32]⟩:ByteArray)=some t∧t.map (·.data.toList)=words s.data.toList:=by
 refine ⟨Lib.splitB (⟨#[32]⟩:ByteArray) 0 (Lib.countB s (⟨#[32]⟩:ByteArray)) s,?_,Cat.splitB_pieces (⟨#[32]⟩:ByteArray) s (by decide)⟩
 unfold strings_Split.f
 rw [if_pos (by omega),if_pos (by decide)]
theorem word_size {s:ByteArray} {t:List ByteArray} (h:t.map (·.data.toList)=words s.data.toList):∀ x ∈ t,x.size≤s.size:=by
 intro x hx
 have hm:x.data.toList ∈ words s.data.toList:=by rw [← h];exact List.mem_map_of_mem hx
 have:=words_len hm
 rw [Lib.size_eq,Lib.size_eq];exact this
theorem gj1_ev (s:ByteArray) (t:List ByteArray) (b:Bool) (k:Int) (h0:t≠[]) (hs:∀ x ∈ t,x.size≤1099511627776) :
  Ev (fun n=>impl_GoalRead.j1 n s t b k) (if b=true then finG s 4 (rB (t.getD 0 ByteArray.empty)) (if 2<t.length then rB (t.getD 2 ByteArray.empty) else []) [] else if t.length=5 then finG s 5 (rB (t.getD 0 ByteArray.empty)) (if 2<t.length then rB (t.getD 2 ByteArray.empty) else []) (rB (t.getD 4 ByteArray.empty)) else finG s k (rB (t.getD 0 ByteArray.empty)) (if 2<t.length then rB (t.getD 2 ByteArray.empty) else []) []):=by
 refine Ev.step (fun k=>rfl) ?_
 simp only [impl_GoalRead.j1]
 cases b with
 | true=>exact Ev.ifp rfl (gj2_ev s 4 [] t h0 hs)
 | false=>
  refine Ev.ifn (by simp) ?_
  rw [if_neg (by simp)]
  by_cases h5:t.length=5
  ·rw [if_pos h5]
   have hm:(t.getD 4 ByteArray.empty).size≤1099511627776:=hs _ (by rw [List.getD_eq_getElem?_getD,List.getElem?_eq_getElem (by omega)];exact List.getElem_mem (by omega))
   refine Ev.ifp (by omega) (Ev.ifp (by omega) ?_)
   rw [show rdOf ByteArray.empty t 4=t.getD 4 ByteArray.empty by simp [rdOf]]
   exact Ev.bind (iread_ev _ hm) (gj2_ev s 5 _ t h0 hs)
  ·rw [if_neg h5]
   exact Ev.ifn (by omega) (gj2_ev s k [] t h0 hs)
/-- what is read of words -/
def wordsV (s:ByteArray) (t:List ByteArray):GR:=
 if t.length=3∧(t.getD 1 ByteArray.empty).data.toList=[61] then finG s 2 (rB (t.getD 0 ByteArray.empty)) (if 2<t.length then rB (t.getD 2 ByteArray.empty) else []) []
 else if t.length=3∧(t.getD 1 ByteArray.empty).data.toList=[60] then finG s 4 (rB (t.getD 0 ByteArray.empty)) (if 2<t.length then rB (t.getD 2 ByteArray.empty) else []) []
 else if t.length=5 then finG s 5 (rB (t.getD 0 ByteArray.empty)) (if 2<t.length then rB (t.getD 2 ByteArray.empty) else []) (rB (t.getD 4 ByteArray.empty))
 else finG s 1 (rB (t.getD 0 ByteArray.empty)) (if 2<t.length then rB (t.getD 2 ByteArray.empty) else []) []
theorem gj0_ev (s:ByteArray) (t:List ByteArray) (h0:t≠[]) (hs:∀ x ∈ t,x.size≤1099511627776) (b:Bool) (hb:b=true↔t.length=3∧(t.getD 1 ByteArray.empty).data.toList=[61]) :
  Ev (fun n=>impl_GoalRead.j0 n s t b 1) (wordsV s t):=by
 refine Ev.step (fun k=>rfl) ?_
 simp only [impl_GoalRead.j0]
 unfold wordsV
 by_cases h1:t.length=3∧(t.getD 1 ByteArray.empty).data.toList=[61]
 ·rw [if_pos h1]
  exact Ev.ifp (hb.2 h1) (gj2_ev s 2 [] t h0 hs)
 rw [if_neg h1]
 refine Ev.ifn (fun h=>h1 (hb.1 h)) ?_
 by_cases h3:t.length=3
 ·refine Ev.ifp (by omega) (Ev.ifp (by omega) ?_)
  rw [show rdOf ByteArray.empty t 1=t.getD 1 ByteArray.empty by simp [rdOf]]
  have hq:=gj1_ev s t ((t.getD 1 ByteArray.empty).toList == ([60]:List UInt8)) 1 h0 hs
  by_cases h60:(t.getD 1 ByteArray.empty).data.toList=[60]
  ·rw [if_pos ⟨h3,h60⟩]
   rw [if_pos (by rw [Lib.toList_data,h60];rfl)] at hq
   exact hq
  ·rw [if_neg (fun h=>h60 h.2)]
   rw [if_neg (by rw [Lib.toList_data];simpa using h60)] at hq
   exact hq
 ·refine Ev.ifn (by omega) ?_
  have hq:=gj1_ev s t false 1 h0 hs
  rw [if_neg (by simp)] at hq
  rw [if_neg (fun h=>h3 h.1)]
  exact hq
theorem fin1 {s:ByteArray} {a b c:List Cell} (h:(words s.data.toList).length≠1):finG s 1 a b c=none5:=by
 rw [finG_of,if_neg]
 rintro ⟨_,h2⟩
 rw [← h2] at h
 exact h rfl
theorem wordsV_is {s:ByteArray} {t:List ByteArray} (hw:t.map (·.data.toList)=words s.data.toList) (h33:¬ s.data.toList=[33]):wordsV s t=flat (goalR s):=by
 have hn:t≠[]:=by rintro rfl;exact pieces_ne _ _ hw.symm
 unfold goalR
 rw [if_neg h33]
 unfold wordsV
 match t,hw,hn with
 | [],_,hn=>exact absurd rfl hn
 | [a],hw,_=>
  rw [if_neg (by simp),if_neg (by simp),if_neg (by simp)]
  show finG s 1 (rB a) [] []=_
  rw [rB_R,finG_of,← hw]
  by_cases hg:goalB 1 (R a.data.toList) [] []=true
  ·have ht:isTerm (R a.data.toList)=true:=by
    rcases goalB_cases hg with h|h|h|h
    ·exact h.2.1
    ·exact absurd h.1 (by decide)
    ·exact absurd h.1 (by decide)
    ·exact absurd h.1 (by decide)
   rw [if_pos ⟨hg,by simp [gwords,(R_text ht).1]⟩]
   simp [goalW,hg,flat]
  ·rw [if_neg (fun h=>hg h.1)]
   simp [goalW,hg,flat,none5]
 | [a,b],hw,_=>
  rw [fin1 (by rw [← hw];simp),← hw]
  rfl
 | [a,b,c],hw,_=>
  by_cases h61:b.data.toList=[61]
  ·rw [if_pos ⟨rfl,h61⟩]
   show finG s 2 (rB a) (rB c) []=_
   rw [rB_R,rB_R,finG_of,← hw]
   by_cases hg:goalB 2 (R a.data.toList) (R c.data.toList) []=true
   ·have ht:isTerm (R a.data.toList)=true∧isTerm (R c.data.toList)=true:=by
     rcases goalB_cases hg with h|h|h|h
     ·exact absurd h.1 (by decide)
     ·exact absurd h.1 (by decide)
     ·exact ⟨h.2.1,h.2.2.1⟩
     ·exact absurd h.1 (by decide)
    rw [if_pos ⟨hg,by simp [gwords,(R_text ht.1).1,(R_text ht.2).1,h61]⟩]
    simp [goalW,hg,flat,h61]
   ·rw [if_neg (fun h=>hg h.1)]
    simp [goalW,hg,flat,none5,h61]
  rw [if_neg (fun h=>h61 h.2)]
  by_cases h60:b.data.toList=[60]
  ·rw [if_pos ⟨rfl,h60⟩]
   show finG s 4 (rB a) (rB c) []=_
   rw [rB_R,rB_R,finG_of,← hw]
   by_cases hg:goalB 4 (R a.data.toList) (R c.data.toList) []=true
   ·have ht:isTerm (R a.data.toList)=true∧isTerm (R c.data.toList)=true:=by
     rcases goalB_cases hg with h|h|h|h
     ·exact absurd h.1 (by decide)
     ·exact absurd h.1 (by decide)
     ·exact ⟨h.2.1,h.2.2.1⟩
     ·exact absurd h.1 (by decide)
    rw [if_pos ⟨hg,by simp [gwords,(R_text ht.1).1,(R_text ht.2).1,h60]⟩]
    simp [goalW,hg,flat,h60]
   ·rw [if_neg (fun h=>hg h.1)]
    simp [goalW,hg,flat,none5,h60]
  rw [if_neg (fun h=>h60 h.2),if_neg (by simp),fin1 (by rw [← hw];simp),← hw]
  simp [goalW,flat,none5,h61,h60]
 | [a,b,c,d],hw,_=>
  rw [fin1 (by rw [← hw];simp),← hw]
  rfl
 | [a,b,c,d,e],hw,_=>
  rw [if_neg (by simp),if_neg (by simp),if_pos (by simp)]
  show finG s 5 (rB a) (rB c) (rB e)=_
  rw [rB_R,rB_R,rB_R,finG_of,← hw]
  by_cases hg:goalB 5 (R a.data.toList) (R c.data.toList) (R e.data.toList)=true
  ·have ht:isTerm (R a.data.toList)=true∧isTerm (R c.data.toList)=true∧isTerm (R e.data.toList)=true:=by
    rcases goalB_cases hg with h|h|h|h
    ·exact absurd h.1 (by decide)
    ·exact absurd h.1 (by decide)
    ·exact absurd h.1 (by decide)
    ·exact h.2
   have hgw:gwords 5 (R a.data.toList) (R c.data.toList) (R e.data.toList)=[a.data.toList,[43],c.data.toList,[61],e.data.toList]:=by
    simp [gwords,(R_text ht.1).1,(R_text ht.2.1).1,(R_text ht.2.2).1]
   by_cases ho:b.data.toList=[43]∧d.data.toList=[61]
   ·rw [if_pos ⟨hg,by rw [hgw];simp [ho.1,ho.2]⟩]
    simp [goalW,hg,flat,ho.1,ho.2]
   ·rw [if_neg (fun h=>ho (by have h2:=h.2;rw [hgw] at h2;simp at h2;exact ⟨h2.1.symm,h2.2.symm⟩))]
    simp [goalW,flat,none5,ho]
  ·rw [if_neg (fun h=>hg h.1)]
   by_cases ho:b.data.toList=[43]∧d.data.toList=[61]
   ·simp [goalW,hg,flat,none5,ho.1,ho.2]
   ·simp [goalW,flat,none5,ho]
 | a :: b :: c :: d :: e :: g :: t,hw,_=>
  rw [if_neg (by simp),if_neg (by simp),if_neg (by simp),fin1 (by rw [← hw];simp),← hw]
  rfl
/-- what the program reads -/
theorem igr_ev (s:ByteArray) (hs:s.size≤1099511627):Ev (fun n=>impl_GoalRead.f n s) (flat (goalR s)):=by
 obtain ⟨t,ht,hw⟩:=split_ev s hs
 have hz:∀ x ∈ t,x.size≤1099511627776:=fun x hx=>by have:=word_size hw x hx;omega
 unfold impl_GoalRead.f
 refine Ev.bindv ht ?_
 by_cases h33:s.data.toList=[33]
 ·have e:flat (goalR s)=(3,[],[],[],true):=by unfold goalR;rw [if_pos h33];rfl
  rw [e]
  exact Ev.ifp (by rw [Lib.toList_data];exact h33) (Ev.now _)
 refine Ev.ifn (by rw [Lib.toList_data];exact h33) ?_
 have hn:t≠[]:=by rintro rfl;exact pieces_ne _ _ hw.symm
 rw [← wordsV_is hw h33]
 by_cases h3:t.length=3
 ·refine Ev.ifp (by omega) (Ev.ifp (by omega) (gj0_ev s t hn hz _ ?_))
  rw [show rdOf ByteArray.empty t 1=t.getD 1 ByteArray.empty by simp [rdOf],Lib.toList_data]
  simp [h3]
 ·exact Ev.ifn (by omega) (gj0_ev s t hn hz false (by simp [h3]))
end Go.Proofs.YtlhniagacegbeaaGreatDoor.P
