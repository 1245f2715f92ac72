/- A goal's text and its words, and what is read of a text: plain mathematics over goals, terms' texts and words. -/
import Derived.Test.YtlhniagacegbeaaGreatDoorMRdS
import Derived.Test.YtlhniagacegbeaaGreatDoorMGTx
import Derived.Test.YtlhniagacegbeaaGreatDoorMWords
namespace Go.Proofs.YtlhniagacegbeaaGreatDoor.Cat
set_option linter.unusedVariables false
set_option linter.unusedSimpArgs false
open Go.Lib
theorem text_w {t:List Cell} (h:isTerm t=true):32 ∉ text t:=fun hm=>text_sp h 32 hm rfl
end Go.Proofs.YtlhniagacegbeaaGreatDoor.Cat
namespace Go.Proofs.YtlhniagacegbeaaGreatDoor.P
set_option linter.unusedVariables false
set_option linter.unusedSimpArgs false
open Go.RowKit Go.Proofs.YtlhniagacegbeaaGreatDoor.Cat Go.Proofs.YtlhniagacegbeaaGreatDoorW.PrintWords Go.Proofs.YtlhniagacegbeaaGreatDoorW.PrintLast Go.Lib
def gwords (k:Int) (a b c:List Cell):List (List UInt8):=
 if k=2 then [Cat.text a,[61],Cat.text b] else if k=3 then [[33]] else if k=4 then [Cat.text a,[60],Cat.text b] else if k=5 then [Cat.text a,[43],Cat.text b,[61],Cat.text c] else [Cat.text a]
theorem goalB_cases {k:Int} {a b c:List Cell} (h:goalB k a b c=true):(k=1∧isTerm a=true∧b=[]∧c=[])∨(k=3∧a=[]∧b=[]∧c=[])∨((k=2∨k=4)∧isTerm a=true∧isTerm b=true∧c=[])∨(k=5∧isTerm a=true∧isTerm b=true∧isTerm c=true):=by
 unfold goalB shapeOk at h
 simp only [len0,List.isEmpty_iff] at h
 by_cases h6:k=6
 ·rw [if_pos h6] at h;cases h
 rw [if_neg h6] at h
 by_cases h1:k=1
 ·rw [if_pos (.inl h1)] at h
  unfold called at h
  simp only [Bool.and_eq_true,List.isEmpty_iff] at h
  exact .inl ⟨h1,h.1.1.1,h.2.1,h.2.2⟩
 rw [if_neg (by omega)] at h
 by_cases h2:k=2∨k=4
 ·rw [if_pos h2] at h
  simp only [Bool.and_eq_true,List.isEmpty_iff] at h
  exact .inr (.inr (.inl ⟨h2,h.1.1,h.2.1.1,h.2.2⟩))
 rw [if_neg h2] at h
 by_cases h5:k=5
 ·rw [if_pos h5] at h
  simp only [Bool.and_eq_true,List.isEmpty_iff] at h
  exact .inr (.inr (.inr ⟨h5,h.1.1,h.2.1.1,h.2.2.1⟩))
 rw [if_neg h5] at h
 by_cases h3:k=3
 ·rw [if_pos h3] at h
  simp only [Bool.and_eq_true,List.isEmpty_iff] at h
  exact .inr (.inl ⟨h3,h.1,h.2.1,h.2.2⟩)
 rw [if_neg h3] at h;cases h
theorem textB_is {t:List Cell} (h:isTerm t=true):textB t=ba (Cat.text t):=by
 unfold textB;rw [if_pos h]
theorem gtext_join {k:Int} {a b c:List Cell} (h:goalB k a b c=true):gtext k a b c=ba (joinS [32] (gwords k a b c)):=by
 unfold gtext gwords
 rw [if_pos h]
 rcases goalB_cases h with ⟨rfl,ha,rfl,rfl⟩|⟨rfl,rfl,rfl,rfl⟩|⟨rfl|rfl,ha,hb,rfl⟩|⟨rfl,ha,hb,hc⟩
 ·rw [textB_is ha];rfl
 ·rfl
 ·rw [textB_is ha,textB_is hb]
  rw [show (⟨#[32,61,32]⟩:ByteArray)=ba [32,61,32] from rfl]
  simp [ba_app,joinS]
 ·rw [textB_is ha,textB_is hb]
  rw [show (⟨#[32,60,32]⟩:ByteArray)=ba [32,60,32] from rfl]
  simp [ba_app,joinS]
 ·rw [textB_is ha,textB_is hb,textB_is hc]
  rw [show (⟨#[32,43,32]⟩:ByteArray)=ba [32,43,32] from rfl,show (⟨#[32,61,32]⟩:ByteArray)=ba [32,61,32] from rfl]
  simp [ba_app,joinS]
theorem gwords_w {k:Int} {a b c:List Cell} (h:goalB k a b c=true):gwords k a b c≠[]∧∀ w ∈ gwords k a b c,32 ∉ w:=by
 unfold gwords
 rcases goalB_cases h with ⟨rfl,ha,rfl,rfl⟩|⟨rfl,rfl,rfl,rfl⟩|⟨rfl|rfl,ha,hb,rfl⟩|⟨rfl,ha,hb,hc⟩
 ·simp [text_w ha]
 ·simp
 ·simp [text_w ha,text_w hb]
 ·simp [text_w ha,text_w hb]
 ·simp [text_w ha,text_w hb,text_w hc]
theorem gtext_words {k:Int} {a b c:List Cell} (h:goalB k a b c=true):words (gtext k a b c).data.toList=gwords k a b c:=by
 rw [gtext_join h,ba_data]
 exact words_join _ (gwords_w h).1 (gwords_w h).2
theorem gtext_eq {k:Int} {a b c:List Cell} (h:goalB k a b c=true) (s:ByteArray):gtext k a b c=s↔gwords k a b c=words s.data.toList:=by
 constructor
 ·rintro rfl;exact (gtext_words h).symm
 ·intro e
  rw [gtext_join h,e,join_words,ba_of]
/-- a word as a term -/
def R (w:List UInt8):List Cell:=(readP (ba w)).1
theorem R_text {w:List UInt8} (h:isTerm (R w)=true):Cat.text (R w)=w∧(readP (ba w)).2=true:=by
 unfold R at h ⊢
 rcases readP_cases (ba w) with ⟨u,h1,h2,e⟩|⟨_,e⟩
 ·rw [e];exact ⟨by rw [h2,ba_data],rfl⟩
 ·rw [e] at h;exact absurd h (by decide)
theorem R_none {w:List UInt8} (h:(readP (ba w)).2=false):R w=[]:=by
 unfold R
 rcases readP_cases (ba w) with ⟨u,h1,h2,e⟩|⟨_,e⟩
 ·rw [e] at h;cases h
 ·rw [e]
theorem R_len (w:List UInt8):(R w).length≤40:=readP_len _
/-- what the words may be -/
def goalW:List (List UInt8)→Option (Int × List Cell × List Cell × List Cell)
 | [a]=>some (1,R a,[],[])
 | [a,o,b]=>if o=[61] then some (2,R a,R b,[]) else if o=[60] then some (4,R a,R b,[]) else none
 | [a,o,b,p,c]=>if o=[43]∧p=[61] then some (5,R a,R b,R c) else none
 | _=>none
/-- what a goal is read as -/
def goalR (s:ByteArray):(Int × List Cell × List Cell × List Cell) × Bool:=
 if s.data.toList=[33] then ((3,[],[],[]),true) else
 match goalW (words s.data.toList) with
 | none=>((0,[],[],[]),false)
 | some q=>if goalB q.1 q.2.1 q.2.2.1 q.2.2.2=true then (q,true) else ((0,[],[],[]),false)
theorem goalR_ok {s:ByteArray} (h:(goalR s).2=true):goalB (goalR s).1.1 (goalR s).1.2.1 (goalR s).1.2.2.1 (goalR s).1.2.2.2=true∧gtext (goalR s).1.1 (goalR s).1.2.1 (goalR s).1.2.2.1 (goalR s).1.2.2.2=s:=by
 unfold goalR at h ⊢
 by_cases h0:s.data.toList=[33]
 ·rw [if_pos h0]
  refine ⟨by decide,?_⟩
  show gtext 3 [] [] []=s
  refine (gtext_eq (by decide) s).2 ?_
  rw [h0];decide
 ·rw [if_neg h0] at h ⊢
  cases hw:goalW (words s.data.toList) with
  | none=>rw [hw] at h;cases h
  | some q=>
   rw [hw] at h
   simp only at h ⊢
   by_cases hg:goalB q.1 q.2.1 q.2.2.1 q.2.2.2=true
   ·rw [if_pos hg]
    refine ⟨hg,(gtext_eq hg s).2 ?_⟩
    generalize words s.data.toList=ws at hw
    unfold goalW at hw
    split at hw
    ·obtain rfl:=Option.some.inj hw
     rcases goalB_cases hg with ⟨_,ha,_,_⟩|⟨h3,_⟩|⟨h3|h3,_⟩|⟨h3,_⟩
     ·simp only at ha
      simp [gwords,(R_text ha).1]
     all_goals exact absurd h3 (by simp)
    ·split at hw
     ·rename_i ho
      subst ho
      obtain rfl:=Option.some.inj hw
      rcases goalB_cases hg with ⟨h3,_⟩|⟨h3,_⟩|⟨_,ha,hb,_⟩|⟨h3,_⟩
      ·exact absurd h3 (by simp)
      ·exact absurd h3 (by simp)
      ·simp only at ha hb
       simp [gwords,(R_text ha).1,(R_text hb).1]
      ·exact absurd h3 (by simp)
     ·split at hw
      ·rename_i ho
       subst ho
       obtain rfl:=Option.some.inj hw
       rcases goalB_cases hg with ⟨h3,_⟩|⟨h3,_⟩|⟨_,ha,hb,_⟩|⟨h3,_⟩
       ·exact absurd h3 (by simp)
       ·exact absurd h3 (by simp)
       ·simp only at ha hb
        simp [gwords,(R_text ha).1,(R_text hb).1]
       ·exact absurd h3 (by simp)
      ·cases hw
    ·split at hw
     ·rename_i ho
      obtain ⟨ho1,ho2⟩:=ho
      subst ho1 ho2
      obtain rfl:=Option.some.inj hw
      rcases goalB_cases hg with ⟨h3,_⟩|⟨h3,_⟩|⟨h3|h3,_⟩|⟨_,ha,hb,hc⟩
      ·exact absurd h3 (by simp)
      ·exact absurd h3 (by simp)
      ·exact absurd h3 (by simp)
      ·exact absurd h3 (by simp)
      ·simp only at ha hb hc
       simp [gwords,(R_text ha).1,(R_text hb).1,(R_text hc).1]
     ·cases hw
    ·cases hw
   ·rw [if_neg hg] at h;cases h
theorem goalR_len (s:ByteArray):(goalR s).1.2.1.length≤40∧(goalR s).1.2.2.1.length≤40∧(goalR s).1.2.2.2.length≤40:=by
 unfold goalR
 by_cases h0:s.data.toList=[33]
 ·rw [if_pos h0];simp
 rw [if_neg h0]
 cases hq:goalW (words s.data.toList) with
 | none=>simp
 | some q=>
  simp only
  by_cases hg:goalB q.1 q.2.1 q.2.2.1 q.2.2.2=true
  ·rw [if_pos hg]
   have hl:q.2.1.length≤40∧q.2.2.1.length≤40∧q.2.2.2.length≤40:=by
    rcases goalB_cases hg with ⟨_,a,b,c⟩|⟨_,a,b,c⟩|⟨_,a,b,c⟩|⟨_,a,b,c⟩
    ·rw [b,c];exact ⟨(isTerm_iff.1 a).2.1,by simp,by simp⟩
    ·rw [a,b,c];simp
    ·rw [c];exact ⟨(isTerm_iff.1 a).2.1,(isTerm_iff.1 b).2.1,by simp⟩
    ·exact ⟨(isTerm_iff.1 a).2.1,(isTerm_iff.1 b).2.1,(isTerm_iff.1 c).2.1⟩
   exact hl
  ·rw [if_neg hg];simp
end Go.Proofs.YtlhniagacegbeaaGreatDoor.P
