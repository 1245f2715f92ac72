/- A goal's text and its words, and what is read of a text: plain mathematics over goals, terms' texts and words. -/
import Derived.Test.YtlhniagacegbeaaGreatDoorMRdS
import Derived.Test.YtlhniagacegbeaaGreatDoorMGTx
import Derived.Test.YtlhniagacegbeaaGreatDoorMWords
namespace Go.Proofs.YtlhniagacegbeaaGreatDoor.Cat
set_option linter.unusedVariables false
set_option linter.unusedSimpArgs false
open Go.Lib
theorem text_bytes33:∀ (k:Nat) (u:List Cell),Forest 1 u→okl u→u.length≤k→∀ b ∈ text u,b≠33
 | 0,u,h,_,hl=>by have:=h.len;omega
 | k+1,u,h,hok,hl=>by
  intro b hb
  obtain ⟨c,r,rfl,hr⟩:=h.one
  obtain ⟨hc,hokr⟩:=okl_cons.1 hok
  simp only [List.length_cons] at hl
  rw [text_cons h] at hb
  rcases List.mem_append.1 hb with hb|hb
  ·have hi:∀ n:Int,b ∈ itoa n→b≠33:=by
    intro n hb
    unfold itoa at hb
    split at hb
    ·rcases List.mem_cons.1 hb with rfl|hb
     ·decide
     ·rintro rfl;exact absurd (decDigits_dig _ _ hb) (by decide)
    ·rintro rfl;exact absurd (decDigits_dig _ _ hb) (by decide)
   unfold word at hb
   unfold cellOk at hc
   by_cases h1:c.f0=1
   ·rw [if_pos h1] at hb
    rcases List.mem_cons.1 hb with rfl|hb
    ·decide
    ·exact hi _ hb
   ·rw [if_neg h1] at hb hc
    by_cases h2:c.f0=2
    ·rw [if_pos h2] at hb;exact hi _ hb
    ·rw [if_neg h2] at hb hc
     by_cases h3:c.f0=3
     ·rw [if_pos h3] at hc
      simp only [Bool.and_eq_true] at hc
      rintro rfl
      exact absurd ((name_ok hc.2).2.1 _ hb) (by decide)
     ·rw [if_neg h3] at hc;cases hc
  ·obtain ⟨c1,c2,c3⟩:=cut_spec hr
   have hm:∀ x ∈ cut (ar c) r,∀ b ∈ text x,b≠33:=fun x hx=>by
    have hsub:=List.sublist_flatten_of_mem hx
    rw [c1] at hsub
    have:=hsub.length_le
    exact text_bytes33 k x (c3 x hx) (fun y hy=>hokr y (hsub.subset hy)) (by omega)
   cases hcc:cut (ar c) r with
   | nil=>rw [hcc] at hb;simp [joined] at hb
   | cons g gs=>
    rw [hcc] at hb hm
    simp only [List.map_cons,joined,List.mem_append,List.mem_cons,List.mem_flatMap,List.mem_map,List.mem_singleton,List.not_mem_nil,or_false] at hb
    rcases hb with ((rfl|hb)|⟨u,⟨x,hx,rfl⟩,hb⟩)|rfl
    ·decide
    ·exact hm g (by simp) b hb
    ·rcases hb with rfl|hb
     ·decide
     ·exact hm x (by simp [hx]) b hb
    ·decide
theorem text_w {t:List Cell} (h:isTerm t=true):32 ∉ text t:=fun hm=>text_sp h 32 hm rfl
end Go.Proofs.YtlhniagacegbeaaGreatDoor.Cat
namespace Go.Proofs.YtlhniagacegbeaaGreatDoor.P
set_option linter.unusedVariables false
set_option linter.unusedSimpArgs false
open Go.RowKit Go.Proofs.YtlhniagacegbeaaGreatDoor.Cat Go.Proofs.YtlhniagacegbeaaGreatDoorW.PrintWords Go.Proofs.YtlhniagacegbeaaGreatDoorW.PrintLast Go.Lib
theorem text_33 {t:List Cell} (h:isTerm t=true):Cat.text t≠[33]:=by
 intro e
 obtain ⟨h1,h2,h3,h4⟩:=isTerm_iff.1 h
 exact text_bytes33 t.length t h4 h3 (Nat.le_refl _) 33 (by rw [e];simp) rfl
def gwords (k:Int) (a b c:List Cell):List (List UInt8):=
 if k=2 then [Cat.text a,[61],Cat.text b] else if k=3 then [[33]] else if k=4 then [Cat.text a,[60],Cat.text b] else if k=5 then [Cat.text a,[43],Cat.text b,[61],Cat.text c] else [Cat.text a]
theorem goalB_cases {k:Int} {a b c:List Cell} (h:goalB k a b c=true):(k=1∧isTerm a=true∧b=[]∧c=[])∨(k=3∧a=[]∧b=[]∧c=[])∨((k=2∨k=4)∧isTerm a=true∧isTerm b=true∧c=[])∨(k=5∧isTerm a=true∧isTerm b=true∧isTerm c=true):=by
 unfold goalB shapeOk at h
 simp only [len0,List.isEmpty_iff] at h
 by_cases h6:k=6
 ·rw [if_pos h6] at h;cases h
 rw [if_neg h6] at h
 by_cases h1:k=1
 ·rw [if_pos (.inl h1)] at h
  unfold called at h
  simp only [Bool.and_eq_true,List.isEmpty_iff] at h
  exact .inl ⟨h1,h.1.1.1,h.2.1,h.2.2⟩
 rw [if_neg (by omega)] at h
 by_cases h2:k=2∨k=4
 ·rw [if_pos h2] at h
  simp only [Bool.and_eq_true,List.isEmpty_iff] at h
  exact .inr (.inr (.inl ⟨h2,h.1.1,h.2.1.1,h.2.2⟩))
 rw [if_neg h2] at h
 by_cases h5:k=5
 ·rw [if_pos h5] at h
  simp only [Bool.and_eq_true,List.isEmpty_iff] at h
  exact .inr (.inr (.inr ⟨h5,h.1.1,h.2.1.1,h.2.2.1⟩))
 rw [if_neg h5] at h
 by_cases h3:k=3
 ·rw [if_pos h3] at h
  simp only [Bool.and_eq_true,List.isEmpty_iff] at h
  exact .inr (.inl ⟨h3,h.1,h.2.1,h.2.2⟩)
 rw [if_neg h3] at h;cases h
theorem textB_is {t:List Cell} (h:isTerm t=true):textB t=ba (Cat.text t):=by
 unfold textB;rw [if_pos h]
theorem gtext_join {k:Int} {a b c:List Cell} (h:goalB k a b c=true):gtext k a b c=ba (joinS [32] (gwords k a b c)):=by
 unfold gtext gwords
 rw [if_pos h]
 rcases goalB_cases h with ⟨rfl,ha,rfl,rfl⟩|⟨rfl,rfl,rfl,rfl⟩|⟨rfl|rfl,ha,hb,rfl⟩|⟨rfl,ha,hb,hc⟩
 ·rw [textB_is ha];rfl
 ·rfl
 ·rw [textB_is ha,textB_is hb]
  rw [show (⟨#[32,61,32]⟩:ByteArray)=ba [32,61,32] from rfl]
  simp [ba_app,joinS]
 ·rw [textB_is ha,textB_is hb]
  rw [show (⟨#[32,60,32]⟩:ByteArray)=ba [32,60,32] from rfl]
  simp [ba_app,joinS]
 ·rw [textB_is ha,textB_is hb,textB_is hc]
  rw [show (⟨#[32,43,32]⟩:ByteArray)=ba [32,43,32] from rfl,show (⟨#[32,61,32]⟩:ByteArray)=ba [32,61,32] from rfl]
  simp [ba_app,joinS]
theorem gwords_w {k:Int} {a b c:List Cell} (h:goalB k a b c=true):gwords k a b c≠[]∧∀ w ∈ gwords k a b c,32 ∉ w:=by
 unfold gwords
 rcases goalB_cases h with ⟨rfl,ha,rfl,rfl⟩|⟨rfl,rfl,rfl,rfl⟩|⟨rfl|rfl,ha,hb,rfl⟩|⟨rfl,ha,hb,hc⟩
 ·simp [text_w ha]
 ·simp
 ·simp [text_w ha,text_w hb]
 ·simp [text_w ha,text_w hb]
 ·simp [text_w ha,text_w hb,text_w hc]
theorem gtext_words {k:Int} {a b c:List Cell} (h:goalB k a b c=true):words (gtext k a b c).data.toList=gwords k a b c:=by
 rw [gtext_join h,ba_data]
 exact words_join _ (gwords_w h).1 (gwords_w h).2
theorem gtext_eq {k:Int} {a b c:List Cell} (h:goalB k a b c=true) (s:ByteArray):gtext k a b c=s↔gwords k a b c=words s.data.toList:=by
 constructor
 ·rintro rfl;exact (gtext_words h).symm
 ·intro e
  rw [gtext_join h,e,join_words,ba_of]
/-- a word as a term -/
def R (w:List UInt8):List Cell:=(readP (ba w)).1
theorem R_text {w:List UInt8} (h:isTerm (R w)=true):Cat.text (R w)=w∧(readP (ba w)).2=true:=by
 unfold R at h ⊢
 rcases readP_cases (ba w) with ⟨u,h1,h2,e⟩|⟨_,e⟩
 ·rw [e];exact ⟨by rw [h2,ba_data],rfl⟩
 ·rw [e] at h;exact absurd h (by decide)
theorem R_of {t:List Cell} (h:isTerm t=true):R (Cat.text t)=t:=by
 unfold R
 rw [readP_term h (by rw [ba_data])]
/-- what the words may be -/
def goalW:List (List UInt8)→Option (Int × List Cell × List Cell × List Cell)
 | [a]=>some (1,R a,[],[])
 | [a,o,b]=>if o=[61] then some (2,R a,R b,[]) else if o=[60] then some (4,R a,R b,[]) else none
 | [a,o,b,p,c]=>if o=[43]∧p=[61] then some (5,R a,R b,R c) else none
 | _=>none
/-- what a goal is read as -/
def goalR (s:ByteArray):(Int × List Cell × List Cell × List Cell) × Bool:=
 if s.data.toList=[33] then ((3,[],[],[]),true) else
 match goalW (words s.data.toList) with
 | none=>((0,[],[],[]),false)
 | some q=>if goalB q.1 q.2.1 q.2.2.1 q.2.2.2=true then (q,true) else ((0,[],[],[]),false)
theorem goalR_ok {s:ByteArray} (h:(goalR s).2=true):goalB (goalR s).1.1 (goalR s).1.2.1 (goalR s).1.2.2.1 (goalR s).1.2.2.2=true∧gtext (goalR s).1.1 (goalR s).1.2.1 (goalR s).1.2.2.1 (goalR s).1.2.2.2=s:=by
 unfold goalR at h ⊢
 by_cases h0:s.data.toList=[33]
 ·rw [if_pos h0]
  refine ⟨by decide,?_⟩
  show gtext 3 [] [] []=s
  refine (gtext_eq (by decide) s).2 ?_
  rw [h0];decide
 ·rw [if_neg h0] at h ⊢
  cases hw:goalW (words s.data.toList) with
  | none=>rw [hw] at h;cases h
  | some q=>
   rw [hw] at h
   simp only at h ⊢
   by_cases hg:goalB q.1 q.2.1 q.2.2.1 q.2.2.2=true
   ·rw [if_pos hg]
    refine ⟨hg,(gtext_eq hg s).2 ?_⟩
    generalize words s.data.toList=ws at hw
    unfold goalW at hw
    split at hw
    ·obtain rfl:=Option.some.inj hw
     rcases goalB_cases hg with ⟨_,ha,_,_⟩|⟨h3,_⟩|⟨h3|h3,_⟩|⟨h3,_⟩
     ·simp only at ha
      simp [gwords,(R_text ha).1]
     all_goals exact absurd h3 (by simp)
    ·split at hw
     ·rename_i ho
      subst ho
      obtain rfl:=Option.some.inj hw
      rcases goalB_cases hg with ⟨h3,_⟩|⟨h3,_⟩|⟨_,ha,hb,_⟩|⟨h3,_⟩
      ·exact absurd h3 (by simp)
      ·exact absurd h3 (by simp)
      ·simp only at ha hb
       simp [gwords,(R_text ha).1,(R_text hb).1]
      ·exact absurd h3 (by simp)
     ·split at hw
      ·rename_i ho
       subst ho
       obtain rfl:=Option.some.inj hw
       rcases goalB_cases hg with ⟨h3,_⟩|⟨h3,_⟩|⟨_,ha,hb,_⟩|⟨h3,_⟩
       ·exact absurd h3 (by simp)
       ·exact absurd h3 (by simp)
       ·simp only at ha hb
        simp [gwords,(R_text ha).1,(R_text hb).1]
       ·exact absurd h3 (by simp)
      ·cases hw
    ·split at hw
     ·rename_i ho
      obtain ⟨ho1,ho2⟩:=ho
      subst ho1 ho2
      obtain rfl:=Option.some.inj hw
      rcases goalB_cases hg with ⟨h3,_⟩|⟨h3,_⟩|⟨h3|h3,_⟩|⟨_,ha,hb,hc⟩
      ·exact absurd h3 (by simp)
      ·exact absurd h3 (by simp)
      ·exact absurd h3 (by simp)
      ·exact absurd h3 (by simp)
      ·simp only at ha hb hc
       simp [gwords,(R_text ha).1,(R_text hb).1,(R_text hc).1]
     ·cases hw
    ·cases hw
   ·rw [if_neg hg] at h;cases h
/-- a goal's text is read as it -/
theorem goalR_of {k:Int} {a b c:List Cell} (h:goalB k a b c=true):goalR (gtext k a b c)=((k,a,b,c),true):=by
 unfold goalR
 rw [gtext_words h]
 by_cases h0:(gtext k a b c).data.toList=[33]
 ·rw [if_pos h0]
  have hw:=gtext_words h
  rw [h0,show words [33]=[[33]] by decide] at hw
  rcases goalB_cases h with ⟨rfl,ha,rfl,rfl⟩|⟨rfl,rfl,rfl,rfl⟩|⟨rfl|rfl,ha,hb,rfl⟩|⟨rfl,ha,hb,hc⟩
  ·simp [gwords] at hw
   exact absurd hw.symm (text_33 ha)
  ·rfl
  ·simp [gwords] at hw
  ·simp [gwords] at hw
  ·simp [gwords] at hw
 ·rw [if_neg h0]
  rcases goalB_cases h with ⟨rfl,ha,rfl,rfl⟩|⟨rfl,rfl,rfl,rfl⟩|⟨rfl|rfl,ha,hb,rfl⟩|⟨rfl,ha,hb,hc⟩
  ·simp [gwords,goalW,R_of ha,h]
  ·exact absurd (by decide) h0
  ·simp [gwords,goalW,R_of ha,R_of hb,h]
  ·simp [gwords,goalW,R_of ha,R_of hb,h]
  ·simp [gwords,goalW,R_of ha,R_of hb,R_of hc,h]
theorem goalR_len (s:ByteArray):(goalR s).1.2.1.length≤40∧(goalR s).1.2.2.1.length≤40∧(goalR s).1.2.2.2.length≤40:=by
 unfold goalR
 by_cases h0:s.data.toList=[33]
 ·rw [if_pos h0];simp
 rw [if_neg h0]
 cases hq:goalW (words s.data.toList) with
 | none=>simp
 | some q=>
  simp only
  by_cases hg:goalB q.1 q.2.1 q.2.2.1 q.2.2.2=true
  ·rw [if_pos hg]
   have hl:q.2.1.length≤40∧q.2.2.1.length≤40∧q.2.2.2.length≤40:=by
    rcases goalB_cases hg with ⟨_,a,b,c⟩|⟨_,a,b,c⟩|⟨_,a,b,c⟩|⟨_,a,b,c⟩
    ·rw [b,c];exact ⟨(isTerm_iff.1 a).2.1,by simp,by simp⟩
    ·rw [a,b,c];simp
    ·rw [c];exact ⟨(isTerm_iff.1 a).2.1,(isTerm_iff.1 b).2.1,by simp⟩
    ·exact ⟨(isTerm_iff.1 a).2.1,(isTerm_iff.1 b).2.1,(isTerm_iff.1 c).2.1⟩
   exact hl
  ·rw [if_neg hg];simp
end Go.Proofs.YtlhniagacegbeaaGreatDoor.P
