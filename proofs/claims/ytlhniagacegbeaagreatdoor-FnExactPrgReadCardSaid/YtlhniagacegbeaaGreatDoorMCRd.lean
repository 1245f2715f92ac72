/- What is read of a text as a clause: plain mathematics. -/
import Derived.Test.YtlhniagacegbeaaGreatDoorMGrd
namespace Go.Proofs.YtlhniagacegbeaaGreatDoor.P
set_option linter.unusedVariables false
set_option linter.unusedSimpArgs false
open Go.RowKit Go.Proofs.YtlhniagacegbeaaGreatDoor.Cat Go.Proofs.YtlhniagacegbeaaGreatDoorW.PrintWords Go.Proofs.YtlhniagacegbeaaGreatDoorW.PrintLast Go.Lib
def sIf:List UInt8:=[32,105,102,32]
def sAnd:List UInt8:=[32,97,110,100,32]
def goalOf (q:(Int × List Cell × List Cell × List Cell) × Bool):Goal:=⟨q.1.1,q.1.2.1,q.1.2.2.1,q.1.2.2.2⟩
/-- the goals of words, if each is one -/
def goalsR:List (List UInt8)→Option (List Goal)
 | []=>some []
 | w :: ws=>if (goalR (ba w)).2=true then (goalsR ws).map (goalOf (goalR (ba w)) :: ·) else none
abbrev CR:=List Cell × List Goal × Bool
def noneC:CR:=([],[],false)
def finC (h:List Cell) (b:List Goal):CR:=if clauseOk ⟨h,b⟩=true then (h,b,true) else noneC
/-- what a clause is read as -/
def clauseR (s:ByteArray):CR:=match cutS sIf s.data.toList with
 | none=>finC (R s.data.toList) []
 | some q=>match goalsR (pieces sAnd q.2) with
  | none=>noneC
  | some gs=>finC (R q.1) gs
theorem goalsR_len:∀ {ws:List (List UInt8)} {gs:List Goal},goalsR ws=some gs→gs.length=ws.length
 | [],gs,h=>by obtain rfl:=Option.some.inj h;rfl
 | w :: ws,gs,h=>by
  rw [goalsR] at h
  by_cases hg:(goalR (ba w)).2=true
  ·rw [if_pos hg] at h
   obtain ⟨r,hr,rfl⟩:=Option.map_eq_some_iff.1 h
   rw [List.length_cons,List.length_cons,goalsR_len hr]
  ·rw [if_neg hg] at h;cases h
theorem goalsR_sm:∀ {ws:List (List UInt8)} {gs:List Goal},goalsR ws=some gs→∀ g ∈ gs,g.f1.length≤40∧g.f2.length≤40∧g.f3.length≤40
 | [],gs,h=>by obtain rfl:=Option.some.inj h;simp
 | w :: ws,gs,h=>by
  rw [goalsR] at h
  by_cases hg:(goalR (ba w)).2=true
  ·rw [if_pos hg] at h
   obtain ⟨r,hr,rfl⟩:=Option.map_eq_some_iff.1 h
   intro g hm
   rcases List.mem_cons.1 hm with rfl|hm
   ·exact goalR_len (ba w)
   ·exact goalsR_sm hr g hm
  ·rw [if_neg hg] at h;cases h
def gtextL (g:Goal):List UInt8:=(gtext g.f0 g.f1 g.f2 g.f3).data.toList
theorem goalsR_text:∀ {ws:List (List UInt8)} {gs:List Goal},goalsR ws=some gs→gs.map gtextL=ws
 | [],gs,h=>by obtain rfl:=Option.some.inj h;rfl
 | w :: ws,gs,h=>by
  rw [goalsR] at h
  by_cases hg:(goalR (ba w)).2=true
  ·rw [if_pos hg] at h
   obtain ⟨r,hr,rfl⟩:=Option.map_eq_some_iff.1 h
   rw [List.map_cons,goalsR_text hr]
   congr 1
   have:=(goalR_ok hg).2
   show (gtext (goalR (ba w)).1.1 (goalR (ba w)).1.2.1 (goalR (ba w)).1.2.2.1 (goalR (ba w)).1.2.2.2).data.toList=w
   rw [this,ba_data]
  ·rw [if_neg hg] at h;cases h
/-- a clause's line -/
def restL:Bool→List Goal→List UInt8
 | _,[]=>[]
 | b,g :: gs=>(if b=true then sIf else sAnd)++gtextL g++restL false gs
theorem restL_join:∀ (gs:List Goal),gs≠[]→restL false gs=sAnd++joinS sAnd (gs.map gtextL)
 | [],h=>absurd rfl h
 | [g],_=>by simp [restL,joinS]
 | g :: g2 :: gs,_=>by
  have ih:=restL_join (g2 :: gs) (by simp)
  rw [restL,ih]
  simp [joinS]
theorem restL_if (gs:List Goal) (h:gs≠[]):restL true gs=sIf++joinS sAnd (gs.map gtextL):=by
 cases gs with
 | nil=>exact absurd rfl h
 | cons g gs=>
  cases gs with
  | nil=>simp [restL,joinS]
  | cons g2 gs=>
   rw [restL,restL_join (g2 :: gs) (by simp)]
   simp [joinS]
/-- what was read of a text, and may be, has that text -/
theorem line_is {s:ByteArray} {q:List UInt8 × List UInt8} {gs:List Goal} (hc:cutS sIf s.data.toList=some q) (hg:goalsR (pieces sAnd q.2)=some gs) (ht:isTerm (R q.1)=true):Cat.text (R q.1)++restL true gs=s.data.toList:=by
 have hne:gs≠[]:=by
  rintro rfl
  have:=goalsR_len hg
  exact pieces_ne sAnd q.2 (List.eq_nil_of_length_eq_zero this.symm)
 rw [restL_if gs hne,goalsR_text hg,joinS_pieces (by simp [sAnd]) q.2.length q.2 (Nat.le_refl _),(R_text ht).1]
 have:=cutS_app (a:=q.1) (b:=q.2) hc
 rw [this];simp
theorem clause_term {h:List Cell} {b:List Goal} (hc:clauseOk ⟨h,b⟩=true):isTerm h=true∧b.length≤4:=by
 unfold clauseOk called at hc
 simp only [Bool.and_eq_true,decide_eq_true_eq] at hc
 exact ⟨hc.1.1,hc.2.2.1⟩
theorem clauseR_sm (s:ByteArray):(clauseR s).1.length≤40∧(clauseR s).2.1.length≤4∧∀ g ∈ (clauseR s).2.1,g.f1.length≤40∧g.f2.length≤40∧g.f3.length≤40:=by
 have fin:∀ (h:List Cell) (b:List Goal),h.length≤40→(∀ g ∈ b,g.f1.length≤40∧g.f2.length≤40∧g.f3.length≤40)→(finC h b).1.length≤40∧(finC h b).2.1.length≤4∧∀ g ∈ (finC h b).2.1,g.f1.length≤40∧g.f2.length≤40∧g.f3.length≤40:=by
  intro h b hh hb
  unfold finC
  by_cases hc:clauseOk ⟨h,b⟩=true
  ·rw [if_pos hc];exact ⟨hh,(clause_term hc).2,hb⟩
  ·rw [if_neg hc];simp [noneC]
 unfold clauseR
 cases cutS sIf s.data.toList with
 | none=>exact fin _ _ (R_len _) (by simp)
 | some q=>
  simp only
  cases hg:goalsR (pieces sAnd q.2) with
  | none=>simp [noneC]
  | some gs=>exact fin _ _ (R_len _) (goalsR_sm hg)
theorem cutS_short {sep:List UInt8} {l:List UInt8} (h:l.length<sep.length):cutS sep l=none:=by
 cases hc:cutS sep l with
 | none=>rfl
 | some q=>have:=cutS_len (a:=q.1) (b:=q.2) hc;omega
end Go.Proofs.YtlhniagacegbeaaGreatDoor.P
