/- What the reference reads of a text as a goal. -/
import Derived.Test.YtlhniagacegbeaaGreatDoorMGRi
import Derived.Test.YtlhniagacegbeaaGreatDoorP3
import Derived.Test.YtlhniagacegbeaaGreatDoorP1
import Derived.Test.YtlhniagacegbeaaGreatDoorP3
namespace Go.Proofs.YtlhniagacegbeaaGreatDoor.P
set_option linter.unusedVariables false
set_option linter.unusedSimpArgs false
open Go.RowKit Go.Proofs.YtlhniagacegbeaaGreatDoor.Cat Go.Proofs.YtlhniagacegbeaaGreatDoorW.PrintWords Go.Proofs.YtlhniagacegbeaaGreatDoorW.PrintLast Go.Lib
theorem wl_ev (s:ByteArray) (hs:s.size≤1099511627):∀ (w a p:List UInt8) (X:List ByteArray),s.data.toList=a++w→p.length≤a.length→X.length≤a.length→
  ∃ t,Ev (fun k=>spec_l3Words.l0 k s X (ba p) ((a.length:Nat):Int)) (X++t)∧t.map (·.data.toList)=wordsOn p w
 | [],a,p,X,h,hp,hX=>by
  have hz:=sz_app h
  simp only [List.length_nil] at hz
  refine ⟨[ba p],Ev.step (fun k=>rfl) ?_,by simp [wordsOn,ba_data]⟩
  simp only [spec_l3Words.l0]
  exact Ev.ifn (by omega) (Ev.ifp (by omega) (Ev.now _))
 | c :: w,a,p,X,h,hp,hX=>by
  have hz:=sz_app h
  simp only [List.length_cons] at hz
  have hb:=btC s a w c h
  have hw:=wnext (i:=a.length) (by omega)
  by_cases hc:c=32
  ·obtain ⟨t,ht,hm⟩:=wl_ev s hs w (a++[c]) [] (X++[ba p]) (by rw [h];simp) (by simp) (by simp;omega)
   refine ⟨ba p :: t,Ev.step (fun k=>rfl) ?_,by rw [wordsOn,if_pos hc,List.map_cons,hm,ba_data]⟩
   simp only [spec_l3Words.l0]
   rw [hb,hw]
   rw [snoc_len] at ht
   rw [List.append_assoc] at ht
   exact Ev.ifp (by omega) (Ev.ifp (by omega) (Ev.ifp (by rw [hc];rfl) (Ev.ifp (by omega) ht)))
  ·obtain ⟨t,ht,hm⟩:=wl_ev s hs w (a++[c]) (p++[c]) X (by rw [h];simp) (by simp;omega) (by simp;omega)
   refine ⟨t,Ev.step (fun k=>rfl) ?_,by rw [wordsOn,if_neg hc,hm]⟩
   simp only [spec_l3Words.l0]
   rw [hb,hw]
   have hx:s.extract ((a.length:Nat):Int).toNat ((a.length+1:Nat):Int).toNat=ba [c]:=ex_app (d:=[c]) (w:=w) (by rw [h];simp)
   rw [snoc_len] at ht
   have h32:¬ ((c.toNat:Int)=32):=fun e=>hc (UInt8.toNat_inj.1 (by show c.toNat=32;omega))
   refine Ev.ifp (by omega) (Ev.ifp (by omega) (Ev.ifn h32 (Ev.ifp (by omega) (Ev.ifp (by omega) (Ev.ifp ?_ ?_)))))
   ·rw [hx,ba_size,ba_size];simp only [List.length_cons,List.length_nil];omega
   ·rw [hx,ba_app];exact ht
theorem words_ev (s:ByteArray) (hs:s.size≤1099511627):∃ t,Ev (fun k=>spec_l3Words.f k s) t∧t.map (·.data.toList)=words s.data.toList:=by
 obtain ⟨t,ht,hm⟩:=wl_ev s hs s.data.toList [] [] [] rfl (Nat.le_refl _) (Nat.le_refl _)
 exact ⟨t,ht,by rw [hm,wordsOn_nil]⟩
theorem rl_ev:∀ (L D:List ByteArray) (X:List (List Cell)),(∀ x ∈ L,x.size≤1099511627776)→X.length=D.length→D.length+L.length≤1000→
  ∃ r,Ev (fun k=>spec_l3Read.l0 k (D++L) X ((D.length:Nat):Int)) r∧((∀ x ∈ L,(readP x).2=true)∧r=(X++L.map rB,true)∨(¬ ∀ x ∈ L,(readP x).2=true)∧r.2=false)
 | [],D,X,hs,hX,hD=>by
  refine ⟨(X,true),Ev.step (fun k=>rfl) ?_,.inl ⟨by simp,by simp⟩⟩
  simp only [spec_l3Read.l0]
  exact Ev.ifn (by simp) (Ev.now _)
 | x :: L,D,X,hs,hX,hD=>by
  simp only [List.length_cons] at hD
  have hr:rdOf ByteArray.empty (D++x :: L) ((D.length:Nat):Int)=x:=by simp [rdOf]
  have hw:=wnext (i:=D.length) (by omega)
  have hev:=sread_ev x (hs x (by simp))
  by_cases hx:(readP x).2=true
  ·obtain ⟨r,h1,h2⟩:=rl_ev L (D++[x]) (X++[rB x]) (fun y hy=>hs y (by simp [hy])) (by simp [hX]) (by simp;omega)
   refine ⟨r,Ev.step (fun k=>rfl) ?_,?_⟩
   ·simp only [spec_l3Read.l0]
    rw [hr,hw]
    rw [snoc_len,show (D++[x])++L=D++x :: L by simp] at h1
    exact Ev.ifp (by simp;omega) (Ev.ifp (by omega) (Ev.bind hev (Ev.ifp hx (Ev.ifp (by omega) h1))))
   ·rcases h2 with ⟨a,b⟩|⟨a,b⟩
    ·exact .inl ⟨fun y hy=>(List.mem_cons.1 hy).elim (fun e=>e ▸ hx) (a y),by rw [b];simp⟩
    ·exact .inr ⟨fun q=>a (fun y hy=>q y (by simp [hy])),b⟩
  ·refine ⟨(X,false),Ev.step (fun k=>rfl) ?_,.inr ⟨fun q=>hx (q x (by simp)),rfl⟩⟩
   simp only [spec_l3Read.l0]
   rw [hr]
   exact Ev.ifp (by simp;omega) (Ev.ifp (by omega) (Ev.bind hev (Ev.ifn hx (Ev.now _))))
theorem rB_read {w:ByteArray} (h:isTerm (rB w)=true):(readP w).2=true:=by
 rw [rB_R] at h
 have:=(R_text h).2
 rwa [ba_of] at this
def at3 (L:List ByteArray) (i:Nat):List Cell:=(L.map rB).getD i []
theorem at3_len (L:List ByteArray) (i:Nat):(at3 L i).length≤1048576:=by
 unfold at3
 rw [List.getD_eq_getElem?_getD]
 cases h:(L.map rB)[i]? with
 | none=>simp
 | some x=>
  have hm:=List.mem_of_getElem? h
  obtain ⟨y,_,rfl⟩:=List.mem_map.1 hm
  have:=readP_len y
  show (rB y).length≤_
  unfold rB;omega
theorem tail_ev (k:Int) (L:List ByteArray) (hl:L.length≤3) (hs:∀ x ∈ L,x.size≤1099511627776) (hk:goalB k (at3 L 0) (at3 L 1) (at3 L 2)=true→∀ x ∈ L,(readP x).2=true) :
  Ev (fun n=>(spec_l3Read.f n L).bind fun t=>if t.2=true then (if t.1.length=L.length then (spec_GoalOk.f n k (t.1.getD 0 []) (t.1.getD 1 []) (t.1.getD 2 [])).bind fun g=>if g=true then some (k,t.1.getD 0 [],t.1.getD 1 [],t.1.getD 2 [],true) else some (0,[],[],[],false) else none) else some (0,[],[],[],false))
   (if goalB k (at3 L 0) (at3 L 1) (at3 L 2)=true then (k,at3 L 0,at3 L 1,at3 L 2,true) else none5):=by
 obtain ⟨r,hr,h⟩:=rl_ev L [] [] hs rfl (by simp;omega)
 have hr':Ev (fun n=>spec_l3Read.f n L) r:=hr
 refine Ev.bind hr' ?_
 rcases h with ⟨h1,rfl⟩|⟨h1,h2⟩
 ·refine Ev.ifp rfl (Ev.ifp (by simp) ?_)
  simp only [List.nil_append]
  refine Ev.bind (sgoal_ev k (at3 L 0) (at3 L 1) (at3 L 2) (at3_len _ _) (at3_len _ _) (at3_len _ _)) ?_
  by_cases hg:goalB k (at3 L 0) (at3 L 1) (at3 L 2)=true
  ·rw [if_pos hg,if_pos hg];exact Ev.now _
  ·rw [if_neg hg,if_neg hg];exact Ev.now _
 ·rw [if_neg (fun hg=>h1 (hk hg))]
  exact Ev.ifn (by rw [h2];simp) (Ev.now _)
theorem pick_goalW {ws:List ByteArray}:goalW (ws.map (·.data.toList))=(spec_GoalRead.pick ws).map fun q=>(q.1,at3 q.2 0,at3 q.2 1,at3 q.2 2):=by
 unfold spec_GoalRead.pick
 match ws with
 | []=>rfl
 | [a]=>
  rw [if_neg (by simp),if_neg (by simp),if_pos (by simp)]
  simp [goalW,at3,rB_R]
 | [a,b]=>rw [if_neg (by simp),if_neg (by simp),if_neg (by simp)];rfl
 | [a,b,c]=>
  rw [if_pos (show [a,b,c].length=3 from rfl)]
  show (if b.data.toList=[61] then _ else if b.data.toList=[60] then _ else _)=_
  by_cases h1:b.data.toList=[61]
  ·rw [if_pos h1,if_pos (show ([a,b,c].getD 1 ByteArray.empty).data.toList=[61] from h1)]
   simp [at3,rB_R]
  ·rw [if_neg h1,if_neg (show ¬ ([a,b,c].getD 1 ByteArray.empty).data.toList=[61] from h1)]
   by_cases h2:b.data.toList=[60]
   ·rw [if_pos h2,if_pos (show ([a,b,c].getD 1 ByteArray.empty).data.toList=[60] from h2)]
    simp [at3,rB_R]
   ·rw [if_neg h2,if_neg (show ¬ ([a,b,c].getD 1 ByteArray.empty).data.toList=[60] from h2)];rfl
 | [a,b,c,d]=>rw [if_neg (by simp),if_neg (by simp),if_neg (by simp)];rfl
 | [a,b,c,d,e]=>
  rw [if_neg (show ¬ [a,b,c,d,e].length=3 by simp),if_pos (show [a,b,c,d,e].length=5 from rfl)]
  show (if b.data.toList=[43]∧d.data.toList=[61] then _ else _)=_
  by_cases h1:b.data.toList=[43]∧d.data.toList=[61]
  ·rw [if_pos h1,if_pos (show ([a,b,c,d,e].getD 1 ByteArray.empty).data.toList=[43]∧([a,b,c,d,e].getD 3 ByteArray.empty).data.toList=[61] from h1)]
   simp [at3,rB_R]
  ·rw [if_neg h1,if_neg (show ¬ (([a,b,c,d,e].getD 1 ByteArray.empty).data.toList=[43]∧([a,b,c,d,e].getD 3 ByteArray.empty).data.toList=[61]) from h1)];rfl
 | a :: b :: c :: d :: e :: g :: t=>rw [if_neg (by simp),if_neg (by simp),if_neg (by simp)];rfl
theorem pick_good {ws:List ByteArray} {q:Int × List ByteArray} (h:spec_GoalRead.pick ws=some q) (hs:∀ x ∈ ws,x.size≤1099511627776) :
  q.2.length≤3∧(∀ x ∈ q.2,x.size≤1099511627776)∧(goalB q.1 (at3 q.2 0) (at3 q.2 1) (at3 q.2 2)=true→∀ x ∈ q.2,(readP x).2=true):=by
 have hm:∀ i:Nat,(ws.getD i ByteArray.empty).size≤1099511627776:=fun i=>by
  rw [List.getD_eq_getElem?_getD]
  cases hq:ws[i]? with
  | none=>decide
  | some x=>exact hs x (List.mem_of_getElem? hq)
 unfold spec_GoalRead.pick at h
 have two:∀ (k:Int) (x y:ByteArray),(k=2∨k=4)→goalB k (at3 [x,y] 0) (at3 [x,y] 1) (at3 [x,y] 2)=true→∀ z ∈ [x,y],(readP z).2=true:=by
  intro k x y hk hg
  rcases goalB_cases hg with h|h|h|h
  ·omega
  ·omega
  ·intro z hz
   simp only [List.mem_cons,List.not_mem_nil,or_false] at hz
   rcases hz with rfl|rfl
   ·exact rB_read h.2.1
   ·exact rB_read h.2.2.1
  ·omega
 repeat' split at h
 ·obtain rfl:=Option.some.inj h
  exact ⟨by simp,(fun x hx=>by
   simp only [List.mem_cons,List.not_mem_nil,or_false] at hx
   rcases hx with rfl|rfl <;> exact hm _),two 2 _ _ (.inl rfl)⟩
 ·obtain rfl:=Option.some.inj h
  exact ⟨by simp,(fun x hx=>by
   simp only [List.mem_cons,List.not_mem_nil,or_false] at hx
   rcases hx with rfl|rfl <;> exact hm _),two 4 _ _ (.inr rfl)⟩
 ·cases h
 ·obtain rfl:=Option.some.inj h
  refine ⟨by simp,(fun x hx=>by
   simp only [List.mem_cons,List.not_mem_nil,or_false] at hx
   first|(rcases hx with rfl|rfl|rfl <;> exact hm _)|(subst hx;exact hm _)),fun hg=>?_⟩
  rcases goalB_cases hg with h|h|h|h
  ·exact absurd h.1 (by simp)
  ·exact absurd h.1 (by simp)
  ·exact absurd h.1 (by simp)
  ·intro z hz
   simp only [List.mem_cons,List.not_mem_nil,or_false] at hz
   rcases hz with rfl|rfl|rfl
   ·exact rB_read h.2.1
   ·exact rB_read h.2.2.1
   ·exact rB_read h.2.2.2
 ·cases h
 ·obtain rfl:=Option.some.inj h
  refine ⟨by simp,(fun x hx=>by
   simp only [List.mem_cons,List.not_mem_nil,or_false] at hx
   first|(rcases hx with rfl|rfl|rfl <;> exact hm _)|(subst hx;exact hm _)),fun hg=>?_⟩
  rcases goalB_cases hg with h|h|h|h
  ·intro z hz
   simp only [List.mem_cons,List.not_mem_nil,or_false] at hz
   subst hz
   exact rB_read h.2.1
  ·exact absurd h.1 (by simp)
  ·exact absurd h.1 (by simp)
  ·exact absurd h.1 (by simp)
 ·cases h
/-- what the reference reads -/
theorem sgr_ev (s:ByteArray) (hs:s.size≤1099511627):Ev (fun n=>spec_GoalRead.f n s) (flat (goalR s)):=by
 obtain ⟨t,ht,hw⟩:=words_ev s hs
 have hz:∀ x ∈ t,x.size≤1099511627776:=fun x hx=>by have:=word_size hw x hx;omega
 have hn:t≠[]:=by rintro rfl;exact pieces_ne _ _ hw.symm
 unfold spec_GoalRead.f
 refine Ev.bind ht (Ev.ifn hn ?_)
 unfold goalR
 by_cases h33:s.data.toList=[33]
 ·rw [if_pos h33]
  exact Ev.ifp h33 (Ev.now _)
 rw [if_neg h33]
 refine Ev.ifn h33 ?_
 rw [← hw,pick_goalW]
 cases hp:spec_GoalRead.pick t with
 | none=>exact Ev.now _
 | some q=>
  obtain ⟨h1,h2,h3⟩:=pick_good hp hz
  have:=tail_ev q.1 q.2 h1 h2 h3
  simp only [Option.map_some]
  have e:flat (if goalB q.1 (at3 q.2 0) (at3 q.2 1) (at3 q.2 2)=true then ((q.1,at3 q.2 0,at3 q.2 1,at3 q.2 2),true) else ((0,[],[],[]),false))=if goalB q.1 (at3 q.2 0) (at3 q.2 1) (at3 q.2 2)=true then (q.1,at3 q.2 0,at3 q.2 1,at3 q.2 2,true) else none5:=by
   by_cases hg:goalB q.1 (at3 q.2 0) (at3 q.2 1) (at3 q.2 2)=true
   ·rw [if_pos hg,if_pos hg];rfl
   ·rw [if_neg hg,if_neg hg];rfl
  rw [e]
  exact this
end Go.Proofs.YtlhniagacegbeaaGreatDoor.P
