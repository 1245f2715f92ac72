/- The reference's readers of goals and clauses end, whatever the text; what they read is small. -/
import Derived.Test.YtlhniagacegbeaaDoorMRdS
import Derived.Test.YtlhniagacegbeaaDoorMPrg
import Derived.Test.YtlhniagacegbeaaDoorP2
import Derived.Test.YtlhniagacegbeaaDoorP3
import Derived.Test.YtlhniagacegbeaaDoorP3
import Derived.Test.YtlhniagacegbeaaDoorP4
import Derived.Test.YtlhniagacegbeaaDoorP4
namespace Go.Proofs.YtlhniagacegbeaaDoor.P
set_option linter.unusedVariables false
set_option linter.unusedSimpArgs false
open Go.RowKit Go.Proofs.YtlhniagacegbeaaDoor.Cat Go.Proofs.YtlhniagacegbeaaDoorW.PrintWords Go.Proofs.YtlhniagacegbeaaDoorW.PrintLast
theorem readR_len {s:ByteArray} {r:List Cell × Bool} (h:ReadR s r):r.1.length≤40:=by
 rcases h with rfl|⟨_,h1,h2⟩
 ·simp
 ·by_cases ht:isTerm r.1=true
  ·exact (isTerm_iff.1 ht).2.1
  ·unfold textB at h1
   rw [if_neg ht] at h1
   exact absurd h1.symm h2
theorem wl_any (s:ByteArray) (hs:s.size≤1099511627):∀ (d i:Nat) (p:ByteArray) (X:List ByteArray),i+d=s.size→p.size≤i→X.length≤i→(∀ x ∈ X,x.size≤s.size)→∃ t,Ev (fun k=>spec_l3Words.l0 k s X p (i:Int)) t∧t≠[]∧∀ x ∈ t,x.size≤s.size
 | 0,i,p,X,hi,hp,hX,hb=>by
  refine ⟨X++[p],Ev.step (fun k=>rfl) ?_,by simp,fun x hx=>?_⟩
  ·simp only [spec_l3Words.l0]
   exact Ev.ifn (by omega) (Ev.ifp (by omega) (Ev.now _))
  ·rcases List.mem_append.1 hx with hx|hx
   ·exact hb x hx
   ·rw [List.mem_singleton.1 hx];omega
 | d+1,i,p,X,hi,hp,hX,hb=>by
  have hw:wrap64 ((i:Int)+1)=((i+1:Nat):Int):=wnext (by omega)
  by_cases hc:bt s (i:Int)=32
  ·obtain ⟨t,ht,hh⟩:=wl_any s hs d (i+1) (⟨#[]⟩:ByteArray) (X++[p]) (by omega) (by show 0≤_;omega) (by simp;omega) (fun x hx=>by
    rcases List.mem_append.1 hx with hx|hx
    ·exact hb x hx
    ·rw [List.mem_singleton.1 hx];omega)
   refine ⟨t,Ev.step (fun k=>rfl) ?_,hh⟩
   simp only [spec_l3Words.l0]
   rw [hw]
   exact Ev.ifp (by omega) (Ev.ifp (by omega) (Ev.ifp hc (Ev.ifp (by omega) ht)))
  ·have hx:(s.extract ((i:Nat):Int).toNat (((i+1:Nat)):Int).toNat).size=1:=by rw [ByteArray.size_extract,Int.toNat_natCast,Int.toNat_natCast];omega
   obtain ⟨t,ht,hh⟩:=wl_any s hs d (i+1) (p++s.extract ((i:Nat):Int).toNat (((i+1:Nat)):Int).toNat) X (by omega) (by rw [ByteArray.size_append,hx];omega) (by omega) hb
   refine ⟨t,Ev.step (fun k=>rfl) ?_,hh⟩
   simp only [spec_l3Words.l0]
   rw [hw]
   exact Ev.ifp (by omega) (Ev.ifp (by omega) (Ev.ifn hc (Ev.ifp (by omega) (Ev.ifp (by omega) (Ev.ifp (by rw [hx];omega) ht)))))
theorem words_any (s:ByteArray) (hs:s.size≤1099511627):∃ t,Ev (fun k=>spec_l3Words.f k s) t∧t≠[]∧∀ x ∈ t,x.size≤s.size:=wl_any s hs s.size 0 (⟨#[]⟩:ByteArray) [] (by omega) (Nat.le_refl _) (Nat.le_refl _) (fun _ h=>by cases h)
theorem rl_any:∀ (L D:List ByteArray) (X:List (List Cell)),(∀ x ∈ L,x.size≤1099511627776)→X.length=D.length→D.length+L.length≤1000→(∀ x ∈ X,x.length≤40)→
  ∃ r,Ev (fun k=>spec_l3Read.l0 k (D++L) X ((D.length:Nat):Int)) r∧(∀ x ∈ r.1,x.length≤40)∧(r.2=true→r.1.length=D.length+L.length)
 | [],D,X,hs,hX,hD,hl=>by
  refine ⟨(X,true),Ev.step (fun k=>rfl) ?_,hl,fun _=>by simpa using hX⟩
  simp only [spec_l3Read.l0]
  exact Ev.ifn (by simp) (Ev.now _)
 | x :: L,D,X,hs,hX,hD,hl=>by
  simp only [List.length_cons] at hD
  have hr:rdOf ByteArray.empty (D++x :: L) ((D.length:Nat):Int)=x:=by simp [rdOf]
  have hw:=wnext (i:=D.length) (by omega)
  obtain ⟨⟨u,ok⟩,hev,hu⟩:=sread_any x (hs x (by simp))
  have hul:u.length≤40:=readR_len hu
  cases ok with
  | true=>
   obtain ⟨r,h1,h2,h3⟩:=rl_any L (D++[x]) (X++[u]) (fun y hy=>hs y (by simp [hy])) (by simp [hX]) (by simp;omega) (fun y hy=>by
    rcases List.mem_append.1 hy with hy|hy
    ·exact hl y hy
    ·rw [List.mem_singleton.1 hy];exact hul)
   refine ⟨r,Ev.step (fun k=>rfl) ?_,h2,fun h=>by rw [h3 h,snoc_len,List.length_cons];omega⟩
   simp only [spec_l3Read.l0]
   rw [hr,hw]
   rw [snoc_len,show (D++[x])++L=D++x :: L by simp] at h1
   exact Ev.ifp (by simp;omega) (Ev.ifp (by omega) (Ev.bind hev (Ev.ifp rfl (Ev.ifp (by omega) h1))))
  | false=>
   refine ⟨(X,false),Ev.step (fun k=>rfl) ?_,hl,fun h=>by cases h⟩
   simp only [spec_l3Read.l0]
   rw [hr]
   exact Ev.ifp (by simp;omega) (Ev.ifp (by omega) (Ev.bind hev (Ev.ifn (by simp) (Ev.now _))))
theorem getD_sz {B:Nat} {ws:List ByteArray} (h:∀ x ∈ ws,x.size≤B) (i:Nat):(ws.getD i ByteArray.empty).size≤B:=by
 rw [List.getD_eq_getElem?_getD]
 cases hq:ws[i]? with
 | none=>exact Nat.zero_le _
 | some x=>exact h x (List.mem_of_getElem? hq)
theorem pick_sz {B:Nat} {ws:List ByteArray} (h:∀ x ∈ ws,x.size≤B) {q:Int × List ByteArray} (hq:spec_GoalRead.pick ws=some q):q.2.length≤3∧∀ x ∈ q.2,x.size≤B:=by
 have g:=getD_sz h
 unfold spec_GoalRead.pick at hq
 have two:∀ a b:ByteArray,a.size≤B→b.size≤B→∀ x ∈ [a,b],x.size≤B:=fun a b ha hb x hx=>by
  simp only [List.mem_cons,List.not_mem_nil,or_false] at hx
  rcases hx with rfl|rfl <;> assumption
 repeat' split at hq
 all_goals first|cases hq;done|(obtain rfl:=Option.some.inj hq;refine ⟨by simp,?_⟩)
 ·exact two _ _ (g 0) (g 2)
 ·exact two _ _ (g 0) (g 2)
 ·intro x hx
  simp only [List.mem_cons,List.not_mem_nil,or_false] at hx
  rcases hx with rfl|rfl|rfl
  ·exact g 0
  ·exact g 2
  ·exact g 4
 ·intro x hx
  rw [List.mem_singleton.1 hx];exact g 0
theorem getC_len {X:List (List Cell)} (h:∀ x ∈ X,x.length≤40) (i:Nat):(X.getD i []).length≤40:=by
 rw [List.getD_eq_getElem?_getD]
 cases hq:X[i]? with
 | none=>simp
 | some x=>exact h x (List.mem_of_getElem? hq)
theorem gr_any (s:ByteArray) (hs:s.size≤1099511627):∃ v,Ev (fun k=>spec_GoalRead.f k s) v∧v.2.1.length≤40∧v.2.2.1.length≤40∧v.2.2.2.1.length≤40:=by
 obtain ⟨t,ht,hne,hts⟩:=words_any s hs
 by_cases hb:s.data.toList=[33]
 ·exact ⟨(3,[],[],[],true),by unfold spec_GoalRead.f;exact Ev.bind ht (Ev.ifn hne (Ev.ifp hb (Ev.now _))),by simp,by simp,by simp⟩
 cases hp:spec_GoalRead.pick t with
 | none=>
  refine ⟨(0,[],[],[],false),?_,by simp,by simp,by simp⟩
  unfold spec_GoalRead.f
  refine Ev.bind ht (Ev.ifn hne (Ev.ifn hb ?_))
  rw [hp]
  exact Ev.now _
 | some q=>
  obtain ⟨hl,hq⟩:=pick_sz hts hp
  obtain ⟨r,hr,h40,hlen⟩:=rl_any q.2 [] [] (fun x hx=>by have:=hq x hx;omega) rfl (by simp;omega) (fun _ h=>by cases h)
  have hr':Ev (fun n=>spec_l3Read.f n q.2) r:=hr
  have g:=getC_len h40
  by_cases hok:r.2=true
  ·have hg:=sgoal_ev q.1 (r.1.getD 0 []) (r.1.getD 1 []) (r.1.getD 2 []) (by have:=g 0;omega) (by have:=g 1;omega) (by have:=g 2;omega)
   have hll:r.1.length=q.2.length:=by simpa using hlen hok
   by_cases hgb:goalB q.1 (r.1.getD 0 []) (r.1.getD 1 []) (r.1.getD 2 [])=true
   ·refine ⟨(q.1,r.1.getD 0 [],r.1.getD 1 [],r.1.getD 2 [],true),?_,g 0,g 1,g 2⟩
    unfold spec_GoalRead.f
    refine Ev.bind ht (Ev.ifn hne (Ev.ifn hb ?_))
    rw [hp]
    exact Ev.bind hr' (Ev.ifp hok (Ev.ifp hll (Ev.bind hg (Ev.ifp hgb (Ev.now _)))))
   ·refine ⟨(0,[],[],[],false),?_,by simp,by simp,by simp⟩
    unfold spec_GoalRead.f
    refine Ev.bind ht (Ev.ifn hne (Ev.ifn hb ?_))
    rw [hp]
    exact Ev.bind hr' (Ev.ifp hok (Ev.ifp hll (Ev.bind hg (Ev.ifn hgb (Ev.now _)))))
  ·refine ⟨(0,[],[],[],false),?_,by simp,by simp,by simp⟩
   unfold spec_GoalRead.f
   refine Ev.bind ht (Ev.ifn hne (Ev.ifn hb ?_))
   rw [hp]
   exact Ev.bind hr' (Ev.ifn hok (Ev.now _))
theorem cut_loop_any (s t:ByteArray) (hs:s.size≤1099511627) (ht:t.size≤100):∀ (d i:Nat),i+d=s.size+1→∃ v,Ev (fun k=>spec_l3Cut.l0 k s t (i:Int)) v∧v.1.size≤s.size∧v.2.1.size≤s.size:=by
 intro d
 induction d with
 | zero=>
  intro i hi
  refine ⟨(s,(⟨#[]⟩:ByteArray),false),Ev.step (fun k=>rfl) ?_,Nat.le_refl _,Nat.zero_le _⟩
  simp only [spec_l3Cut.l0]
  rw [w64 (x:=(i:Int)+(t.size:Int)) (by omega) (by omega)]
  exact Ev.ifn (by omega) (Ev.now _)
 | succ d ih=>
  intro i hi
  have hw:=w64 (x:=(i:Int)+(t.size:Int)) (by omega) (by omega)
  by_cases hc:(i:Int)+(t.size:Int)≤(s.size:Int)
  ·by_cases he:(s.extract (i:Int).toNat ((i:Int)+(t.size:Int)).toNat).toList=t.toList
   ·refine ⟨(s.extract 0 (i:Int).toNat,s.extract ((i:Int)+(t.size:Int)).toNat s.size,true),Ev.step (fun k=>rfl) ?_,by show (s.extract 0 _).size≤_;rw [ByteArray.size_extract];omega,by show (s.extract _ _).size≤_;rw [ByteArray.size_extract];omega⟩
    simp only [spec_l3Cut.l0]
    rw [hw]
    exact Ev.ifp hc (Ev.ifp (by omega) (Ev.ifp (by omega) (Ev.ifp he (Ev.ifp (by omega) (Ev.ifp (by omega) (Ev.now _))))))
   ·obtain ⟨v,hv,hh⟩:=ih (i+1) (by omega)
    refine ⟨v,Ev.step (fun k=>rfl) ?_,hh⟩
    simp only [spec_l3Cut.l0]
    rw [hw,wnext (by omega)]
    exact Ev.ifp hc (Ev.ifp (by omega) (Ev.ifp (by omega) (Ev.ifn he hv)))
  ·refine ⟨(s,(⟨#[]⟩:ByteArray),false),Ev.step (fun k=>rfl) ?_,Nat.le_refl _,Nat.zero_le _⟩
   simp only [spec_l3Cut.l0]
   rw [hw]
   exact Ev.ifn hc (Ev.now _)
theorem szOne (x:UInt8):(⟨#[x]⟩:ByteArray).size=1:=rfl
theorem cut_any (s w:ByteArray) (hs:s.size≤1099511627) (hw:w.size≤90):∃ v,Ev (fun k=>spec_l3Cut.f k s w) v∧v.1.size≤s.size∧v.2.1.size≤s.size:=by
 obtain ⟨v,hv,hh⟩:=cut_loop_any s (((⟨#[32]⟩:ByteArray)++w)++(⟨#[32]⟩:ByteArray)) hs (by rw [ByteArray.size_append,ByteArray.size_append,szOne];omega) (s.size+1) 0 (by omega)
 exact ⟨v,by unfold spec_l3Cut.f;exact Ev.ifp (by omega) (Ev.ifp (by rw [ByteArray.size_append,szOne];omega) hv),hh⟩
def Sm40' (b:List Goal):Prop:=∀ g ∈ b,g.f1.length≤40∧g.f2.length≤40∧g.f3.length≤40
def SmV (v:List Cell × List Goal × Bool):Prop:=v.1.length≤40∧v.2.1.length≤6∧Sm40' v.2.1
theorem smV_none:SmV ([],[],false):=⟨by simp,by simp,fun _ h=>by cases h⟩
theorem body_any (h:List Cell) (hh:h.length≤40):∀ (n:Nat) (x:ByteArray) (b:List Goal) (more:Bool),b.length+n=6→x.size≤1048576→Sm40' b→∃ v,Ev (fun k=>spec_PrgRead.l0 k x more h b) v∧SmV v:=by
 intro n
 induction n with
 | zero=>
  intro x b more hb hx hs
  have e:=sclause_ev ⟨h,b⟩ ⟨by show h.length≤_;omega,by show b.length≤_;omega,fun g hg=>by obtain ⟨a,c,d⟩:=hs g hg;exact ⟨by omega,by omega,by omega⟩⟩
  have fin_:∃ v,Ev (fun k=>spec_PrgRead.j1 k x false h b) v∧SmV v:=by
   by_cases hc:clauseOk ⟨h,b⟩=true
   ·refine ⟨(h,b,true),Ev.step (fun k=>rfl) ?_,hh,by show b.length≤6;omega,hs⟩
    simp only [spec_PrgRead.j1]
    exact Ev.ifn (by simp) (Ev.bind e (Ev.ifp hc (Ev.now _)))
   ·refine ⟨([],[],false),Ev.step (fun k=>rfl) ?_,smV_none⟩
    simp only [spec_PrgRead.j1]
    exact Ev.ifn (by simp) (Ev.bind e (Ev.ifn hc (Ev.now _)))
  obtain ⟨v,hv,sv⟩:=fin_
  refine ⟨v,Ev.step (fun k=>rfl) ?_,sv⟩
  simp only [spec_PrgRead.l0]
  cases more with
  | true=>
   refine Ev.ifp (by simp) ?_
   rw [decide_eq_false (by omega:¬ (b.length:Int)≤4)]
   exact hv
  | false=>exact Ev.ifn (by simp) hv
 | succ n ih=>
  intro x b more hb hx hs
  have e:=sclause_ev ⟨h,b⟩ ⟨by show h.length≤_;omega,by show b.length≤_;omega,fun g hg=>by obtain ⟨a,c,d⟩:=hs g hg;exact ⟨by omega,by omega,by omega⟩⟩
  have fin_:∃ v,Ev (fun k=>spec_PrgRead.j1 k x false h b) v∧SmV v:=by
   by_cases hc:clauseOk ⟨h,b⟩=true
   ·refine ⟨(h,b,true),Ev.step (fun k=>rfl) ?_,hh,by show b.length≤6;omega,hs⟩
    simp only [spec_PrgRead.j1]
    exact Ev.ifn (by simp) (Ev.bind e (Ev.ifp hc (Ev.now _)))
   ·refine ⟨([],[],false),Ev.step (fun k=>rfl) ?_,smV_none⟩
    simp only [spec_PrgRead.j1]
    exact Ev.ifn (by simp) (Ev.bind e (Ev.ifn hc (Ev.now _)))
  have on_:∃ v,Ev (fun k=>spec_PrgRead.j1 k x true h b) v∧SmV v:=by
   obtain ⟨⟨c1,c2,c3⟩,hc,z1,z2⟩:=cut_any x (⟨#[97,110,100]⟩:ByteArray) (by omega) (by decide)
   replace z1:c1.size≤x.size:=z1
   replace z2:c2.size≤x.size:=z2
   obtain ⟨⟨g0,g1,g2,g3,ok⟩,hg,l1,l2,l3⟩:=gr_any c1 (by omega)
   cases ok with
   | true=>
    obtain ⟨v,hv,sv⟩:=ih c2 (b++[⟨g0,g1,g2,g3⟩]) c3 (by rw [snoc_len];omega) (by omega) (fun g hg'=>by
     rcases List.mem_append.1 hg' with hg'|hg'
     ·exact hs g hg'
     ·rw [List.mem_singleton.1 hg'];exact ⟨l1,l2,l3⟩)
    refine ⟨v,Ev.step (fun k=>rfl) ?_,sv⟩
    simp only [spec_PrgRead.j1]
    exact Ev.ifp (by simp) (Ev.bind hc (Ev.bind hg (Ev.ifp rfl (Ev.ifp (by omega) hv))))
   | false=>
    refine ⟨([],[],false),Ev.step (fun k=>rfl) ?_,smV_none⟩
    simp only [spec_PrgRead.j1]
    exact Ev.ifp (by simp) (Ev.bind hc (Ev.bind hg (Ev.ifn (by simp) (Ev.now _))))
  cases more with
  | true=>
   by_cases h4:(b.length:Int)≤4
   ·obtain ⟨v,hv,sv⟩:=on_
    refine ⟨v,Ev.step (fun k=>rfl) ?_,sv⟩
    simp only [spec_PrgRead.l0]
    refine Ev.ifp (by simp) ?_
    rw [decide_eq_true h4]
    exact hv
   ·obtain ⟨v,hv,sv⟩:=fin_
    refine ⟨v,Ev.step (fun k=>rfl) ?_,sv⟩
    simp only [spec_PrgRead.l0]
    refine Ev.ifp (by simp) ?_
    rw [decide_eq_false h4]
    exact hv
  | false=>
   obtain ⟨v,hv,sv⟩:=fin_
   refine ⟨v,Ev.step (fun k=>rfl) ?_,sv⟩
   simp only [spec_PrgRead.l0]
   exact Ev.ifn (by simp) hv
theorem pr_any (s:ByteArray) (hs:s.size≤1048576):∃ v,Ev (fun k=>spec_PrgRead.f k s) v∧SmV v:=by
 obtain ⟨⟨c1,c2,c3⟩,hc,z1,z2⟩:=cut_any s (⟨#[105,102]⟩:ByteArray) (by omega) (by decide)
 replace z1:c1.size≤s.size:=z1
 replace z2:c2.size≤s.size:=z2
 obtain ⟨⟨u,ok⟩,hr,hu⟩:=sread_any c1 (by omega)
 cases ok with
 | true=>
  obtain ⟨v,hv,sv⟩:=body_any u (readR_len hu) 6 c2 [] c3 rfl (by omega) (fun _ h=>by cases h)
  exact ⟨v,by unfold spec_PrgRead.f;exact Ev.bind hc (Ev.bind hr (Ev.ifp rfl hv)),sv⟩
 | false=>exact ⟨([],[],false),by unfold spec_PrgRead.f;exact Ev.bind hc (Ev.bind hr (Ev.ifn (by simp) (Ev.now _))),smV_none⟩
end Go.Proofs.YtlhniagacegbeaaDoor.P
