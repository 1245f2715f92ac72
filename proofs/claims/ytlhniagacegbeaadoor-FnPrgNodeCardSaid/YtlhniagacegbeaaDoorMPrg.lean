/- What a program may be, and at which node a term is called: the program's and the reference's answers; copies, sizes, equality of programs. -/
import Derived.Test.YtlhniagacegbeaaDoorMTrm
import Derived.Test.YtlhniagacegbeaaDoorMLaw
import Derived.Test.YtlhniagacegbeaaDoorMInts0
import Derived.Test.YtlhniagacegbeaaDoorMGoal
import Derived.Test.YtlhniagacegbeaaDoorP5
import Derived.Test.YtlhniagacegbeaaDoorP6
import Derived.Test.YtlhniagacegbeaaDoorP2
import Derived.Test.YtlhniagacegbeaaDoorP6
namespace Go.Proofs.YtlhniagacegbeaaDoor.P
set_option linter.unusedVariables false
set_option linter.unusedSimpArgs false
open Go.RowKit Go.Proofs.YtlhniagacegbeaaDoor.Cat Go.Proofs.YtlhniagacegbeaaDoorW.PrintWords Go.Proofs.YtlhniagacegbeaaDoorW.PrintLast
theorem first_gen {α:Type} (rdf:List α→Int→α) (hrd:∀ (a r:List α) (c:α),rdf (a++c :: r) ((a.length:Nat):Int)=c) (l0:Nat→List α→Int→Int→Option Int) (g:Nat→α→Option Bool) (p:α→Bool) (P:α→Prop)
  (hl:∀ k x0 x7 x8,l0 (k+1) x0 x7 x8=if x8<x7 then (if 0≤x8 then (if x8<(x0.length:Int) then ((g k (rdf x0 x8)).bind fun t=>(if t=true then (some x8) else (l0 k x0 x7 (wrap64 (x8+1))))) else none) else none) else some (-1))
  (hg:∀ c,P c→Ev (fun k=>g k c) (p c)) :
  ∀ (r a:List α) (n:Int),n=((a++r).length:Int)→(∀ c ∈ r,P c)→a.length+r.length≤9223372036854775806→∃ q,Ev (fun k=>l0 k (a++r) n ((a.length:Nat):Int)) q∧decide (q≥0)=r.any p
 | [],a,n,hn,hp,hb=>by
  refine ⟨-1,Ev.step (f:=fun _=>some (-1)) (fun k=>?_) (Ev.now _),rfl⟩
  rw [hl,hn,if_neg (not_lt_app a)]
 | c :: r,a,n,hn,hp,hb=>by
  rw [List.length_cons] at hb
  have e:=hg c (hp c (by simp))
  cases hc:p c with
  | true=>
   refine ⟨(a.length:Int),Ev.step (fun k=>hl k _ _ _) (Ev.ifp (by rw [hn];exact lt_app a r c) (Ev.ifp (by omega) (Ev.ifp (lt_app a r c) ?_))),?_⟩
   ·rw [hrd]
    exact Ev.bind e (Ev.ifp hc (Ev.now _))
   ·rw [List.any_cons,hc,decide_eq_true (by omega)];rfl
  | false=>
   obtain ⟨q,e',hq⟩:=first_gen rdf hrd l0 g p P hl hg r (a++[c]) n (by rw [hn];simp) (fun c hc=>hp c (by simp [hc])) (by rw [snoc_len];omega)
   rw [snoc_len,List.append_assoc,List.singleton_append] at e'
   refine ⟨q,Ev.step (fun k=>hl k _ _ _) (Ev.ifp (by rw [hn];exact lt_app a r c) (Ev.ifp (by omega) (Ev.ifp (lt_app a r c) ?_))),by rw [hq,List.any_cons,hc,Bool.false_or]⟩
   rw [hrd]
   refine Ev.bind e (Ev.ifn (by rw [hc];simp) ?_)
   rw [wnext (by omega)]
   exact e'
theorem rdCl (a r:List Clause) (c:Clause):rd_T69 (a++c :: r) ((a.length:Nat):Int)=c:=by simp [rd_T69,List.getD]
theorem rdPl (a r:List Cat.Place) (c:Cat.Place):rd_T47 (a++c :: r) ((a.length:Nat):Int)=c:=by simp [rd_T47,List.getD]
theorem rdGo (a r:List Goal) (c:Goal):rd_T29 (a++c :: r) ((a.length:Nat):Int)=c:=by simp [rd_T29,List.getD]
def mG (g:Goal):Nat:=g.f1.length+g.f2.length+g.f3.length
def mGs (l:List Goal):Nat:=l.length+(l.map mG).sum
def mC (c:Clause):Nat:=c.f0.length+mGs c.f1
def SmG (g:Goal):Prop:=g.f1.length≤1048576∧g.f2.length≤1048576∧g.f3.length≤1048576
def SmC (c:Clause):Prop:=c.f0.length≤1048576∧c.f1.length≤1048576∧∀ g ∈ c.f1,SmG g
def SmP (p:Prog):Prop:=p.f0.length≤1048576∧p.f1.length≤1048576∧∀ c ∈ p.f0,SmC c
noncomputable instance:DecidableEq Goal:=fun _ _=>Classical.propDecidable _
noncomputable instance:DecidableEq Clause:=fun _ _=>Classical.propDecidable _
noncomputable instance:DecidableEq Cat.Place:=fun _ _=>Classical.propDecidable _
theorem goalB_ok (g:Goal):goalB g.f0 g.f1 g.f2 g.f3=goalOk g:=by
 unfold goalB goalOk shapeOk
 simp only [len0]
 by_cases h6:g.f0=6
 ·rw [if_pos h6,if_neg (by omega),if_neg (by omega),if_neg (by omega),if_neg (by omega)]
 ·rw [if_neg h6]
  by_cases h1:g.f0=1
  ·rw [if_pos (.inl h1),if_pos h1]
  ·rw [if_neg (by omega),if_neg h1]
theorem sclause_ev (c:Clause) (h:SmC c):Ev (fun k=>spec_l3Clause.f k c.f0 c.f1) (clauseOk c):=by
 have loop:∀ (r a:List Goal),(∀ g ∈ r,SmG g)→a.length+r.length≤9223372036854775806→Ev (fun k=>spec_l3Clause.l0 k ((a.length:Nat):Int) c.f0 (a++r)) (r.all goalOk):=by
  intro r
  induction r with
  | nil=>
   intro a _ _
   refine Ev.step (f:=fun _=>some true) (fun k=>?_) (Ev.now _)
   simp only [spec_l3Clause.l0]
   rw [if_neg (not_lt_app a)]
  | cons g r ih=>
   intro a hs hb
   rw [List.length_cons] at hb
   have I:=ih (a++[g]) (fun g hg=>hs g (by simp [hg])) (by rw [snoc_len];omega)
   rw [snoc_len,List.append_assoc,List.singleton_append] at I
   have hg:=hs g (by simp)
   refine Ev.step (fun k=>rfl) ?_
   simp only [spec_l3Clause.l0]
   refine Ev.ifp (lt_app a r g) (Ev.ifp (by omega) ?_)
   rw [rdGo]
   refine Ev.bind (sgoal_ev g.f0 g.f1 g.f2 g.f3 hg.1 hg.2.1 hg.2.2) ?_
   rw [goalB_ok,List.all_cons,wnext (by omega)]
   cases hq:goalOk g with
   | true=>exact Ev.ifp rfl I
   | false=>exact Ev.ifn (by simp) (Ev.now _)
 unfold spec_l3Clause.f clauseOk
 refine Ev.bind (l3_ev c.f0) ?_
 unfold mayB called
 have last:∀ b:Bool,Ev (fun k=>spec_l3Clause.j0 k b c.f0 c.f1) (!b && c.f1.all goalOk):=fun b=>by
  refine Ev.step (fun k=>rfl) ?_
  simp only [spec_l3Clause.j0]
  cases b with
  | true=>exact Ev.ifp rfl (Ev.now _)
  | false=>exact Ev.ifn (by simp) (loop c.f1 [] h.2.2 (by have:=h.2.1;simp;omega))
 by_cases ht:(isTerm c.f0 && inCl c.f0)=true
 ·refine Ev.ifp ht (Ev.bindv (l3call c.f0) ?_)
  simp only [Bool.and_eq_true] at ht
  rw [ht.1,ht.2,Bool.true_and,Bool.true_and]
  cases hf:isFun c.f0 with
  | true=>
   refine Ev.ifp rfl ?_
   have e:=last (decide ((c.f1.length:Int) > 4))
   rw [show (!decide ((c.f1.length:Int) > 4))=decide (c.f1.length≤4) by rw [← decide_not];congr 1;rw [eq_iff_iff];omega] at e
   exact e
  | false=>
   refine Ev.ifn (by simp) ?_
   exact last true
 ·refine Ev.ifn ht ?_
  have e:=last true
  have:(isTerm c.f0 && isFun c.f0 && (inCl c.f0 && (decide (c.f1.length≤4) && c.f1.all goalOk)))=false:=by
   cases h2:isTerm c.f0 <;> cases h3:inCl c.f0 <;> simp_all
  rw [this]
  exact e
theorem iclause_ev (c:Clause) (h:c.f1.length≤1048576):Ev (fun k=>impl_clauseOk.f k c.f0 c.f1) (clauseOk c):=by
 unfold impl_clauseOk.f clauseOk
 refine Ev.bindv (called_pure c.f0) ?_
 cases h1:called c.f0 with
 | false=>exact Ev.ifn (by simp) (Ev.now _)
 | true=>
  refine Ev.ifp rfl (Ev.bindv (inClause_pure c.f0) ?_)
  cases h2:inCl c.f0 with
  | false=>exact Ev.ifn (by simp) (Ev.now _)
  | true=>
   refine Ev.ifp rfl ?_
   by_cases h3:(c.f1.length:Int)≤4
   ·rw [decide_eq_true (by omega:c.f1.length≤4)]
    refine Ev.ifp h3 ?_
    obtain ⟨q,e,hq⟩:=first_gen rd_T29 rdGo slices_IndexFunc_PrgGoal.l0 (fun k g=>impl_clauseOk_1.f g.f0 g.f1 g.f2 g.f3) (fun g=>!goalOk g) (fun _=>True) (fun k x0 x7 x8=>rfl)
     (fun g _=>Ev.all (fun _=>by unfold impl_clauseOk_1.f;rw [igoal,goalB_ok];rfl)) c.f1 [] (c.f1.length:Int) rfl (fun _ _=>trivial) (by simp;omega)
    unfold slices_ContainsFunc_PrgGoal.f
    refine Ev.bind (Ev.bind e (Ev.now _)) (Ev.pure ?_)
    rw [hq,List.all_eq_not_any_not]
    rfl
   ·rw [decide_eq_false (by omega:¬ c.f1.length≤4)]
    exact Ev.ifn h3 (Ev.now _)
theorem splace_ev (p:Cat.Place):Ev (fun k=>spec_l3Place.f k p.f0 p.f1 p.f2) (placeOk p):=by
 unfold spec_l3Place.f placeOk
 refine Ev.bind (name_ev p.f0) ?_
 cases h1:nameOk p.f0 with
 | false=>exact Ev.ifn (by simp) (Ev.now _)
 | true=>
  refine Ev.ifp rfl (Ev.bindv (sin_pure _ _ _) ?_)
  by_cases h2:0≤p.f1∧p.f1≤3
  ·rw [decide_eq_true h2]
   exact Ev.ifp rfl (Ev.bindv (sin_pure _ _ _) (Ev.now _))
  ·rw [decide_eq_false h2]
   exact Ev.ifn (by simp) (Ev.now _)
theorem same_iff (p q:Cat.Place):samePlace p q=true↔p.f0.toList=q.f0.toList∧p.f1=q.f1:=by
 unfold samePlace
 rw [Lib.toList_data,Lib.toList_data]
 simp
theorem samePlace_comm (p q:Cat.Place):samePlace p q=samePlace q p:=by
 rw [Bool.eq_iff_iff,same_iff,same_iff]
 exact ⟨fun h=>⟨h.1.symm,h.2.symm⟩,fun h=>⟨h.1.symm,h.2.symm⟩⟩
theorem rdAt (l:List Cat.Place) (i:Nat) (h:i<l.length):rd_T47 l (i:Int)=l[i]:=by simp [rd_T47,List.getD,h]
theorem sinner_ev (cs:List Clause) (ps:List Cat.Place) (i:Nat) (hi:i<ps.length) (hl:ps.length≤1048576) (res:Bool) (H:(∀ j,(h:j<i)→samePlace ps[j] ps[i]=false)→Ev (fun k=>spec_PrgOk.l1 k (wrap64 ((i:Int)+1)) cs ps) res)
  (hno:(∃ j,∃ h:j<i,samePlace ps[j] ps[i]=true)→res=false):∀ (n j:Nat),i - j=n→∀ (hj:j≤i),(∀ t,(h:t<j)→samePlace ps[t] ps[i]=false)→Ev (fun k=>spec_PrgOk.l2 k (i:Int) (j:Int) cs ps) res
 | 0,j,hn,hj,hs=>by
  obtain rfl:j=i:=by omega
  refine Ev.step (fun k=>rfl) ?_
  simp only [spec_PrgOk.l2]
  exact Ev.ifn (by omega) (H hs)
 | n+1,j,hn,hj,hs=>by
  have hji:j<i:=by omega
  refine Ev.step (fun k=>rfl) ?_
  simp only [spec_PrgOk.l2]
  refine Ev.ifp (by omega) (Ev.ifp (by omega) (Ev.ifp (by omega) (Ev.ifp (by omega) (Ev.ifp (by omega) ?_))))
  rw [rdAt ps j (by omega),rdAt ps i hi]
  by_cases hq:samePlace ps[j] ps[i]=true
  ·have:=(same_iff _ _).1 hq
   rw [hno ⟨j,hji,hq⟩]
   exact Ev.ifp this.1 (Ev.ifp this.2 (Ev.now _))
  ·have I:=sinner_ev cs ps i hi hl res H hno n (j+1) (by omega) (by omega) (fun t ht=>by
    rcases Nat.lt_or_ge t j with h|h
    ·exact hs t h
    ·obtain rfl:t=j:=by omega
     simpa using hq)
   have hw:wrap64 ((j:Int)+1)=((j+1:Nat):Int):=wnext (by omega)
   by_cases h0:ps[j].f0.toList=ps[i].f0.toList
   ·refine Ev.ifp h0 (Ev.ifn (fun h1=>hq ((same_iff _ _).2 ⟨h0,h1⟩)) ?_)
    rw [hw];exact I
   ·refine Ev.ifn h0 ?_
    rw [hw];exact I
theorem newPlaces_cons (a r:List Cat.Place) (p:Cat.Place):newPlaces a (p :: r)=(placeOk p && (!(a.any (samePlace p)) && newPlaces (a++[p]) r)):=rfl
theorem any_take {a r:List Cat.Place} {p:Cat.Place}:(∃ j,∃ h:j<a.length,samePlace ((a++p :: r)[j]'(by rw [List.length_append];omega)) p=true)↔a.any (samePlace p)=true:=by
 rw [List.any_eq_true]
 constructor
 ·rintro ⟨j,h,e⟩
  rw [List.getElem_append_left h] at e
  exact ⟨_,List.getElem_mem h,by rw [samePlace_comm];exact e⟩
 ·rintro ⟨x,hx,e⟩
  obtain ⟨j,h,rfl⟩:=List.getElem_of_mem hx
  exact ⟨j,h,by rw [List.getElem_append_left h,samePlace_comm];exact e⟩
theorem mid {a r:List Cat.Place} {p:Cat.Place} (h:a.length<(a++p :: r).length):(a++p :: r)[a.length]=p:=by simp
theorem splaces_ev (cs:List Clause):∀ (r a:List Cat.Place),(a++r).length≤1048576→Ev (fun k=>spec_PrgOk.l1 k ((a.length:Nat):Int) cs (a++r)) (newPlaces a r)
 | [],a,hb=>by
  refine Ev.step (f:=fun _=>some true) (fun k=>?_) (Ev.now _)
  simp only [spec_PrgOk.l1]
  rw [if_neg (not_lt_app a)]
 | p :: r,a,hb=>by
  have I:=splaces_ev cs r (a++[p]) (by simpa using hb)
  rw [snoc_len,List.append_assoc,List.singleton_append] at I
  have hi:a.length<(a++p :: r).length:=by simp
  have hlb:a.length≤1048576:=by omega
  refine Ev.step (fun k=>rfl) ?_
  simp only [spec_PrgOk.l1]
  refine Ev.ifp (lt_app a r p) (Ev.ifp (by omega) ?_)
  rw [rdPl]
  refine Ev.bind (splace_ev p) ?_
  rw [newPlaces_cons]
  cases hp:placeOk p with
  | false=>exact Ev.ifn (by simp) (Ev.now _)
  | true=>
   refine Ev.ifp rfl ?_
   rw [Bool.true_and]
   refine sinner_ev cs (a++p :: r) a.length hi hb _ (fun hs=>?_) (fun hx=>?_) a.length 0 rfl (by omega) (fun t ht=>by omega)
   ·rw [wnext (by omega)]
    have:a.any (samePlace p)=false:=by
     rw [Bool.eq_false_iff]
     intro h
     obtain ⟨j,hj,e⟩:=(any_take (r:=r)).2 h
     have:=hs j hj
     rw [mid hi] at this
     rw [this] at e;cases e
    rw [this]
    simpa using I
   ·obtain ⟨j,hj,e⟩:=hx
    rw [mid hi] at e
    rw [any_take.1 ⟨j,hj,e⟩]
    rfl
theorem sclauses_ev (ps:List Cat.Place) (res:Bool) (H:Ev (fun k=>spec_PrgOk.l1 k 0 [] ps) res) (hH:∀ cs,Ev (fun k=>spec_PrgOk.l1 k 0 cs ps) res):∀ (r a:List Clause),(∀ c ∈ r,SmC c)→(a++r).length≤1048576→Ev (fun k=>spec_PrgOk.l0 k ((a.length:Nat):Int) (a++r) ps) (r.all clauseOk && res)
 | [],a,hs,hb=>by
  refine Ev.step (f:=fun k=>spec_PrgOk.l1 k 0 (a++[]) ps) (fun k=>?_) (hH _)
  simp only [spec_PrgOk.l0]
  rw [if_neg (not_lt_app a)]
 | c :: r,a,hs,hb=>by
  have I:=sclauses_ev ps res H hH r (a++[c]) (fun c hc=>hs c (by simp [hc])) (by simpa using hb)
  rw [snoc_len,List.append_assoc,List.singleton_append] at I
  have hi:a.length<(a++c :: r).length:=by simp
  refine Ev.step (fun k=>rfl) ?_
  simp only [spec_PrgOk.l0]
  refine Ev.ifp (lt_app a r c) (Ev.ifp (by omega) ?_)
  rw [rdCl]
  refine Ev.bind (sclause_ev c (hs c (by simp))) ?_
  rw [List.all_cons,wnext (by omega)]
  cases hc:clauseOk c with
  | false=>exact Ev.ifn (by simp) (Ev.now _)
  | true=>exact Ev.ifp rfl (by simpa using I)
theorem sprog_ev (p:Prog) (h:SmP p):Ev (fun k=>spec_PrgOk.f k p.f0 p.f1) (progOk p):=by
 unfold spec_PrgOk.f progOk
 have last:∀ b:Bool,Ev (fun k=>spec_PrgOk.j0 k b p.f0 p.f1) (!b && (p.f0.all clauseOk && newPlaces [] p.f1)):=fun b=>by
  refine Ev.step (fun k=>rfl) ?_
  simp only [spec_PrgOk.j0]
  cases b with
  | true=>exact Ev.ifp rfl (Ev.now _)
  | false=>
   refine Ev.ifn (by simp) ?_
   exact sclauses_ev p.f1 (newPlaces [] p.f1) (splaces_ev [] p.f1 [] (by simpa using h.2.1)) (fun cs=>splaces_ev cs p.f1 [] (by simpa using h.2.1)) p.f0 [] h.2.2 (by simpa using h.1)
 by_cases h1:(p.f0.length:Int) > 12
 ·rw [decide_eq_false (by omega:¬ p.f0.length≤12),Bool.false_and]
  exact Ev.ifp h1 (last true)
 ·rw [decide_eq_true (by omega:p.f0.length≤12),Bool.true_and]
  refine Ev.ifn h1 ?_
  have e:=last (decide ((p.f1.length:Int) > 6))
  rw [show (!decide ((p.f1.length:Int) > 6))=decide (p.f1.length≤6) by rw [← decide_not];congr 1;rw [eq_iff_iff];omega] at e
  exact e
def restOk (cs:List Clause) (ps:List Cat.Place):Bool:=decide (cs.length≤12) && (decide (ps.length≤6) && cs.all clauseOk)
theorem irest_ev (cs:List Clause) (hs:∀ c ∈ cs,c.f1.length≤1048576) (hl:cs.length≤1048576):Ev (fun k=>slices_ContainsFunc_PrgClause.f k cs) (!(cs.all clauseOk)):=by
 obtain ⟨q,e,hq⟩:=first_gen rd_T69 rdCl slices_IndexFunc_PrgClause.l0 (fun k c=>impl_PrgOk_1.f k c.f0 c.f1) (fun g=>!clauseOk g) (fun c=>c.f1.length≤1048576) (fun k x0 x7 x8=>rfl)
  (fun c hc=>by
   unfold impl_PrgOk_1.f
   exact Ev.bind (iclause_ev c hc) (Ev.now _)) cs [] (cs.length:Int) rfl hs (by simp;omega)
 unfold slices_ContainsFunc_PrgClause.f
 refine Ev.bind e (Ev.pure ?_)
 rw [hq,List.all_eq_not_any_not,Bool.not_not]
theorem iinner_ev (cs:List Clause) (ps x9:List Cat.Place) (x10 x11:Int) (p:Cat.Place) (res:Bool) (H:Ev (fun k=>impl_PrgOk.l0 k x9 x10 (wrap64 (x11+1)) cs ps) res):∀ (r b:List Cat.Place) (n:Int),n=((b++r).length:Int)→b.length+r.length≤9223372036854775806→
  Ev (fun k=>impl_PrgOk.l1 k x9 x10 x11 (b++r) n ((b.length:Nat):Int) cs ps p.f0 p.f1 p.f2) (!(r.any (samePlace p)) && res)
 | [],b,n,hn,hb=>by
  refine Ev.step (f:=fun k=>impl_PrgOk.l0 k x9 x10 (wrap64 (x11+1)) cs ps) (fun k=>?_) (by simpa using H)
  simp only [impl_PrgOk.l1]
  rw [hn,if_neg (not_lt_app b)]
 | y :: r,b,n,hn,hb=>by
  rw [List.length_cons] at hb
  have I:=iinner_ev cs ps x9 x10 x11 p res H r (b++[y]) n (by rw [hn];simp) (by rw [snoc_len];omega)
  rw [snoc_len,List.append_assoc,List.singleton_append] at I
  refine Ev.step (fun k=>rfl) ?_
  simp only [impl_PrgOk.l1]
  refine Ev.ifp (by rw [hn];exact lt_app b r y) (Ev.ifp (by omega) (Ev.ifp (lt_app b r y) ?_))
  rw [rdPl,wnext (by omega),List.any_cons]
  by_cases h0:p.f0.toList=y.f0.toList
  ·refine Ev.ifp h0 ?_
   by_cases h1:p.f1=y.f1
   ·rw [(same_iff p y).2 ⟨h0,h1⟩]
    exact Ev.ifp h1 (Ev.now _)
   ·rw [show samePlace p y=false from Bool.eq_false_iff.2 (fun h=>h1 ((same_iff p y).1 h).2),Bool.false_or]
    exact Ev.ifn h1 I
  ·rw [show samePlace p y=false from Bool.eq_false_iff.2 (fun h=>h0 ((same_iff p y).1 h).1),Bool.false_or]
   exact Ev.ifn h0 I
theorem iplaces_ev (cs:List Clause) (hs:∀ c ∈ cs,c.f1.length≤1048576) (hl:cs.length≤1048576):∀ (r a:List Cat.Place) (n:Int),n=((a++r).length:Int)→(a++r).length≤1048576→
  Ev (fun k=>impl_PrgOk.l0 k (a++r) n ((a.length:Nat):Int) cs (a++r)) (newPlaces a r && restOk cs (a++r))
 | [],a,n,hn,hb=>by
  refine Ev.step (fun k=>rfl) ?_
  simp only [impl_PrgOk.l0]
  refine Ev.ifn (by rw [hn];exact not_lt_app a) ?_
  rw [show newPlaces a []=true from rfl,Bool.true_and]
  unfold restOk
  by_cases h1:(cs.length:Int)≤12
  ·rw [decide_eq_true (by omega:cs.length≤12)]
   refine Ev.ifp h1 ?_
   by_cases h2:((a++[]).length:Int)≤6
   ·have e6:decide ((a++([]:List Cat.Place)).length≤6)=true:=decide_eq_true (by omega)
    rw [e6]
    refine Ev.ifp h2 (Ev.bind (irest_ev cs hs hl) (Ev.pure ?_))
    simp
   ·have e6:decide ((a++([]:List Cat.Place)).length≤6)=false:=decide_eq_false (by omega)
    rw [e6]
    exact Ev.ifn h2 (Ev.now _)
  ·rw [decide_eq_false (by omega:¬ cs.length≤12)]
   exact Ev.ifn h1 (Ev.now _)
 | p :: r,a,n,hn,hb=>by
  have I:=iplaces_ev cs hs hl r (a++[p]) n (by rw [hn];simp) (by simpa using hb)
  rw [snoc_len,List.append_assoc,List.singleton_append] at I
  have hi:a.length<(a++p :: r).length:=by simp
  have last:∀ b:Bool,Ev (fun k=>impl_PrgOk.j1 k (a.length:Int) (a++p :: r) n (a.length:Int) b cs (a++p :: r) p.f0 p.f1 p.f2) (!b && (!(a.any (samePlace p)) && (newPlaces (a++[p]) r && restOk cs (a++p :: r)))):=fun b=>by
   refine Ev.step (fun k=>rfl) ?_
   simp only [impl_PrgOk.j1]
   cases b with
   | true=>exact Ev.ifp rfl (Ev.now _)
   | false=>
    refine Ev.ifn (by simp) (Ev.ifp (by omega) (Ev.ifp (by omega) (Ev.bindv rfl ?_)))
    have et:(a++p :: r).take ((a.length:Int)).toNat=a:=by simp
    rw [et]
    have J:=iinner_ev cs (a++p :: r) (a++p :: r) n (a.length:Int) p (newPlaces (a++[p]) r && restOk cs (a++p :: r)) (by rw [wnext (by omega)];exact I) a [] (a.length:Int) rfl (by simp;omega)
    exact J
  refine Ev.step (fun k=>rfl) ?_
  simp only [impl_PrgOk.l0]
  refine Ev.ifp (by rw [hn];exact lt_app a r p) (Ev.ifp (by omega) (Ev.ifp (lt_app a r p) ?_))
  rw [rdPl,newPlaces_cons]
  unfold placeOk
  refine Ev.bindv (nameOk_pure p.f0) ?_
  cases h1:nameOk p.f0 with
  | false=>exact Ev.ifn (by simp) (last true)
  | true=>
   refine Ev.ifp rfl (Ev.bindv (in_pure _ _ _) ?_)
   by_cases h2:0≤p.f1∧p.f1≤3
   ·rw [decide_eq_true h2]
    refine Ev.ifp rfl (Ev.bindv (in_pure _ _ _) ?_)
    by_cases h3:1≤p.f2∧p.f2≤2
    ·rw [decide_eq_true h3]
     have e:=last false
     simpa [Bool.and_assoc] using e
    ·rw [decide_eq_false h3]
     exact last true
   ·rw [decide_eq_false h2]
    exact Ev.ifn (by simp) (last true)
theorem iprog_ev (p:Prog) (h:SmP p):Ev (fun k=>impl_PrgOk.f k p.f0 p.f1) (progOk p):=by
 unfold impl_PrgOk.f
 have e:=iplaces_ev p.f0 (fun c hc=>(h.2.2 c hc).2.1) h.1 p.f1 [] (p.f1.length:Int) rfl (by simpa using h.2.1)
 have:progOk p=(newPlaces [] p.f1 && restOk p.f0 ([]++p.f1)):=by
  unfold progOk restOk
  rw [List.nil_append]
  cases decide (p.f0.length≤12) <;> cases decide (p.f1.length≤6) <;> cases p.f0.all clauseOk <;> cases newPlaces [] p.f1 <;> rfl
 rw [this]
 exact e
def nodeOf (c:Cell):List Cat.Place→Int
 | []=>0
 | p :: r=>if p.f0.toList=c.f2.toList∧p.f1=c.f1 then p.f2 else nodeOf c r
def progNode (p:Prog) (t:List Cell):Int:=if progOk p=true∧called t=true then nodeOf (t.headD ⟨0,0,⟨#[]⟩⟩) p.f1 else -1
theorem snode_loop (cs:List Clause) (c:Cell) (l:List Cell):∀ (r a:List Cat.Place),a.length+r.length≤9223372036854775806→Ev (fun k=>spec_l3Node.l0 k (c :: l) ((a.length:Nat):Int) cs (a++r)) (nodeOf c r)
 | [],a,hb=>by
  refine Ev.step (f:=fun _=>some 0) (fun k=>?_) (Ev.now _)
  simp only [spec_l3Node.l0]
  rw [if_neg (not_lt_app a)]
 | p :: r,a,hb=>by
  rw [List.length_cons] at hb
  have I:=snode_loop cs c l r (a++[p]) (by rw [snoc_len];omega)
  rw [snoc_len,List.append_assoc,List.singleton_append] at I
  refine Ev.step (fun k=>rfl) ?_
  simp only [spec_l3Node.l0]
  refine Ev.ifp (lt_app a r p) (Ev.ifp (by omega) (Ev.ifp (by rw [List.length_cons];omega) ?_))
  rw [rdPl,wnext (by omega),nodeOf,show rd_T44 (c :: l) 0=c from rfl]
  by_cases h0:p.f0.toList=c.f2.toList
  ·refine Ev.ifp h0 ?_
   by_cases h1:p.f1=c.f1
   ·rw [if_pos ⟨h0,h1⟩];exact Ev.ifp h1 (Ev.now _)
   ·rw [if_neg (fun h=>h1 h.2)];exact Ev.ifn h1 I
  ·rw [if_neg (fun h=>h0 h.1)];exact Ev.ifn h0 I
theorem inode_loop (c:Cell) (l:List Cell):∀ (r a:List Cat.Place) (n:Int),n=((a++r).length:Int)→a.length+r.length≤9223372036854775806→Ev (fun k=>impl_PrgProg_node.l0 k (c :: l) (a++r) n ((a.length:Nat):Int)) (nodeOf c r)
 | [],a,n,hn,hb=>by
  refine Ev.step (f:=fun _=>some 0) (fun k=>?_) (Ev.now _)
  simp only [impl_PrgProg_node.l0]
  rw [hn,if_neg (not_lt_app a)]
 | p :: r,a,n,hn,hb=>by
  rw [List.length_cons] at hb
  have I:=inode_loop c l r (a++[p]) n (by rw [hn];simp) (by rw [snoc_len];omega)
  rw [snoc_len,List.append_assoc,List.singleton_append] at I
  refine Ev.step (fun k=>rfl) ?_
  simp only [impl_PrgProg_node.l0]
  refine Ev.ifp (by rw [hn];exact lt_app a r p) (Ev.ifp (by omega) (Ev.ifp (lt_app a r p) (Ev.ifp (by rw [List.length_cons];omega) ?_)))
  rw [rdPl,wnext (by omega),nodeOf,show rd_T44 (c :: l) 0=c from rfl]
  by_cases h0:p.f0.toList=c.f2.toList
  ·refine Ev.ifp h0 ?_
   by_cases h1:p.f1=c.f1
   ·rw [if_pos ⟨h0,h1⟩];exact Ev.ifp h1 (Ev.now _)
   ·rw [if_neg (fun h=>h1 h.2)];exact Ev.ifn h1 I
  ·rw [if_neg (fun h=>h0 h.1)];exact Ev.ifn h0 I
theorem snode_ev (p:Prog) (h:SmP p) (t:List Cell):Ev (fun k=>spec_PrgNode.f k p.f0 p.f1 t) (progNode p t):=by
 unfold spec_PrgNode.f progNode
 have no:Ev (fun k=>spec_PrgNode.j0 k t true p.f0 p.f1) (-1):=by
  refine Ev.step (fun k=>rfl) ?_
  simp only [spec_PrgNode.j0]
  exact Ev.ifp trivial (Ev.now _)
 refine Ev.bind (sprog_ev p h) ?_
 by_cases hp:progOk p=true
 ·refine Ev.ifp hp (Ev.bind (sok_ev t) ?_)
  unfold called
  by_cases ht:isTerm t=true
  ·refine Ev.ifp ht (Ev.bindv (l3call t) ?_)
   by_cases hf:isFun t=true
   ·rw [if_pos ⟨hp,by rw [ht,hf];rfl⟩,hf]
    cases t with
    | nil=>cases ht
    | cons c l=>
     refine Ev.step (fun k=>rfl) ?_
     simp only [spec_PrgNode.j0]
     refine Ev.ifn (by simp) (Ev.bind ?_ (Ev.now _))
     unfold spec_l3Node.f
     exact snode_loop p.f0 c l p.f1 [] (by have:=h.2.1;simp;omega)
   ·rw [if_neg (by rw [Bool.eq_false_iff.2 hf];simp),Bool.eq_false_iff.2 hf]
    exact no
  ·rw [if_neg (by rw [Bool.eq_false_iff.2 ht];simp)]
   exact Ev.ifn ht no
 ·rw [if_neg (fun q=>hp q.1)]
  exact Ev.ifn hp no
theorem inode_ev (p:Prog) (h:SmP p) (t:List Cell):Ev (fun k=>impl_PrgNode.f k p.f0 p.f1 t) (progNode p t):=by
 unfold impl_PrgNode.f progNode
 refine Ev.bind (iprog_ev p h) ?_
 by_cases hp:progOk p=true
 ·refine Ev.ifp hp (Ev.bindv (called_pure t) ?_)
  by_cases ht:called t=true
  ·rw [if_pos ⟨hp,ht⟩]
   refine Ev.ifp ht ?_
   cases t with
   | nil=>cases ht
   | cons c l=>
    refine Ev.bind ?_ (Ev.now _)
    unfold impl_PrgProg_node.f
    exact inode_loop c l p.f1 [] (p.f1.length:Int) rfl (by have:=h.2.1;simp;omega)
  ·rw [if_neg (fun q=>ht q.2)]
   exact Ev.ifn ht (Ev.now _)
 ·rw [if_neg (fun q=>hp q.1)]
  exact Ev.ifn hp (Ev.now _)
end Go.Proofs.YtlhniagacegbeaaDoor.P
