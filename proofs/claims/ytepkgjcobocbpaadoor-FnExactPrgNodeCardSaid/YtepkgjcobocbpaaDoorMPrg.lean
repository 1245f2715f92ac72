/- What a program may be, and at which node a term is called: the program's and the reference's answers; copies, sizes, equality of programs. -/
import Derived.Test.YtepkgjcobocbpaaDoorMTrm
import Derived.Test.YtepkgjcobocbpaaDoorMLaw
import Derived.Test.YtepkgjcobocbpaaDoorMInts0
import Derived.Test.YtepkgjcobocbpaaDoorMGoal
import Derived.Test.YtepkgjcobocbpaaDoorP10
import Derived.Test.YtepkgjcobocbpaaDoorP11
import Derived.Test.YtepkgjcobocbpaaDoorP5
import Derived.Test.YtepkgjcobocbpaaDoorP6
import Derived.Test.YtepkgjcobocbpaaDoorP17
import Derived.Test.YtepkgjcobocbpaaDoorP13
import Derived.Test.YtepkgjcobocbpaaDoorP14
namespace Go.Proofs.YtepkgjcobocbpaaDoor.P
set_option linter.unusedVariables false
set_option linter.unusedSimpArgs false
open Go.RowKit Go.Proofs.YtepkgjcobocbpaaDoor.Cat Go.Proofs.YtepkgjcobocbpaaDoorW.PrintWords Go.Proofs.YtepkgjcobocbpaaDoorW.PrintLast

/-! ### rounds over a list, told once -/
theorem sz_gen {α:Type} (rdf:List α→Int→α) (hrd:∀ (a r:List α) (c:α),rdf (a++c :: r) ((a.length:Nat):Int)=c) (l0:Nat→List α→Int→Int→Option Int) (g:Nat→α→Int→Option Int) (m:α→Nat) (P:α→Prop)
  (hl:∀ k x0 x1 x5,l0 (k+1) x0 x1 x5=if x5<(x0.length:Int) then (if 0≤x5 then ((g k (rdf x0 x5) x1).bind fun t=>(if t<0 then (some (-1)) else (l0 k x0 t (wrap64 (x5+1))))) else none) else some x1)
  (hg:∀ c,P c→∀ left:Int,0≤left→left≤1048576→∃ q,Ev (fun k=>g k c left) q∧q≤left∧(0≤q→q+(m c:Int)≤left)) :
  ∀ (r a:List α) (left:Int),0≤left→left≤1048576→(∀ c ∈ r,P c)→a.length+r.length≤9223372036854775806→∃ q,Ev (fun k=>l0 k (a++r) left ((a.length:Nat):Int)) q∧q≤left∧(0≤q→q+(((r.map m).sum:Nat):Int)≤left)
 | [],a,left,h0,h1,hp,hb=>by
  refine ⟨left,Ev.step (f:=fun _=>some left) (fun k=>?_) (Ev.now _),Int.le_refl _,fun _=>by simp⟩
  rw [hl,if_neg (not_lt_app a)]
 | c :: r,a,left,h0,h1,hp,hb=>by
  rw [List.length_cons] at hb
  obtain ⟨q,e,hq,hm⟩:=hg c (hp c (by simp)) left h0 h1
  by_cases hn:q<0
  ·refine ⟨-1,Ev.step (fun k=>hl k _ _ _) (Ev.ifp (lt_app a r c) (Ev.ifp (by omega) ?_)),by omega,by omega⟩
   rw [hrd]
   exact Ev.bind e (Ev.ifp hn (Ev.now _))
  ·obtain ⟨q',e',hq',hm'⟩:=sz_gen rdf hrd l0 g m P hl hg r (a++[c]) q (by omega) (by omega) (fun c hc=>hp c (by simp [hc])) (by rw [snoc_len];omega)
   rw [snoc_len,List.append_assoc,List.singleton_append] at e'
   refine ⟨q',Ev.step (fun k=>hl k _ _ _) (Ev.ifp (lt_app a r c) (Ev.ifp (by omega) ?_)),by omega,fun h=>?_⟩
   ·rw [hrd]
    refine Ev.bind e (Ev.ifn hn ?_)
    rw [wnext (by omega)]
    exact e'
   ·have:=hm' h
    have:=hm (by omega)
    rw [List.map_cons,List.sum_cons]
    omega

theorem to_gen {α β:Type} (rdf:List α→Int→α) (hrd:∀ (a r:List α) (c:α),rdf (a++c :: r) ((a.length:Nat):Int)=c) (l0:Nat→List α→List α→Int→Option (List α)) (g:Nat→α→Option β) (mk:β→α) (z:α) (P:α→Prop)
  (hl:∀ k x0 x3 x4,l0 (k+1) x0 x3 x4=if x4<(x0.length:Int) then (if 0≤x4 then ((g k (rdf x0 x4)).bind fun b=>(if x4<(x3.length:Int) then (l0 k x0 (x3.set (x4:Int).toNat (mk b)) (wrap64 (x4+1))) else none)) else none) else some x3)
  (hg:∀ c,P c→∃ b,Ev (fun k=>g k c) b∧mk b=c) :
  ∀ (r a:List α) (n:Nat),r.length=n→(∀ c ∈ r,P c)→a.length+n≤9223372036854775806→Ev (fun k=>l0 k (a++r) (a++List.replicate n z) ((a.length:Nat):Int)) (a++r)
 | [],a,n,hn,hp,hb=>by
  obtain rfl:n=0:=by simpa using hn.symm
  refine Ev.step (f:=fun _=>some a) (fun k=>?_) (by rw [List.append_nil];exact Ev.now _)
  rw [hl,if_neg (not_lt_app a)]
  simp
 | c :: r,a,n,hn,hp,hb=>by
  obtain ⟨n,rfl⟩:∃ m,n=m+1:=⟨r.length,by simpa using hn.symm⟩
  obtain ⟨b,e,hmk⟩:=hg c (hp c (by simp))
  have ih:=to_gen rdf hrd l0 g mk z P hl hg r (a++[c]) n (by simpa using hn) (fun c hc=>hp c (by simp [hc])) (by rw [snoc_len];omega)
  rw [snoc_len,List.append_assoc,List.append_assoc,List.singleton_append,List.singleton_append] at ih
  refine Ev.step (fun k=>hl k _ _ _) (Ev.ifp (lt_app a r c) (Ev.ifp (by omega) ?_))
  rw [hrd]
  refine Ev.bind e ?_
  rw [List.replicate_succ]
  refine Ev.ifp (lt_app a _ z) ?_
  rw [setC,hmk,wnext (by omega)]
  exact ih

theorem eq_gen {α:Type} [DecidableEq α] (rdf:List α→Int→α) (hrd:∀ (a r:List α) (c:α),rdf (a++c :: r) ((a.length:Nat):Int)=c) (l0:Nat→List α→List α→Int→Option Bool) (g:Nat→α→α→Option Bool) (P:α→Prop)
  (hl:∀ k x0 x1 x5,l0 (k+1) x0 x1 x5=if x5<(x0.length:Int) then (if 0≤x5 then (if x5<(x1.length:Int) then ((g k (rdf x0 x5) (rdf x1 x5)).bind fun t=>(if t=true then (l0 k x0 x1 (wrap64 (x5+1))) else (some false))) else none) else none) else some true)
  (hg:∀ c d,P c→Ev (fun k=>g k c d) (decide (c=d))) :
  ∀ (r s a b:List α),a.length=b.length→r.length=s.length→(∀ c ∈ r,P c)→a.length+r.length≤9223372036854775806→Ev (fun k=>l0 k (a++r) (b++s) ((a.length:Nat):Int)) (decide (r=s))
 | [],s,a,b,hab,hrs,hp,hb=>by
  obtain rfl:s=[]:=by simpa using hrs.symm
  refine Ev.step (f:=fun _=>some true) (fun k=>?_) (Ev.now _)
  rw [hl,if_neg (not_lt_app a)]
 | c :: r,[],a,b,hab,hrs,hp,hb=>by cases hrs
 | c :: r,d :: s,a,b,hab,hrs,hp,hb=>by
  rw [List.length_cons] at hb
  have e:=hg c d (hp c (by simp))
  refine Ev.step (fun k=>hl k _ _ _) (Ev.ifp (lt_app a r c) (Ev.ifp (by omega) (Ev.ifp (by rw [hab];exact lt_app b s d) ?_)))
  have e2:rdf (b++d :: s) ((a.length:Nat):Int)=d:=by rw [hab];exact hrd b s d
  rw [hrd,e2]
  refine Ev.bind e ?_
  by_cases h:c=d
  ·subst h
   have ih:=eq_gen rdf hrd l0 g P hl hg r s (a++[c]) (b++[c]) (by rw [snoc_len,snoc_len,hab]) (by simpa using hrs) (fun c hc=>hp c (by simp [hc])) (by rw [snoc_len];omega)
   rw [snoc_len,List.append_assoc,List.append_assoc,List.singleton_append,List.singleton_append] at ih
   refine Ev.ifp (by simp) ?_
   rw [wnext (by omega),show decide (c :: r=c :: s)=decide (r=s) by simp]
   exact ih
  ·refine Ev.ifn (by simpa using h) (Ev.pure ?_)
   simp [h]

/-- the first one of which something holds -/
theorem first_gen {α:Type} (rdf:List α→Int→α) (hrd:∀ (a r:List α) (c:α),rdf (a++c :: r) ((a.length:Nat):Int)=c) (l0:Nat→List α→Int→Int→Option Int) (g:Nat→α→Option Bool) (p:α→Bool) (P:α→Prop)
  (hl:∀ k x0 x7 x8,l0 (k+1) x0 x7 x8=if x8<x7 then (if 0≤x8 then (if x8<(x0.length:Int) then ((g k (rdf x0 x8)).bind fun t=>(if t=true then (some x8) else (l0 k x0 x7 (wrap64 (x8+1))))) else none) else none) else some (-1))
  (hg:∀ c,P c→Ev (fun k=>g k c) (p c)) :
  ∀ (r a:List α) (n:Int),n=((a++r).length:Int)→(∀ c ∈ r,P c)→a.length+r.length≤9223372036854775806→∃ q,Ev (fun k=>l0 k (a++r) n ((a.length:Nat):Int)) q∧decide (q≥0)=r.any p
 | [],a,n,hn,hp,hb=>by
  refine ⟨-1,Ev.step (f:=fun _=>some (-1)) (fun k=>?_) (Ev.now _),rfl⟩
  rw [hl,hn,if_neg (not_lt_app a)]
 | c :: r,a,n,hn,hp,hb=>by
  rw [List.length_cons] at hb
  have e:=hg c (hp c (by simp))
  cases hc:p c with
  | true=>
   refine ⟨(a.length:Int),Ev.step (fun k=>hl k _ _ _) (Ev.ifp (by rw [hn];exact lt_app a r c) (Ev.ifp (by omega) (Ev.ifp (lt_app a r c) ?_))),?_⟩
   ·rw [hrd]
    exact Ev.bind e (Ev.ifp hc (Ev.now _))
   ·rw [List.any_cons,hc,decide_eq_true (by omega)];rfl
  | false=>
   obtain ⟨q,e',hq⟩:=first_gen rdf hrd l0 g p P hl hg r (a++[c]) n (by rw [hn];simp) (fun c hc=>hp c (by simp [hc])) (by rw [snoc_len];omega)
   rw [snoc_len,List.append_assoc,List.singleton_append] at e'
   refine ⟨q,Ev.step (fun k=>hl k _ _ _) (Ev.ifp (by rw [hn];exact lt_app a r c) (Ev.ifp (by omega) (Ev.ifp (lt_app a r c) ?_))),by rw [hq,List.any_cons,hc,Bool.false_or]⟩
   rw [hrd]
   refine Ev.bind e (Ev.ifn (by rw [hc];simp) ?_)
   rw [wnext (by omega)]
   exact e'

/-! ### words -/
theorem rdCl (a r:List Clause) (c:Clause):rd_T86 (a++c :: r) ((a.length:Nat):Int)=c:=by simp [rd_T86,List.getD]
theorem rdCl' (a r:List Clause) (c:Clause):rd_T79 (a++c :: r) ((a.length:Nat):Int)=c:=by simp [rd_T79,List.getD]
theorem rdPl (a r:List Cat.Place) (c:Cat.Place):rd_T88 (a++c :: r) ((a.length:Nat):Int)=c:=by simp [rd_T88,List.getD]
theorem rdPl' (a r:List Cat.Place) (c:Cat.Place):rd_T82 (a++c :: r) ((a.length:Nat):Int)=c:=by simp [rd_T82,List.getD]
theorem rdGo (a r:List Goal) (c:Goal):rd_T42 (a++c :: r) ((a.length:Nat):Int)=c:=by simp [rd_T42,List.getD]
theorem rdGo' (a r:List Goal) (c:Goal):rd_T120 (a++c :: r) ((a.length:Nat):Int)=c:=by simp [rd_T120,List.getD]

def GoalIn (g:Goal):Prop:=(Lit.int .i64 g.f0).wf=true∧(g.f1.length≤maxLen∧∀ c ∈ g.f1,CellIn c.f0 c.f1 c.f2)∧(g.f2.length≤maxLen∧∀ c ∈ g.f2,CellIn c.f0 c.f1 c.f2)∧(g.f3.length≤maxLen∧∀ c ∈ g.f3,CellIn c.f0 c.f1 c.f2)
def ClauseIn (c:Clause):Prop:=(c.f0.length≤maxLen∧∀ x ∈ c.f0,CellIn x.f0 x.f1 x.f2)∧(c.f1.length≤maxLen∧∀ g ∈ c.f1,GoalIn g)
def PlaceIn (p:Cat.Place):Prop:=p.f0.size≤maxLen∧(Lit.int .i64 p.f1).wf=true∧(Lit.int .i64 p.f2).wf=true
def ProgIn (p:Prog):Prop:=(p.f0.length≤maxLen∧∀ c ∈ p.f0,ClauseIn c)∧(p.f1.length≤maxLen∧∀ q ∈ p.f1,PlaceIn q)

def mG (g:Goal):Nat:=g.f1.length+g.f2.length+g.f3.length
def mGs (l:List Goal):Nat:=l.length+(l.map mG).sum
def mC (c:Clause):Nat:=c.f0.length+mGs c.f1
def mCs (l:List Clause):Nat:=l.length+(l.map mC).sum
def mP (p:Prog):Nat:=mCs p.f0+p.f1.length
theorem sum_mem {α:Type} (f:α→Nat) {l:List α} {x:α} (h:x ∈ l):f x≤(l.map f).sum:=by
 induction l with
 | nil=>cases h
 | cons y l ih=>
  rw [List.map_cons,List.sum_cons]
  rcases List.mem_cons.1 h with rfl|h
  ·omega
  ·have:=ih h;omega
/-- small -/
def SmG (g:Goal):Prop:=g.f1.length≤1048576∧g.f2.length≤1048576∧g.f3.length≤1048576
def SmC (c:Clause):Prop:=c.f0.length≤1048576∧c.f1.length≤1048576∧∀ g ∈ c.f1,SmG g
def SmP (p:Prog):Prop:=p.f0.length≤1048576∧p.f1.length≤1048576∧∀ c ∈ p.f0,SmC c
theorem smP_of {p:Prog} (h:mP p≤1048576):SmP p:=by
 unfold mP mCs at h
 refine ⟨by omega,by omega,fun c hc=>?_⟩
 have h1:c.f0.length+(c.f1.length+(c.f1.map mG).sum)≤(p.f0.map mC).sum:=sum_mem mC hc
 refine ⟨by omega,by omega,fun g hg=>?_⟩
 have h2:g.f1.length+g.f2.length+g.f3.length≤(c.f1.map mG).sum:=sum_mem mG hg
 exact ⟨by omega,by omega,by omega⟩

/-! ### sizes -/
theorem w64s {a:Int} {n:Nat} (h0:0≤a) (h1:a≤1048576) (hn:n≤9223372036854775807):wrap64 (a - (n:Int))=a - (n:Int):=w64 (by omega) (by omega)
theorem szGs_ev (l:List Goal) (left:Int) (h0:0≤left) (h1:left≤1048576) (hl:l.length≤9223372036854775807) (hp:∀ g ∈ l,GoalIn g):∃ q,Ev (fun k=>laws_szPrgGoalS.f k l left) q∧q≤left∧(0≤q→q+(mGs l:Int)≤left):=by
 unfold laws_szPrgGoalS.f
 rw [w64s h0 h1 (by omega)]
 by_cases hn:left - (l.length:Int)<0
 ·exact ⟨-1,Ev.ifp hn (Ev.now _),by omega,by omega⟩
 ·obtain ⟨q,e,a,b⟩:=sz_gen rd_T120 rdGo' laws_szPrgGoalS.l0 (fun k g left=>laws_szPrgGoal.f k g.f0 g.f1 g.f2 g.f3 left) mG GoalIn (fun k x0 x1 x5=>rfl)
   (fun g hg left h0 h1=>by
    obtain ⟨q,e,a,b⟩:=szG_ev g.f0 g.f1 g.f2 g.f3 left h0 h1 (room_of hg.2.1) (room_of hg.2.2.1) (room_of hg.2.2.2)
    exact ⟨q,e,a,fun h=>by have:=b h;unfold mG;omega⟩) l [] (left - (l.length:Int)) (by omega) (by omega) hp (by simp;omega)
  refine ⟨q,Ev.ifn hn e,by omega,fun h=>?_⟩
  have:=b h
  unfold mGs
  omega
theorem szC_ev (c:Clause) (left:Int) (h0:0≤left) (h1:left≤1048576) (hp:ClauseIn c):∃ q,Ev (fun k=>laws_szPrgClause.f k c.f0 c.f1 left) q∧q≤left∧(0≤q→q+(mC c:Int)≤left):=by
 obtain ⟨q1,e1,l1,m1⟩:=sz_sum c.f0 left h0 h1 (room_of hp.1)
 unfold laws_szPrgClause.f
 by_cases n1:q1<0
 ·exact ⟨-1,Ev.bind e1 (Ev.ifp n1 (Ev.now _)),by omega,by omega⟩
 have hl:=hp.2.1
 unfold maxLen at hl
 obtain ⟨q2,e2,l2,m2⟩:=szGs_ev c.f1 q1 (by omega) (by omega) hl hp.2.2
 by_cases n2:q2<0
 ·exact ⟨-1,Ev.bind e1 (Ev.ifn n1 (Ev.bind e2 (Ev.ifp n2 (Ev.now _)))),by omega,by omega⟩
 ·refine ⟨q2,Ev.bind e1 (Ev.ifn n1 (Ev.bind e2 (Ev.ifn n2 (Ev.now _)))),by omega,fun h=>?_⟩
  have:=m1 (by omega)
  have:=m2 h
  unfold mC
  omega
theorem szCs_ev (l:List Clause) (left:Int) (h0:0≤left) (h1:left≤1048576) (hl:l.length≤9223372036854775807) (hp:∀ g ∈ l,ClauseIn g):∃ q,Ev (fun k=>laws_szPrgClauseS.f k l left) q∧q≤left∧(0≤q→q+(mCs l:Int)≤left):=by
 unfold laws_szPrgClauseS.f
 rw [w64s h0 h1 (by omega)]
 by_cases hn:left - (l.length:Int)<0
 ·exact ⟨-1,Ev.ifp hn (Ev.now _),by omega,by omega⟩
 ·obtain ⟨q,e,a,b⟩:=sz_gen rd_T79 rdCl' laws_szPrgClauseS.l0 (fun k g left=>laws_szPrgClause.f k g.f0 g.f1 left) mC ClauseIn (fun k x0 x1 x5=>rfl)
   (fun g hg left h0 h1=>szC_ev g left h0 h1 hg) l [] (left - (l.length:Int)) (by omega) (by omega) hp (by simp;omega)
  refine ⟨q,Ev.ifn hn e,by omega,fun h=>?_⟩
  have:=b h
  unfold mCs
  omega
theorem szPs_ev (l:List Cat.Place) (left:Int) (h0:0≤left) (h1:left≤1048576) (hl:l.length≤9223372036854775807) (hp:∀ g ∈ l,PlaceIn g):∃ q,Ev (fun k=>laws_szPrgPlaceS.f k l left) q∧q≤left∧(0≤q→q+(l.length:Int)≤left):=by
 unfold laws_szPrgPlaceS.f
 rw [w64s h0 h1 (by omega)]
 by_cases hn:left - (l.length:Int)<0
 ·exact ⟨-1,Ev.ifp hn (Ev.now _),by omega,by omega⟩
 ·obtain ⟨q,e,a,b⟩:=sz_gen rd_T82 rdPl' laws_szPrgPlaceS.l0 (fun k g left=>laws_szPrgPlace.f g.f0 g.f1 g.f2 left) (fun _=>0) PlaceIn (fun k x0 x1 x5=>rfl)
   (fun g hg left h0 h1=>by
    have hm:=hg.1
    unfold maxLen at hm
    unfold laws_szPrgPlace.f
    rw [w64s h0 h1 hm]
    by_cases hn:left - (g.f0.size:Int)<0
    ·exact ⟨-1,Ev.ifp hn (Ev.now _),by omega,by omega⟩
    ·exact ⟨left - (g.f0.size:Int),Ev.ifn hn (Ev.now _),by omega,by omega⟩) l [] (left - (l.length:Int)) (by omega) (by omega) hp (by simp;omega)
  refine ⟨q,Ev.ifn hn e,by omega,fun h=>?_⟩
  have:=b h
  omega
theorem szP_ev (p:Prog) (left:Int) (h0:0≤left) (h1:left≤1048576) (hp:ProgIn p):∃ q,Ev (fun k=>laws_szPrgProg.f k p.f0 p.f1 left) q∧q≤left∧(0≤q→q+(mP p:Int)≤left):=by
 have z1:=hp.1.1
 have z2:=hp.2.1
 unfold maxLen at z1 z2
 obtain ⟨q1,e1,l1,m1⟩:=szCs_ev p.f0 left h0 h1 (by omega) hp.1.2
 unfold laws_szPrgProg.f
 by_cases n1:q1<0
 ·exact ⟨-1,Ev.bind e1 (Ev.ifp n1 (Ev.now _)),by omega,by omega⟩
 obtain ⟨q2,e2,l2,m2⟩:=szPs_ev p.f1 q1 (by omega) (by omega) (by omega) hp.2.2
 by_cases n2:q2<0
 ·exact ⟨-1,Ev.bind e1 (Ev.ifn n1 (Ev.bind e2 (Ev.ifp n2 (Ev.now _)))),by omega,by omega⟩
 ·refine ⟨q2,Ev.bind e1 (Ev.ifn n1 (Ev.bind e2 (Ev.ifn n2 (Ev.now _)))),by omega,fun h=>?_⟩
  have:=m1 (by omega)
  have:=m2 h
  unfold mP
  omega

/-! ### copies -/
theorem toGs_ev (l:List Goal) (hl:l.length≤1048576) (hp:∀ g ∈ l,SmG g):Ev (fun k=>laws_toPrgGoalS.f k l) l:=by
 unfold laws_toPrgGoalS.f
 refine Ev.ifp (by omega) (Ev.ifp (by rw [Int.toNat_natCast];omega) ?_)
 rw [Int.toNat_natCast]
 exact to_gen rd_T120 rdGo' laws_toPrgGoalS.l0 (fun k g=>laws_toPrgGoal.f k g.f0 g.f1 g.f2 g.f3) (fun b=>(⟨b.1,b.2.1,b.2.2.1,b.2.2.2⟩:Goal)) _ SmG (fun k x0 x3 x4=>rfl)
  (fun g hg=>⟨_,toG_ev g.f0 g.f1 g.f2 g.f3 hg.1 hg.2.1 hg.2.2,rfl⟩) l [] l.length rfl hp (by simp;omega)
theorem toC_ev (c:Clause) (h:SmC c):Ev (fun k=>laws_toPrgClause.f k c.f0 c.f1) (c.f0,c.f1):=by
 unfold laws_toPrgClause.f
 exact Ev.bind (to_ev c.f0 h.1) (Ev.bind (toGs_ev c.f1 h.2.1 h.2.2) (Ev.now _))
theorem toCs_ev (l:List Clause) (hl:l.length≤1048576) (hp:∀ g ∈ l,SmC g):Ev (fun k=>laws_toPrgClauseS.f k l) l:=by
 unfold laws_toPrgClauseS.f
 refine Ev.ifp (by omega) (Ev.ifp (by rw [Int.toNat_natCast];omega) ?_)
 rw [Int.toNat_natCast]
 exact to_gen rd_T79 rdCl' laws_toPrgClauseS.l0 (fun k g=>laws_toPrgClause.f k g.f0 g.f1) (fun b=>(⟨b.1,b.2⟩:Clause)) _ SmC (fun k x0 x3 x4=>rfl)
  (fun g hg=>⟨_,toC_ev g hg,rfl⟩) l [] l.length rfl hp (by simp;omega)
theorem toPs_ev (l:List Cat.Place) (hl:l.length≤1048576):Ev (fun k=>laws_toPrgPlaceS.f k l) l:=by
 unfold laws_toPrgPlaceS.f
 refine Ev.ifp (by omega) (Ev.ifp (by rw [Int.toNat_natCast];omega) ?_)
 rw [Int.toNat_natCast]
 exact to_gen rd_T82 rdPl' laws_toPrgPlaceS.l0 (fun k g=>laws_toPrgPlace.f g.f0 g.f1 g.f2) (fun b=>(⟨b.1,b.2.1,b.2.2⟩:Cat.Place)) _ (fun _=>True) (fun k x0 x3 x4=>rfl)
  (fun g hg=>⟨_,Ev.now _,rfl⟩) l [] l.length rfl (fun _ _=>trivial) (by simp;omega)
theorem toP_ev (p:Prog) (h:SmP p):Ev (fun k=>laws_toPrgProg.f k p.f0 p.f1) (p.f0,p.f1):=by
 unfold laws_toPrgProg.f
 exact Ev.bind (toCs_ev p.f0 h.1 h.2.2) (Ev.bind (toPs_ev p.f1 h.2.1) (Ev.now _))

/-! ### equality -/
theorem Goal.eq_iff (g h:Goal):g=h↔g.f0=h.f0∧g.f1=h.f1∧g.f2=h.f2∧g.f3=h.f3:=by
 cases g;cases h;simp
theorem Clause.eq_iff (g h:Clause):g=h↔g.f0=h.f0∧g.f1=h.f1:=by
 cases g;cases h;simp
theorem Place.eq_iff (g h:Cat.Place):g=h↔g.f0=h.f0∧g.f1=h.f1∧g.f2=h.f2:=by
 cases g;cases h;simp
noncomputable instance:DecidableEq Goal:=fun _ _=>Classical.propDecidable _
noncomputable instance:DecidableEq Clause:=fun _ _=>Classical.propDecidable _
noncomputable instance:DecidableEq Cat.Place:=fun _ _=>Classical.propDecidable _
theorem eqGs_ev (l m:List Goal) (hl:l.length≤1048576) (hp:∀ g ∈ l,SmG g):Ev (fun k=>laws_eqPrgGoalS.f k l m) (decide (l=m)):=by
 unfold laws_eqPrgGoalS.f
 by_cases h:l.length=m.length
 ·refine Ev.ifp (by omega) ?_
  exact eq_gen rd_T42 rdGo laws_eqPrgGoalS.l0 (fun k g h=>laws_eqPrgGoal.f k g.f0 g.f1 g.f2 g.f3 h.f0 h.f1 h.f2 h.f3) SmG (fun k x0 x1 x5=>rfl)
   (fun c d hc=>by
    have:=eqG_ev c.f0 c.f1 c.f2 c.f3 d.f0 d.f1 d.f2 d.f3 hc.1 hc.2.1 hc.2.2
    rwa [show decide (c.f0=d.f0∧c.f1=d.f1∧c.f2=d.f2∧c.f3=d.f3)=decide (c=d) by simp only [Goal.eq_iff]] at this) l m [] [] rfl h hp (by simp;omega)
 ·refine Ev.ifn (by omega) (Ev.pure ?_)
  rw [decide_eq_false (fun e=>h (by rw [e]))]
theorem eqC_ev (c d:Clause) (h:SmC c):Ev (fun k=>laws_eqPrgClause.f k c.f0 c.f1 d.f0 d.f1) (decide (c=d)):=by
 unfold laws_eqPrgClause.f
 refine Ev.bind (eq_ev c.f0 d.f0 h.1) ?_
 by_cases h1:c.f0=d.f0
 ·refine Ev.ifp (by simpa using h1) (Ev.bind (eqGs_ev c.f1 d.f1 h.2.1 h.2.2) ?_)
  by_cases h2:c.f1=d.f1
  ·exact Ev.ifp (by simpa using h2) (Ev.pure (by rw [decide_eq_true ((Clause.eq_iff c d).2 ⟨h1,h2⟩)]))
  ·exact Ev.ifn (by simpa using h2) (Ev.pure (by rw [decide_eq_false (fun e=>h2 ((Clause.eq_iff c d).1 e).2)]))
 ·exact Ev.ifn (by simpa using h1) (Ev.pure (by rw [decide_eq_false (fun e=>h1 ((Clause.eq_iff c d).1 e).1)]))
theorem eqCs_ev (l m:List Clause) (hl:l.length≤1048576) (hp:∀ g ∈ l,SmC g):Ev (fun k=>laws_eqPrgClauseS.f k l m) (decide (l=m)):=by
 unfold laws_eqPrgClauseS.f
 by_cases h:l.length=m.length
 ·refine Ev.ifp (by omega) ?_
  exact eq_gen rd_T86 rdCl laws_eqPrgClauseS.l0 (fun k g h=>laws_eqPrgClause.f k g.f0 g.f1 h.f0 h.f1) SmC (fun k x0 x1 x5=>rfl)
   (fun c d hc=>eqC_ev c d hc) l m [] [] rfl h hp (by simp;omega)
 ·refine Ev.ifn (by omega) (Ev.pure ?_)
  rw [decide_eq_false (fun e=>h (by rw [e]))]
theorem ba_eq {a b:ByteArray}:a.toList=b.toList↔a=b:=by
 rw [Lib.toList_data,Lib.toList_data]
 exact ⟨fun h=>ba_ext h,fun h=>by rw [h]⟩
theorem eqPl_ev (c d:Cat.Place):laws_eqPrgPlace.f c.f0 c.f1 c.f2 d.f0 d.f1 d.f2=some (decide (c=d)):=by
 unfold laws_eqPrgPlace.f
 by_cases h:c=d
 ·subst h;simp
 ·rw [decide_eq_false h]
  by_cases h0:c.f0.toList=d.f0.toList
  ·rw [if_pos h0]
   by_cases h1:c.f1=d.f1
   ·rw [if_pos h1,if_neg (fun h2=>h ((Place.eq_iff c d).2 ⟨ba_eq.1 h0,h1,h2⟩))]
   ·rw [if_neg h1]
  ·rw [if_neg h0]
theorem eqPs_ev (l m:List Cat.Place) (hl:l.length≤1048576):Ev (fun k=>laws_eqPrgPlaceS.f k l m) (decide (l=m)):=by
 unfold laws_eqPrgPlaceS.f
 by_cases h:l.length=m.length
 ·refine Ev.ifp (by omega) ?_
  exact eq_gen rd_T88 rdPl laws_eqPrgPlaceS.l0 (fun k g h=>laws_eqPrgPlace.f g.f0 g.f1 g.f2 h.f0 h.f1 h.f2) (fun _=>True) (fun k x0 x1 x5=>rfl)
   (fun c d hc=>Ev.all (fun _=>eqPl_ev c d)) l m [] [] rfl h (fun _ _=>trivial) (by simp;omega)
 ·refine Ev.ifn (by omega) (Ev.pure ?_)
  rw [decide_eq_false (fun e=>h (by rw [e]))]
theorem eqP_same (p:Prog) (h:SmP p):Ev (fun k=>laws_eqPrgProg.f k p.f0 p.f1 p.f0 p.f1) true:=by
 unfold laws_eqPrgProg.f
 refine Ev.bind (eqCs_ev p.f0 p.f0 h.1 h.2.2) (Ev.ifp (by simp) (Ev.bind (eqPs_ev p.f1 p.f1 h.2.1) (Ev.ifp (by simp) (Ev.now _))))

/-! ### what a clause, a place, a program may be -/
theorem goalB_ok (g:Goal):goalB g.f0 g.f1 g.f2 g.f3=goalOk g:=by
 unfold goalB goalOk shapeOk
 simp only [len0]
 by_cases h6:g.f0=6
 ·rw [if_pos h6,if_neg (by omega),if_neg (by omega),if_neg (by omega),if_neg (by omega)]
 ·rw [if_neg h6]
  by_cases h1:g.f0=1
  ·rw [if_pos (.inl h1),if_pos h1]
  ·rw [if_neg (by omega),if_neg h1]
theorem sclause_ev (c:Clause) (h:SmC c):Ev (fun k=>spec_l3Clause.f k c.f0 c.f1) (clauseOk c):=by
 have loop:∀ (r a:List Goal),(∀ g ∈ r,SmG g)→a.length+r.length≤9223372036854775806→Ev (fun k=>spec_l3Clause.l0 k ((a.length:Nat):Int) c.f0 (a++r)) (r.all goalOk):=by
  intro r
  induction r with
  | nil=>
   intro a _ _
   refine Ev.step (f:=fun _=>some true) (fun k=>?_) (Ev.now _)
   simp only [spec_l3Clause.l0]
   rw [if_neg (not_lt_app a)]
  | cons g r ih=>
   intro a hs hb
   rw [List.length_cons] at hb
   have I:=ih (a++[g]) (fun g hg=>hs g (by simp [hg])) (by rw [snoc_len];omega)
   rw [snoc_len,List.append_assoc,List.singleton_append] at I
   have hg:=hs g (by simp)
   refine Ev.step (fun k=>rfl) ?_
   simp only [spec_l3Clause.l0]
   refine Ev.ifp (lt_app a r g) (Ev.ifp (by omega) ?_)
   rw [rdGo]
   refine Ev.bind (sgoal_ev g.f0 g.f1 g.f2 g.f3 hg.1 hg.2.1 hg.2.2) ?_
   rw [goalB_ok,List.all_cons,wnext (by omega)]
   cases hq:goalOk g with
   | true=>exact Ev.ifp rfl I
   | false=>exact Ev.ifn (by simp) (Ev.now _)
 unfold spec_l3Clause.f clauseOk
 refine Ev.bind (l3_ev c.f0) ?_
 unfold mayB called
 have last:∀ b:Bool,Ev (fun k=>spec_l3Clause.j0 k b c.f0 c.f1) (!b && c.f1.all goalOk):=fun b=>by
  refine Ev.step (fun k=>rfl) ?_
  simp only [spec_l3Clause.j0]
  cases b with
  | true=>exact Ev.ifp rfl (Ev.now _)
  | false=>exact Ev.ifn (by simp) (loop c.f1 [] h.2.2 (by have:=h.2.1;simp;omega))
 by_cases ht:(isTerm c.f0 && inCl c.f0)=true
 ·refine Ev.ifp ht (Ev.bindv (l3call c.f0) ?_)
  simp only [Bool.and_eq_true] at ht
  rw [ht.1,ht.2,Bool.true_and,Bool.true_and]
  cases hf:isFun c.f0 with
  | true=>
   refine Ev.ifp rfl ?_
   have e:=last (decide ((c.f1.length:Int) > 4))
   rw [show (!decide ((c.f1.length:Int) > 4))=decide (c.f1.length≤4) by rw [← decide_not];congr 1;rw [eq_iff_iff];omega] at e
   exact e
  | false=>
   refine Ev.ifn (by simp) ?_
   exact last true
 ·refine Ev.ifn ht ?_
  have e:=last true
  have:(isTerm c.f0 && isFun c.f0 && (inCl c.f0 && (decide (c.f1.length≤4) && c.f1.all goalOk)))=false:=by
   cases h2:isTerm c.f0 <;> cases h3:inCl c.f0 <;> simp_all
  rw [this]
  exact e
theorem iclause_ev (c:Clause) (h:c.f1.length≤1048576):Ev (fun k=>impl_clauseOk.f k c.f0 c.f1) (clauseOk c):=by
 unfold impl_clauseOk.f clauseOk
 refine Ev.bindv (called_pure c.f0) ?_
 cases h1:called c.f0 with
 | false=>exact Ev.ifn (by simp) (Ev.now _)
 | true=>
  refine Ev.ifp rfl (Ev.bindv (inClause_pure c.f0) ?_)
  cases h2:inCl c.f0 with
  | false=>exact Ev.ifn (by simp) (Ev.now _)
  | true=>
   refine Ev.ifp rfl ?_
   by_cases h3:(c.f1.length:Int)≤4
   ·rw [decide_eq_true (by omega:c.f1.length≤4)]
    refine Ev.ifp h3 ?_
    obtain ⟨q,e,hq⟩:=first_gen rd_T42 rdGo slices_IndexFunc_PrgGoal.l0 (fun k g=>impl_clauseOk_1.f g.f0 g.f1 g.f2 g.f3) (fun g=>!goalOk g) (fun _=>True) (fun k x0 x7 x8=>rfl)
     (fun g _=>Ev.all (fun _=>by unfold impl_clauseOk_1.f;rw [igoal,goalB_ok];rfl)) c.f1 [] (c.f1.length:Int) rfl (fun _ _=>trivial) (by simp;omega)
    unfold slices_ContainsFunc_PrgGoal.f
    refine Ev.bind (Ev.bind e (Ev.now _)) (Ev.pure ?_)
    rw [hq,List.all_eq_not_any_not]
    rfl
   ·rw [decide_eq_false (by omega:¬ c.f1.length≤4)]
    exact Ev.ifn h3 (Ev.now _)
theorem splace_ev (p:Cat.Place):Ev (fun k=>spec_l3Place.f k p.f0 p.f1 p.f2) (placeOk p):=by
 unfold spec_l3Place.f placeOk
 refine Ev.bind (name_ev p.f0) ?_
 cases h1:nameOk p.f0 with
 | false=>exact Ev.ifn (by simp) (Ev.now _)
 | true=>
  refine Ev.ifp rfl (Ev.bindv (sin_pure _ _ _) ?_)
  by_cases h2:0≤p.f1∧p.f1≤3
  ·rw [decide_eq_true h2]
   exact Ev.ifp rfl (Ev.bindv (sin_pure _ _ _) (Ev.now _))
  ·rw [decide_eq_false h2]
   exact Ev.ifn (by simp) (Ev.now _)
theorem same_iff (p q:Cat.Place):samePlace p q=true↔p.f0.toList=q.f0.toList∧p.f1=q.f1:=by
 unfold samePlace
 rw [Lib.toList_data,Lib.toList_data]
 simp
theorem samePlace_comm (p q:Cat.Place):samePlace p q=samePlace q p:=by
 rw [Bool.eq_iff_iff,same_iff,same_iff]
 exact ⟨fun h=>⟨h.1.symm,h.2.symm⟩,fun h=>⟨h.1.symm,h.2.symm⟩⟩
theorem rdAt (l:List Cat.Place) (i:Nat) (h:i<l.length):rd_T88 l (i:Int)=l[i]:=by simp [rd_T88,List.getD,h]

theorem sinner_ev (cs:List Clause) (ps:List Cat.Place) (i:Nat) (hi:i<ps.length) (hl:ps.length≤1048576) (res:Bool) (H:(∀ j,(h:j<i)→samePlace ps[j] ps[i]=false)→Ev (fun k=>spec_PrgOk.l1 k (wrap64 ((i:Int)+1)) cs ps) res)
  (hno:(∃ j,∃ h:j<i,samePlace ps[j] ps[i]=true)→res=false):∀ (n j:Nat),i - j=n→∀ (hj:j≤i),(∀ t,(h:t<j)→samePlace ps[t] ps[i]=false)→Ev (fun k=>spec_PrgOk.l2 k (i:Int) (j:Int) cs ps) res
 | 0,j,hn,hj,hs=>by
  obtain rfl:j=i:=by omega
  refine Ev.step (fun k=>rfl) ?_
  simp only [spec_PrgOk.l2]
  exact Ev.ifn (by omega) (H hs)
 | n+1,j,hn,hj,hs=>by
  have hji:j<i:=by omega
  refine Ev.step (fun k=>rfl) ?_
  simp only [spec_PrgOk.l2]
  refine Ev.ifp (by omega) (Ev.ifp (by omega) (Ev.ifp (by omega) (Ev.ifp (by omega) (Ev.ifp (by omega) ?_))))
  rw [rdAt ps j (by omega),rdAt ps i hi]
  by_cases hq:samePlace ps[j] ps[i]=true
  ·have:=(same_iff _ _).1 hq
   rw [hno ⟨j,hji,hq⟩]
   exact Ev.ifp this.1 (Ev.ifp this.2 (Ev.now _))
  ·have I:=sinner_ev cs ps i hi hl res H hno n (j+1) (by omega) (by omega) (fun t ht=>by
    rcases Nat.lt_or_ge t j with h|h
    ·exact hs t h
    ·obtain rfl:t=j:=by omega
     simpa using hq)
   have hw:wrap64 ((j:Int)+1)=((j+1:Nat):Int):=wnext (by omega)
   by_cases h0:ps[j].f0.toList=ps[i].f0.toList
   ·refine Ev.ifp h0 (Ev.ifn (fun h1=>hq ((same_iff _ _).2 ⟨h0,h1⟩)) ?_)
    rw [hw];exact I
   ·refine Ev.ifn h0 ?_
    rw [hw];exact I
theorem newPlaces_cons (a r:List Cat.Place) (p:Cat.Place):newPlaces a (p :: r)=(placeOk p && (!(a.any (samePlace p)) && newPlaces (a++[p]) r)):=rfl
theorem any_take {a r:List Cat.Place} {p:Cat.Place}:(∃ j,∃ h:j<a.length,samePlace ((a++p :: r)[j]'(by rw [List.length_append];omega)) p=true)↔a.any (samePlace p)=true:=by
 rw [List.any_eq_true]
 constructor
 ·rintro ⟨j,h,e⟩
  rw [List.getElem_append_left h] at e
  exact ⟨_,List.getElem_mem h,by rw [samePlace_comm];exact e⟩
 ·rintro ⟨x,hx,e⟩
  obtain ⟨j,h,rfl⟩:=List.getElem_of_mem hx
  exact ⟨j,h,by rw [List.getElem_append_left h,samePlace_comm];exact e⟩
theorem mid {a r:List Cat.Place} {p:Cat.Place} (h:a.length<(a++p :: r).length):(a++p :: r)[a.length]=p:=by simp
theorem splaces_ev (cs:List Clause):∀ (r a:List Cat.Place),(a++r).length≤1048576→Ev (fun k=>spec_PrgOk.l1 k ((a.length:Nat):Int) cs (a++r)) (newPlaces a r)
 | [],a,hb=>by
  refine Ev.step (f:=fun _=>some true) (fun k=>?_) (Ev.now _)
  simp only [spec_PrgOk.l1]
  rw [if_neg (not_lt_app a)]
 | p :: r,a,hb=>by
  have I:=splaces_ev cs r (a++[p]) (by simpa using hb)
  rw [snoc_len,List.append_assoc,List.singleton_append] at I
  have hi:a.length<(a++p :: r).length:=by simp
  have hlb:a.length≤1048576:=by omega
  refine Ev.step (fun k=>rfl) ?_
  simp only [spec_PrgOk.l1]
  refine Ev.ifp (lt_app a r p) (Ev.ifp (by omega) ?_)
  rw [rdPl]
  refine Ev.bind (splace_ev p) ?_
  rw [newPlaces_cons]
  cases hp:placeOk p with
  | false=>exact Ev.ifn (by simp) (Ev.now _)
  | true=>
   refine Ev.ifp rfl ?_
   rw [Bool.true_and]
   refine sinner_ev cs (a++p :: r) a.length hi hb _ (fun hs=>?_) (fun hx=>?_) a.length 0 rfl (by omega) (fun t ht=>by omega)
   ·rw [wnext (by omega)]
    have:a.any (samePlace p)=false:=by
     rw [Bool.eq_false_iff]
     intro h
     obtain ⟨j,hj,e⟩:=(any_take (r:=r)).2 h
     have:=hs j hj
     rw [mid hi] at this
     rw [this] at e;cases e
    rw [this]
    simpa using I
   ·obtain ⟨j,hj,e⟩:=hx
    rw [mid hi] at e
    rw [any_take.1 ⟨j,hj,e⟩]
    rfl
theorem sclauses_ev (ps:List Cat.Place) (res:Bool) (H:Ev (fun k=>spec_PrgOk.l1 k 0 [] ps) res) (hH:∀ cs,Ev (fun k=>spec_PrgOk.l1 k 0 cs ps) res):∀ (r a:List Clause),(∀ c ∈ r,SmC c)→(a++r).length≤1048576→Ev (fun k=>spec_PrgOk.l0 k ((a.length:Nat):Int) (a++r) ps) (r.all clauseOk && res)
 | [],a,hs,hb=>by
  refine Ev.step (f:=fun k=>spec_PrgOk.l1 k 0 (a++[]) ps) (fun k=>?_) (hH _)
  simp only [spec_PrgOk.l0]
  rw [if_neg (not_lt_app a)]
 | c :: r,a,hs,hb=>by
  have I:=sclauses_ev ps res H hH r (a++[c]) (fun c hc=>hs c (by simp [hc])) (by simpa using hb)
  rw [snoc_len,List.append_assoc,List.singleton_append] at I
  have hi:a.length<(a++c :: r).length:=by simp
  refine Ev.step (fun k=>rfl) ?_
  simp only [spec_PrgOk.l0]
  refine Ev.ifp (lt_app a r c) (Ev.ifp (by omega) ?_)
  rw [rdCl]
  refine Ev.bind (sclause_ev c (hs c (by simp))) ?_
  rw [List.all_cons,wnext (by omega)]
  cases hc:clauseOk c with
  | false=>exact Ev.ifn (by simp) (Ev.now _)
  | true=>exact Ev.ifp rfl (by simpa using I)
theorem sprog_ev (p:Prog) (h:SmP p):Ev (fun k=>spec_PrgOk.f k p.f0 p.f1) (progOk p):=by
 unfold spec_PrgOk.f progOk
 have last:∀ b:Bool,Ev (fun k=>spec_PrgOk.j0 k b p.f0 p.f1) (!b && (p.f0.all clauseOk && newPlaces [] p.f1)):=fun b=>by
  refine Ev.step (fun k=>rfl) ?_
  simp only [spec_PrgOk.j0]
  cases b with
  | true=>exact Ev.ifp rfl (Ev.now _)
  | false=>
   refine Ev.ifn (by simp) ?_
   exact sclauses_ev p.f1 (newPlaces [] p.f1) (splaces_ev [] p.f1 [] (by simpa using h.2.1)) (fun cs=>splaces_ev cs p.f1 [] (by simpa using h.2.1)) p.f0 [] h.2.2 (by simpa using h.1)
 by_cases h1:(p.f0.length:Int) > 12
 ·rw [decide_eq_false (by omega:¬ p.f0.length≤12),Bool.false_and]
  exact Ev.ifp h1 (last true)
 ·rw [decide_eq_true (by omega:p.f0.length≤12),Bool.true_and]
  refine Ev.ifn h1 ?_
  have e:=last (decide ((p.f1.length:Int) > 6))
  rw [show (!decide ((p.f1.length:Int) > 6))=decide (p.f1.length≤6) by rw [← decide_not];congr 1;rw [eq_iff_iff];omega] at e
  exact e

/-- what the program asks behind the places -/
def restOk (cs:List Clause) (ps:List Cat.Place):Bool:=decide (cs.length≤12) && (decide (ps.length≤6) && cs.all clauseOk)
theorem irest_ev (cs:List Clause) (hs:∀ c ∈ cs,c.f1.length≤1048576) (hl:cs.length≤1048576):Ev (fun k=>slices_ContainsFunc_PrgClause.f k cs) (!(cs.all clauseOk)):=by
 obtain ⟨q,e,hq⟩:=first_gen rd_T86 rdCl slices_IndexFunc_PrgClause.l0 (fun k c=>impl_PrgOk_1.f k c.f0 c.f1) (fun g=>!clauseOk g) (fun c=>c.f1.length≤1048576) (fun k x0 x7 x8=>rfl)
  (fun c hc=>by
   unfold impl_PrgOk_1.f
   exact Ev.bind (iclause_ev c hc) (Ev.now _)) cs [] (cs.length:Int) rfl hs (by simp;omega)
 unfold slices_ContainsFunc_PrgClause.f
 refine Ev.bind e (Ev.pure ?_)
 rw [hq,List.all_eq_not_any_not,Bool.not_not]
theorem iinner_ev (cs:List Clause) (ps x9:List Cat.Place) (x10 x11:Int) (p:Cat.Place) (res:Bool) (H:Ev (fun k=>impl_PrgOk.l0 k x9 x10 (wrap64 (x11+1)) cs ps) res):∀ (r b:List Cat.Place) (n:Int),n=((b++r).length:Int)→b.length+r.length≤9223372036854775806→
  Ev (fun k=>impl_PrgOk.l1 k x9 x10 x11 (b++r) n ((b.length:Nat):Int) cs ps p.f0 p.f1 p.f2) (!(r.any (samePlace p)) && res)
 | [],b,n,hn,hb=>by
  refine Ev.step (f:=fun k=>impl_PrgOk.l0 k x9 x10 (wrap64 (x11+1)) cs ps) (fun k=>?_) (by simpa using H)
  simp only [impl_PrgOk.l1]
  rw [hn,if_neg (not_lt_app b)]
 | y :: r,b,n,hn,hb=>by
  rw [List.length_cons] at hb
  have I:=iinner_ev cs ps x9 x10 x11 p res H r (b++[y]) n (by rw [hn];simp) (by rw [snoc_len];omega)
  rw [snoc_len,List.append_assoc,List.singleton_append] at I
  refine Ev.step (fun k=>rfl) ?_
  simp only [impl_PrgOk.l1]
  refine Ev.ifp (by rw [hn];exact lt_app b r y) (Ev.ifp (by omega) (Ev.ifp (lt_app b r y) ?_))
  rw [rdPl,wnext (by omega),List.any_cons]
  by_cases h0:p.f0.toList=y.f0.toList
  ·refine Ev.ifp h0 ?_
   by_cases h1:p.f1=y.f1
   ·rw [(same_iff p y).2 ⟨h0,h1⟩]
    exact Ev.ifp h1 (Ev.now _)
   ·rw [show samePlace p y=false from Bool.eq_false_iff.2 (fun h=>h1 ((same_iff p y).1 h).2),Bool.false_or]
    exact Ev.ifn h1 I
  ·rw [show samePlace p y=false from Bool.eq_false_iff.2 (fun h=>h0 ((same_iff p y).1 h).1),Bool.false_or]
   exact Ev.ifn h0 I
theorem iplaces_ev (cs:List Clause) (hs:∀ c ∈ cs,c.f1.length≤1048576) (hl:cs.length≤1048576):∀ (r a:List Cat.Place) (n:Int),n=((a++r).length:Int)→(a++r).length≤1048576→
  Ev (fun k=>impl_PrgOk.l0 k (a++r) n ((a.length:Nat):Int) cs (a++r)) (newPlaces a r && restOk cs (a++r))
 | [],a,n,hn,hb=>by
  refine Ev.step (fun k=>rfl) ?_
  simp only [impl_PrgOk.l0]
  refine Ev.ifn (by rw [hn];exact not_lt_app a) ?_
  rw [show newPlaces a []=true from rfl,Bool.true_and]
  unfold restOk
  by_cases h1:(cs.length:Int)≤12
  ·rw [decide_eq_true (by omega:cs.length≤12)]
   refine Ev.ifp h1 ?_
   by_cases h2:((a++[]).length:Int)≤6
   ·have e6:decide ((a++([]:List Cat.Place)).length≤6)=true:=decide_eq_true (by omega)
    rw [e6]
    refine Ev.ifp h2 (Ev.bind (irest_ev cs hs hl) (Ev.pure ?_))
    simp
   ·have e6:decide ((a++([]:List Cat.Place)).length≤6)=false:=decide_eq_false (by omega)
    rw [e6]
    exact Ev.ifn h2 (Ev.now _)
  ·rw [decide_eq_false (by omega:¬ cs.length≤12)]
   exact Ev.ifn h1 (Ev.now _)
 | p :: r,a,n,hn,hb=>by
  have I:=iplaces_ev cs hs hl r (a++[p]) n (by rw [hn];simp) (by simpa using hb)
  rw [snoc_len,List.append_assoc,List.singleton_append] at I
  have hi:a.length<(a++p :: r).length:=by simp
  have last:∀ b:Bool,Ev (fun k=>impl_PrgOk.j1 k (a.length:Int) (a++p :: r) n (a.length:Int) b cs (a++p :: r) p.f0 p.f1 p.f2) (!b && (!(a.any (samePlace p)) && (newPlaces (a++[p]) r && restOk cs (a++p :: r)))):=fun b=>by
   refine Ev.step (fun k=>rfl) ?_
   simp only [impl_PrgOk.j1]
   cases b with
   | true=>exact Ev.ifp rfl (Ev.now _)
   | false=>
    refine Ev.ifn (by simp) (Ev.ifp (by omega) (Ev.ifp (by omega) (Ev.bindv rfl ?_)))
    have et:(a++p :: r).take ((a.length:Int)).toNat=a:=by simp
    rw [et]
    have J:=iinner_ev cs (a++p :: r) (a++p :: r) n (a.length:Int) p (newPlaces (a++[p]) r && restOk cs (a++p :: r)) (by rw [wnext (by omega)];exact I) a [] (a.length:Int) rfl (by simp;omega)
    exact J
  refine Ev.step (fun k=>rfl) ?_
  simp only [impl_PrgOk.l0]
  refine Ev.ifp (by rw [hn];exact lt_app a r p) (Ev.ifp (by omega) (Ev.ifp (lt_app a r p) ?_))
  rw [rdPl,newPlaces_cons]
  unfold placeOk
  refine Ev.bindv (nameOk_pure p.f0) ?_
  cases h1:nameOk p.f0 with
  | false=>exact Ev.ifn (by simp) (last true)
  | true=>
   refine Ev.ifp rfl (Ev.bindv (in_pure _ _ _) ?_)
   by_cases h2:0≤p.f1∧p.f1≤3
   ·rw [decide_eq_true h2]
    refine Ev.ifp rfl (Ev.bindv (in_pure _ _ _) ?_)
    by_cases h3:1≤p.f2∧p.f2≤2
    ·rw [decide_eq_true h3]
     have e:=last false
     simpa [Bool.and_assoc] using e
    ·rw [decide_eq_false h3]
     exact last true
   ·rw [decide_eq_false h2]
    exact Ev.ifn (by simp) (last true)
theorem iprog_ev (p:Prog) (h:SmP p):Ev (fun k=>impl_PrgOk.f k p.f0 p.f1) (progOk p):=by
 unfold impl_PrgOk.f
 have e:=iplaces_ev p.f0 (fun c hc=>(h.2.2 c hc).2.1) h.1 p.f1 [] (p.f1.length:Int) rfl (by simpa using h.2.1)
 have:progOk p=(newPlaces [] p.f1 && restOk p.f0 ([]++p.f1)):=by
  unfold progOk restOk
  rw [List.nil_append]
  cases decide (p.f0.length≤12) <;> cases decide (p.f1.length≤6) <;> cases p.f0.all clauseOk <;> cases newPlaces [] p.f1 <;> rfl
 rw [this]
 exact e

/-! ### at which node -/
/-- at which node a name is called -/
def nodeOf (c:Cell):List Cat.Place→Int
 | []=>0
 | p :: r=>if p.f0.toList=c.f2.toList∧p.f1=c.f1 then p.f2 else nodeOf c r
def progNode (p:Prog) (t:List Cell):Int:=if progOk p=true∧called t=true then nodeOf (t.headD ⟨0,0,⟨#[]⟩⟩) p.f1 else -1
theorem snode_loop (cs:List Clause) (c:Cell) (l:List Cell):∀ (r a:List Cat.Place),a.length+r.length≤9223372036854775806→Ev (fun k=>spec_l3Node.l0 k (c :: l) ((a.length:Nat):Int) cs (a++r)) (nodeOf c r)
 | [],a,hb=>by
  refine Ev.step (f:=fun _=>some 0) (fun k=>?_) (Ev.now _)
  simp only [spec_l3Node.l0]
  rw [if_neg (not_lt_app a)]
 | p :: r,a,hb=>by
  rw [List.length_cons] at hb
  have I:=snode_loop cs c l r (a++[p]) (by rw [snoc_len];omega)
  rw [snoc_len,List.append_assoc,List.singleton_append] at I
  refine Ev.step (fun k=>rfl) ?_
  simp only [spec_l3Node.l0]
  refine Ev.ifp (lt_app a r p) (Ev.ifp (by omega) (Ev.ifp (by rw [List.length_cons];omega) ?_))
  rw [rdPl,wnext (by omega),nodeOf,show rd_T47 (c :: l) 0=c from rfl]
  by_cases h0:p.f0.toList=c.f2.toList
  ·refine Ev.ifp h0 ?_
   by_cases h1:p.f1=c.f1
   ·rw [if_pos ⟨h0,h1⟩];exact Ev.ifp h1 (Ev.now _)
   ·rw [if_neg (fun h=>h1 h.2)];exact Ev.ifn h1 I
  ·rw [if_neg (fun h=>h0 h.1)];exact Ev.ifn h0 I
theorem inode_loop (c:Cell) (l:List Cell):∀ (r a:List Cat.Place) (n:Int),n=((a++r).length:Int)→a.length+r.length≤9223372036854775806→Ev (fun k=>impl_PrgProg_node.l0 k (c :: l) (a++r) n ((a.length:Nat):Int)) (nodeOf c r)
 | [],a,n,hn,hb=>by
  refine Ev.step (f:=fun _=>some 0) (fun k=>?_) (Ev.now _)
  simp only [impl_PrgProg_node.l0]
  rw [hn,if_neg (not_lt_app a)]
 | p :: r,a,n,hn,hb=>by
  rw [List.length_cons] at hb
  have I:=inode_loop c l r (a++[p]) n (by rw [hn];simp) (by rw [snoc_len];omega)
  rw [snoc_len,List.append_assoc,List.singleton_append] at I
  refine Ev.step (fun k=>rfl) ?_
  simp only [impl_PrgProg_node.l0]
  refine Ev.ifp (by rw [hn];exact lt_app a r p) (Ev.ifp (by omega) (Ev.ifp (lt_app a r p) (Ev.ifp (by rw [List.length_cons];omega) ?_)))
  rw [rdPl,wnext (by omega),nodeOf,show rd_T47 (c :: l) 0=c from rfl]
  by_cases h0:p.f0.toList=c.f2.toList
  ·refine Ev.ifp h0 ?_
   by_cases h1:p.f1=c.f1
   ·rw [if_pos ⟨h0,h1⟩];exact Ev.ifp h1 (Ev.now _)
   ·rw [if_neg (fun h=>h1 h.2)];exact Ev.ifn h1 I
  ·rw [if_neg (fun h=>h0 h.1)];exact Ev.ifn h0 I
theorem snode_ev (p:Prog) (h:SmP p) (t:List Cell):Ev (fun k=>spec_PrgNode.f k p.f0 p.f1 t) (progNode p t):=by
 unfold spec_PrgNode.f progNode
 have no:Ev (fun k=>spec_PrgNode.j0 k t true p.f0 p.f1) (-1):=by
  refine Ev.step (fun k=>rfl) ?_
  simp only [spec_PrgNode.j0]
  exact Ev.ifp trivial (Ev.now _)
 refine Ev.bind (sprog_ev p h) ?_
 by_cases hp:progOk p=true
 ·refine Ev.ifp hp (Ev.bind (sok_ev t) ?_)
  unfold called
  by_cases ht:isTerm t=true
  ·refine Ev.ifp ht (Ev.bindv (l3call t) ?_)
   by_cases hf:isFun t=true
   ·rw [if_pos ⟨hp,by rw [ht,hf];rfl⟩,hf]
    cases t with
    | nil=>cases ht
    | cons c l=>
     refine Ev.step (fun k=>rfl) ?_
     simp only [spec_PrgNode.j0]
     refine Ev.ifn (by simp) (Ev.bind ?_ (Ev.now _))
     unfold spec_l3Node.f
     exact snode_loop p.f0 c l p.f1 [] (by have:=h.2.1;simp;omega)
   ·rw [if_neg (by rw [Bool.eq_false_iff.2 hf];simp),Bool.eq_false_iff.2 hf]
    exact no
  ·rw [if_neg (by rw [Bool.eq_false_iff.2 ht];simp)]
   exact Ev.ifn ht no
 ·rw [if_neg (fun q=>hp q.1)]
  exact Ev.ifn hp no
theorem inode_ev (p:Prog) (h:SmP p) (t:List Cell):Ev (fun k=>impl_PrgNode.f k p.f0 p.f1 t) (progNode p t):=by
 unfold impl_PrgNode.f progNode
 refine Ev.bind (iprog_ev p h) ?_
 by_cases hp:progOk p=true
 ·refine Ev.ifp hp (Ev.bindv (called_pure t) ?_)
  by_cases ht:called t=true
  ·rw [if_pos ⟨hp,ht⟩]
   refine Ev.ifp ht ?_
   cases t with
   | nil=>cases ht
   | cons c l=>
    refine Ev.bind ?_ (Ev.now _)
    unfold impl_PrgProg_node.f
    exact inode_loop c l p.f1 [] (p.f1.length:Int) rfl (by have:=h.2.1;simp;omega)
  ·rw [if_neg (fun q=>ht q.2)]
   exact Ev.ifn ht (Ev.now _)
 ·rw [if_neg (fun q=>hp q.1)]
  exact Ev.ifn hp (Ev.now _)
end Go.Proofs.YtepkgjcobocbpaaDoor.P
