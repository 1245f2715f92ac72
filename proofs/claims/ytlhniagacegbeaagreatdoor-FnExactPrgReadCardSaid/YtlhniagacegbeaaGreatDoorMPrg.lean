/- What a program may be, and at which node a term is called: the program's and the reference's answers; copies, sizes, equality of programs. -/
import Derived.Test.YtlhniagacegbeaaGreatDoorMTrm
import Derived.Test.YtlhniagacegbeaaGreatDoorMLaw
import Derived.Test.YtlhniagacegbeaaGreatDoorMInts0
import Derived.Test.YtlhniagacegbeaaGreatDoorMGoal
import Derived.Test.YtlhniagacegbeaaGreatDoorP6
import Derived.Test.YtlhniagacegbeaaGreatDoorP6
namespace Go.Proofs.YtlhniagacegbeaaGreatDoor.P
set_option linter.unusedVariables false
set_option linter.unusedSimpArgs false
open Go.RowKit Go.Proofs.YtlhniagacegbeaaGreatDoor.Cat Go.Proofs.YtlhniagacegbeaaGreatDoorW.PrintWords Go.Proofs.YtlhniagacegbeaaGreatDoorW.PrintLast

/-! ### rounds over a list, told once -/
theorem eq_gen {α:Type} [DecidableEq α] (rdf:List α→Int→α) (hrd:∀ (a r:List α) (c:α),rdf (a++c :: r) ((a.length:Nat):Int)=c) (l0:Nat→List α→List α→Int→Option Bool) (g:Nat→α→α→Option Bool) (P:α→Prop)
  (hl:∀ k x0 x1 x5,l0 (k+1) x0 x1 x5=if x5<(x0.length:Int) then (if 0≤x5 then (if x5<(x1.length:Int) then ((g k (rdf x0 x5) (rdf x1 x5)).bind fun t=>(if t=true then (l0 k x0 x1 (wrap64 (x5+1))) else (some false))) else none) else none) else some true)
  (hg:∀ c d,P c→Ev (fun k=>g k c d) (decide (c=d))) :
  ∀ (r s a b:List α),a.length=b.length→r.length=s.length→(∀ c ∈ r,P c)→a.length+r.length≤9223372036854775806→Ev (fun k=>l0 k (a++r) (b++s) ((a.length:Nat):Int)) (decide (r=s))
 | [],s,a,b,hab,hrs,hp,hb=>by
  obtain rfl:s=[]:=by simpa using hrs.symm
  refine Ev.step (f:=fun _=>some true) (fun k=>?_) (Ev.now _)
  rw [hl,if_neg (not_lt_app a)]
 | c :: r,[],a,b,hab,hrs,hp,hb=>by cases hrs
 | c :: r,d :: s,a,b,hab,hrs,hp,hb=>by
  rw [List.length_cons] at hb
  have e:=hg c d (hp c (by simp))
  refine Ev.step (fun k=>hl k _ _ _) (Ev.ifp (lt_app a r c) (Ev.ifp (by omega) (Ev.ifp (by rw [hab];exact lt_app b s d) ?_)))
  have e2:rdf (b++d :: s) ((a.length:Nat):Int)=d:=by rw [hab];exact hrd b s d
  rw [hrd,e2]
  refine Ev.bind e ?_
  by_cases h:c=d
  ·subst h
   have ih:=eq_gen rdf hrd l0 g P hl hg r s (a++[c]) (b++[c]) (by rw [snoc_len,snoc_len,hab]) (by simpa using hrs) (fun c hc=>hp c (by simp [hc])) (by rw [snoc_len];omega)
   rw [snoc_len,List.append_assoc,List.append_assoc,List.singleton_append,List.singleton_append] at ih
   refine Ev.ifp (by simp) ?_
   rw [wnext (by omega),show decide (c :: r=c :: s)=decide (r=s) by simp]
   exact ih
  ·refine Ev.ifn (by simpa using h) (Ev.pure ?_)
   simp [h]

/-- the first one of which something holds -/
theorem first_gen {α:Type} (rdf:List α→Int→α) (hrd:∀ (a r:List α) (c:α),rdf (a++c :: r) ((a.length:Nat):Int)=c) (l0:Nat→List α→Int→Int→Option Int) (g:Nat→α→Option Bool) (p:α→Bool) (P:α→Prop)
  (hl:∀ k x0 x7 x8,l0 (k+1) x0 x7 x8=if x8<x7 then (if 0≤x8 then (if x8<(x0.length:Int) then ((g k (rdf x0 x8)).bind fun t=>(if t=true then (some x8) else (l0 k x0 x7 (wrap64 (x8+1))))) else none) else none) else some (-1))
  (hg:∀ c,P c→Ev (fun k=>g k c) (p c)) :
  ∀ (r a:List α) (n:Int),n=((a++r).length:Int)→(∀ c ∈ r,P c)→a.length+r.length≤9223372036854775806→∃ q,Ev (fun k=>l0 k (a++r) n ((a.length:Nat):Int)) q∧decide (q≥0)=r.any p
 | [],a,n,hn,hp,hb=>by
  refine ⟨-1,Ev.step (f:=fun _=>some (-1)) (fun k=>?_) (Ev.now _),rfl⟩
  rw [hl,hn,if_neg (not_lt_app a)]
 | c :: r,a,n,hn,hp,hb=>by
  rw [List.length_cons] at hb
  have e:=hg c (hp c (by simp))
  cases hc:p c with
  | true=>
   refine ⟨(a.length:Int),Ev.step (fun k=>hl k _ _ _) (Ev.ifp (by rw [hn];exact lt_app a r c) (Ev.ifp (by omega) (Ev.ifp (lt_app a r c) ?_))),?_⟩
   ·rw [hrd]
    exact Ev.bind e (Ev.ifp hc (Ev.now _))
   ·rw [List.any_cons,hc,decide_eq_true (by omega)];rfl
  | false=>
   obtain ⟨q,e',hq⟩:=first_gen rdf hrd l0 g p P hl hg r (a++[c]) n (by rw [hn];simp) (fun c hc=>hp c (by simp [hc])) (by rw [snoc_len];omega)
   rw [snoc_len,List.append_assoc,List.singleton_append] at e'
   refine ⟨q,Ev.step (fun k=>hl k _ _ _) (Ev.ifp (by rw [hn];exact lt_app a r c) (Ev.ifp (by omega) (Ev.ifp (lt_app a r c) ?_))),by rw [hq,List.any_cons,hc,Bool.false_or]⟩
   rw [hrd]
   refine Ev.bind e (Ev.ifn (by rw [hc];simp) ?_)
   rw [wnext (by omega)]
   exact e'

/-! ### words -/
theorem rdGo (a r:List Goal) (c:Goal):rd_T24 (a++c :: r) ((a.length:Nat):Int)=c:=by simp [rd_T24,List.getD]
def mG (g:Goal):Nat:=g.f1.length+g.f2.length+g.f3.length
def mGs (l:List Goal):Nat:=l.length+(l.map mG).sum
def mC (c:Clause):Nat:=c.f0.length+mGs c.f1
/-- small -/
def SmG (g:Goal):Prop:=g.f1.length≤1048576∧g.f2.length≤1048576∧g.f3.length≤1048576
def SmC (c:Clause):Prop:=c.f0.length≤1048576∧c.f1.length≤1048576∧∀ g ∈ c.f1,SmG g
/-! ### sizes -/
/-! ### equality -/
theorem Goal.eq_iff (g h:Goal):g=h↔g.f0=h.f0∧g.f1=h.f1∧g.f2=h.f2∧g.f3=h.f3:=by
 cases g;cases h;simp
theorem Clause.eq_iff (g h:Clause):g=h↔g.f0=h.f0∧g.f1=h.f1:=by
 cases g;cases h;simp
theorem Place.eq_iff (g h:Cat.Place):g=h↔g.f0=h.f0∧g.f1=h.f1∧g.f2=h.f2:=by
 cases g;cases h;simp
noncomputable instance:DecidableEq Goal:=fun _ _=>Classical.propDecidable _
noncomputable instance:DecidableEq Clause:=fun _ _=>Classical.propDecidable _
noncomputable instance:DecidableEq Cat.Place:=fun _ _=>Classical.propDecidable _
theorem eqGs_ev (l m:List Goal) (hl:l.length≤1048576) (hp:∀ g ∈ l,SmG g):Ev (fun k=>laws_eqPrgGoalS.f k l m) (decide (l=m)):=by
 unfold laws_eqPrgGoalS.f
 by_cases h:l.length=m.length
 ·refine Ev.ifp (by omega) ?_
  exact eq_gen rd_T24 rdGo laws_eqPrgGoalS.l0 (fun k g h=>laws_eqPrgGoal.f k g.f0 g.f1 g.f2 g.f3 h.f0 h.f1 h.f2 h.f3) SmG (fun k x0 x1 x5=>rfl)
   (fun c d hc=>by
    have:=eqG_ev c.f0 c.f1 c.f2 c.f3 d.f0 d.f1 d.f2 d.f3 hc.1 hc.2.1 hc.2.2
    rwa [show decide (c.f0=d.f0∧c.f1=d.f1∧c.f2=d.f2∧c.f3=d.f3)=decide (c=d) by simp only [Goal.eq_iff]] at this) l m [] [] rfl h hp (by simp;omega)
 ·refine Ev.ifn (by omega) (Ev.pure ?_)
  rw [decide_eq_false (fun e=>h (by rw [e]))]
theorem eqC_ev (c d:Clause) (h:SmC c):Ev (fun k=>laws_eqPrgClause.f k c.f0 c.f1 d.f0 d.f1) (decide (c=d)):=by
 unfold laws_eqPrgClause.f
 refine Ev.bind (eq_ev c.f0 d.f0 h.1) ?_
 by_cases h1:c.f0=d.f0
 ·refine Ev.ifp (by simpa using h1) (Ev.bind (eqGs_ev c.f1 d.f1 h.2.1 h.2.2) ?_)
  by_cases h2:c.f1=d.f1
  ·exact Ev.ifp (by simpa using h2) (Ev.pure (by rw [decide_eq_true ((Clause.eq_iff c d).2 ⟨h1,h2⟩)]))
  ·exact Ev.ifn (by simpa using h2) (Ev.pure (by rw [decide_eq_false (fun e=>h2 ((Clause.eq_iff c d).1 e).2)]))
 ·exact Ev.ifn (by simpa using h1) (Ev.pure (by rw [decide_eq_false (fun e=>h1 ((Clause.eq_iff c d).1 e).1)]))
/-! ### what a clause, a place, a program may be -/
theorem goalB_ok (g:Goal):goalB g.f0 g.f1 g.f2 g.f3=goalOk g:=by
 unfold goalB goalOk shapeOk
 simp only [len0]
 by_cases h6:g.f0=6
 ·rw [if_pos h6,if_neg (by omega),if_neg (by omega),if_neg (by omega),if_neg (by omega)]
 ·rw [if_neg h6]
  by_cases h1:g.f0=1
  ·rw [if_pos (.inl h1),if_pos h1]
  ·rw [if_neg (by omega),if_neg h1]
theorem sclause_ev (c:Clause) (h:SmC c):Ev (fun k=>spec_l3Clause.f k c.f0 c.f1) (clauseOk c):=by
 have loop:∀ (r a:List Goal),(∀ g ∈ r,SmG g)→a.length+r.length≤9223372036854775806→Ev (fun k=>spec_l3Clause.l0 k ((a.length:Nat):Int) c.f0 (a++r)) (r.all goalOk):=by
  intro r
  induction r with
  | nil=>
   intro a _ _
   refine Ev.step (f:=fun _=>some true) (fun k=>?_) (Ev.now _)
   simp only [spec_l3Clause.l0]
   rw [if_neg (not_lt_app a)]
  | cons g r ih=>
   intro a hs hb
   rw [List.length_cons] at hb
   have I:=ih (a++[g]) (fun g hg=>hs g (by simp [hg])) (by rw [snoc_len];omega)
   rw [snoc_len,List.append_assoc,List.singleton_append] at I
   have hg:=hs g (by simp)
   refine Ev.step (fun k=>rfl) ?_
   simp only [spec_l3Clause.l0]
   refine Ev.ifp (lt_app a r g) (Ev.ifp (by omega) ?_)
   rw [rdGo]
   refine Ev.bind (sgoal_ev g.f0 g.f1 g.f2 g.f3 hg.1 hg.2.1 hg.2.2) ?_
   rw [goalB_ok,List.all_cons,wnext (by omega)]
   cases hq:goalOk g with
   | true=>exact Ev.ifp rfl I
   | false=>exact Ev.ifn (by simp) (Ev.now _)
 unfold spec_l3Clause.f clauseOk
 refine Ev.bind (l3_ev c.f0) ?_
 unfold mayB called
 have last:∀ b:Bool,Ev (fun k=>spec_l3Clause.j0 k b c.f0 c.f1) (!b && c.f1.all goalOk):=fun b=>by
  refine Ev.step (fun k=>rfl) ?_
  simp only [spec_l3Clause.j0]
  cases b with
  | true=>exact Ev.ifp rfl (Ev.now _)
  | false=>exact Ev.ifn (by simp) (loop c.f1 [] h.2.2 (by have:=h.2.1;simp;omega))
 by_cases ht:(isTerm c.f0 && inCl c.f0)=true
 ·refine Ev.ifp ht (Ev.bindv (l3call c.f0) ?_)
  simp only [Bool.and_eq_true] at ht
  rw [ht.1,ht.2,Bool.true_and,Bool.true_and]
  cases hf:isFun c.f0 with
  | true=>
   refine Ev.ifp rfl ?_
   have e:=last (decide ((c.f1.length:Int) > 4))
   rw [show (!decide ((c.f1.length:Int) > 4))=decide (c.f1.length≤4) by rw [← decide_not];congr 1;rw [eq_iff_iff];omega] at e
   exact e
  | false=>
   refine Ev.ifn (by simp) ?_
   exact last true
 ·refine Ev.ifn ht ?_
  have e:=last true
  have:(isTerm c.f0 && isFun c.f0 && (inCl c.f0 && (decide (c.f1.length≤4) && c.f1.all goalOk)))=false:=by
   cases h2:isTerm c.f0 <;> cases h3:inCl c.f0 <;> simp_all
  rw [this]
  exact e
theorem iclause_ev (c:Clause) (h:c.f1.length≤1048576):Ev (fun k=>impl_clauseOk.f k c.f0 c.f1) (clauseOk c):=by
 unfold impl_clauseOk.f clauseOk
 refine Ev.bindv (called_pure c.f0) ?_
 cases h1:called c.f0 with
 | false=>exact Ev.ifn (by simp) (Ev.now _)
 | true=>
  refine Ev.ifp rfl (Ev.bindv (inClause_pure c.f0) ?_)
  cases h2:inCl c.f0 with
  | false=>exact Ev.ifn (by simp) (Ev.now _)
  | true=>
   refine Ev.ifp rfl ?_
   by_cases h3:(c.f1.length:Int)≤4
   ·rw [decide_eq_true (by omega:c.f1.length≤4)]
    refine Ev.ifp h3 ?_
    obtain ⟨q,e,hq⟩:=first_gen rd_T24 rdGo slices_IndexFunc_PrgGoal.l0 (fun k g=>impl_clauseOk_1.f g.f0 g.f1 g.f2 g.f3) (fun g=>!goalOk g) (fun _=>True) (fun k x0 x7 x8=>rfl)
     (fun g _=>Ev.all (fun _=>by unfold impl_clauseOk_1.f;rw [igoal,goalB_ok];rfl)) c.f1 [] (c.f1.length:Int) rfl (fun _ _=>trivial) (by simp;omega)
    unfold slices_ContainsFunc_PrgGoal.f
    refine Ev.bind (Ev.bind e (Ev.now _)) (Ev.pure ?_)
    rw [hq,List.all_eq_not_any_not]
    rfl
   ·rw [decide_eq_false (by omega:¬ c.f1.length≤4)]
    exact Ev.ifn h3 (Ev.now _)
/-! ### at which node -/
end Go.Proofs.YtlhniagacegbeaaGreatDoor.P
