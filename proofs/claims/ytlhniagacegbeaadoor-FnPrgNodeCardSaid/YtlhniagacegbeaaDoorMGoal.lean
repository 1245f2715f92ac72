/- What a goal may be: the program's GoalOk and the reference's answer the same. -/
import Derived.Test.YtlhniagacegbeaaDoorMTrm
import Derived.Test.YtlhniagacegbeaaDoorMLaw
import Derived.Test.YtlhniagacegbeaaDoorMInts0
import Derived.Test.YtlhniagacegbeaaDoorP5
import Derived.Test.YtlhniagacegbeaaDoorP1
import Derived.Test.YtlhniagacegbeaaDoorP1
namespace Go.Proofs.YtlhniagacegbeaaDoor.P
set_option linter.unusedVariables false
set_option linter.unusedSimpArgs false
open Go.RowKit Go.Proofs.YtlhniagacegbeaaDoor.Cat Go.Proofs.YtlhniagacegbeaaDoorW.PrintWords Go.Proofs.YtlhniagacegbeaaDoorW.PrintLast
theorem rdG (a r:List Cell) (c:Cell):rd_T44 (a++c :: r) ((a.length:Nat):Int)=c:=by simp [rd_T44,List.getD]
theorem belowB_cons (v:Int) (c:Cell) (r:List Cell):belowB v (c :: r)=(!(decide (c.f0=1) && decide (v≤c.f1)) && belowB v r):=by
 unfold belowB
 rw [List.any_cons,Bool.not_or]
theorem l3_loop:∀ (r a:List Cell),(a++r).length≤1099511627776→Ev (fun k=>spec_l3Term.l0 k (a++r) ((a.length:Nat):Int)) (belowB 8 r)
 | [],a,h=>by
  refine Ev.step (f:=fun _=>some true) (fun k=>?_) (Ev.now _)
  simp only [spec_l3Term.l0]
  rw [if_neg (not_lt_app a)]
 | c :: r,a,h=>by
  have ih:=l3_loop r (a++[c]) (by simpa using h)
  rw [snoc_len] at ih
  simp only [List.append_assoc,List.singleton_append] at ih
  have hl:a.length≤9223372036854775806:=by simp at h;omega
  refine Ev.step (fun k=>rfl) ?_
  simp only [spec_l3Term.l0]
  refine Ev.ifp (lt_app a r c) (Ev.ifp (by omega) ?_)
  rw [rdG,wnext hl,belowB_cons]
  by_cases h1:c.f0=1
  ·refine Ev.ifp h1 ?_
   by_cases h2:c.f1≥8
   ·rw [decide_eq_true h1,decide_eq_true h2]
    exact Ev.ifp h2 (Ev.now _)
   ·rw [decide_eq_true h1,decide_eq_false h2]
    exact Ev.ifn h2 ih
  ·rw [decide_eq_false h1]
   exact Ev.ifn h1 ih
def mayB (l:List Cell):Bool:=isTerm l && inCl l
theorem l3_ev (l:List Cell):Ev (fun k=>spec_l3Term.f k l) (mayB l):=by
 unfold spec_l3Term.f mayB
 refine Ev.bind (sok_ev l) ?_
 by_cases ht:isTerm l=true
 ·refine Ev.ifp ht ?_
  have hlen:l.length≤40:=(isTerm_iff.1 ht).2.1
  rw [ht,Bool.true_and]
  refine Ev.step (fun k=>rfl) ?_
  simp only [spec_l3Term.j0]
  unfold inCl
  by_cases h12:(l.length:Int) > 12
  ·rw [decide_eq_false (by omega:¬ l.length≤12)]
   exact Ev.ifp (by simpa using h12) (Ev.now _)
  ·rw [decide_eq_true (by omega:l.length≤12),Bool.true_and]
   exact Ev.ifn (by simpa using h12) (l3_loop l [] (by simp;omega))
 ·refine Ev.ifn ht ?_
  rw [Bool.eq_false_iff.2 ht,Bool.false_and]
  refine Ev.step (fun k=>rfl) ?_
  simp only [spec_l3Term.j0]
  exact Ev.ifp (by simp) (Ev.now _)
theorem l3call (l:List Cell):spec_l3Call.f l=some (isFun l):=by
 unfold spec_l3Call.f
 cases l with
 | nil=>rfl
 | cons c l=>
  rw [if_pos (by rw [List.length_cons];omega),if_pos (by rw [List.length_cons];omega)]
  show some (c.f0 == 3)=some (decide (c.f0=3))
  by_cases h:c.f0=3 <;> simp [h]
def goalB (k:Int) (a b c:List Cell):Bool:=if k=6 then false else shapeOk k a b c
theorem len0 (l:List Cell):((l.length:Int) == 0)=l.isEmpty:=by cases l <;> simp <;> omega
theorem isE (l:List Cell):l.isEmpty=decide (l.length=0):=by cases l <;> simp
theorem igoal (k:Int) (a b c:List Cell):impl_GoalOk.f k a b c=some (goalB k a b c):=by
 unfold impl_GoalOk.f goalB
 by_cases h:k=6
 ·rw [if_pos h,if_pos h]
 ·rw [if_neg h,if_neg h];rfl
theorem sgoal_ev (k:Int) (a b c:List Cell) (ha:a.length≤1048576) (hb:b.length≤1048576) (hc:c.length≤1048576):Ev (fun n=>spec_GoalOk.f n k a b c) (goalB k a b c):=by
 unfold spec_GoalOk.f goalB shapeOk
 simp only [len0]
 by_cases h1:k=1
 ·subst h1
  refine Ev.ifp rfl ?_
  rw [if_neg (by decide),if_pos (.inl rfl)]
  refine Ev.bind (l3_ev a) ?_
  unfold mayB called
  by_cases ht:(isTerm a && inCl a)=true
  ·refine Ev.ifp ht (Ev.bindv (l3call a) ?_)
   simp only [Bool.and_eq_true] at ht
   by_cases hf:isFun a=true
   ·refine Ev.ifp hf (Ev.pure ?_)
    rw [ht.1,ht.2,hf,w64 (by omega) (by omega),isE,isE,← Bool.decide_and]
    simp only [Bool.and_self,Bool.true_and]
    by_cases hz:b.length=0∧c.length=0
    ·rw [decide_eq_true hz,hz.1,hz.2];rfl
    ·rw [decide_eq_false hz]
     exact beq_eq_false_iff_ne.2 (by omega)
   ·refine Ev.ifn hf (Ev.pure ?_)
    rw [Bool.eq_false_iff.2 hf]
    simp
  ·refine Ev.ifn ht (Ev.pure ?_)
   cases h2:isTerm a <;> cases h3:inCl a <;> simp_all
 ·refine Ev.ifn h1 ?_
  by_cases h3:k=3
  ·subst h3
   refine Ev.ifp rfl (Ev.pure ?_)
   rw [if_neg (by decide),if_neg (by decide),if_neg (by decide),if_neg (by decide),if_pos rfl,w64 (x:=(a.length:Int)+(b.length:Int)) (by omega) (by omega),w64 (by omega) (by omega),isE,isE,isE,← Bool.decide_and,← Bool.decide_and]
   by_cases hz:a.length=0∧b.length=0∧c.length=0
   ·rw [decide_eq_true hz,hz.1,hz.2.1,hz.2.2];rfl
   ·rw [decide_eq_false hz]
    exact beq_eq_false_iff_ne.2 (by omega)
  ·refine Ev.ifn h3 ?_
   have two:(k=2∨k=4)→Ev (fun n=>spec_GoalOk.j0 n k true k a b c) (if k=6 then false else
     if k=1∨k=6 then (called a && inCl a) && (b.isEmpty && c.isEmpty)
     else if k=2∨k=4 then (isTerm a && inCl a) && ((isTerm b && inCl b) && c.isEmpty)
     else if k=5 then (isTerm a && inCl a) && ((isTerm b && inCl b) && (isTerm c && inCl c))
     else if k=3 then a.isEmpty && (b.isEmpty && c.isEmpty) else false):=by
    intro h24
    rw [if_neg (by omega),if_neg (by omega),if_pos h24]
    refine Ev.step (fun k=>rfl) ?_
    simp only [spec_GoalOk.j0]
    refine Ev.ifp (by simp) (Ev.bind (l3_ev a) ?_)
    show Ev _ (mayB a && (mayB b && _))
    cases h4:mayB a with
    | false=>exact Ev.ifn (by simp) (Ev.now _)
    | true=>
     refine Ev.ifp rfl (Ev.bind (l3_ev b) ?_)
     cases h5:mayB b with
     | false=>exact Ev.ifn (by simp) (Ev.now _)
     | true=>exact Ev.ifp rfl (Ev.pure (by simp [len0]))
   by_cases h2:k=2
   ·refine Ev.ifp h2 ?_
    rw [show (k == 2)=true by simpa using h2]
    exact two (.inl h2)
   ·refine Ev.ifn h2 ?_
    by_cases h4:k=4
    ·rw [show (k == 4)=true by simpa using h4]
     exact two (.inr h4)
    ·rw [show (k == 4)=false by simpa using h4]
     refine Ev.step (fun k=>rfl) ?_
     simp only [spec_GoalOk.j0]
     refine Ev.ifn (by simp) ?_
     by_cases h5:k=5
     ·subst h5
      refine Ev.ifp rfl (Ev.bind (l3_ev a) ?_)
      rw [if_neg (by decide),if_neg (by decide),if_neg (by decide),if_pos rfl]
      show Ev _ (mayB a && (mayB b && mayB c))
      cases h4:mayB a with
      | false=>exact Ev.ifn (by simp) (Ev.now _)
      | true=>
       refine Ev.ifp rfl (Ev.bind (l3_ev b) ?_)
       cases h5:mayB b with
       | false=>exact Ev.ifn (by simp) (Ev.now _)
       | true=>
        refine Ev.ifp rfl (Ev.bind (l3_ev c) ?_)
        exact Ev.pure (by simp)
     ·refine Ev.ifn h5 (Ev.pure ?_)
      by_cases h6:k=6
      ·rw [if_pos h6]
      ·rw [if_neg h6,if_neg (by omega),if_neg (by omega),if_neg h5,if_neg h3]
end Go.Proofs.YtlhniagacegbeaaDoor.P
