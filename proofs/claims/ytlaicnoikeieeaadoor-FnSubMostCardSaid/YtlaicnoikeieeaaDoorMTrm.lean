/- What the program's and the reference's functions on terms answer. -/
import Derived.Test.YtlaicnoikeieeaaDoorMBase
import Derived.Test.YtlaicnoikeieeaaDoorP8
import Derived.Test.YtlaicnoikeieeaaDoorP8
import Derived.Test.YtlaicnoikeieeaaDoorP7
import Derived.Test.YtlaicnoikeieeaaDoorP2
namespace Go.Proofs.YtlaicnoikeieeaaDoor.P
set_option linter.unusedVariables false
set_option linter.unusedSimpArgs false
open Go.RowKit Go.Proofs.YtlaicnoikeieeaaDoor.Cat Go.Proofs.YtlaicnoikeieeaaDoorW.PrintWords Go.Proofs.YtlaicnoikeieeaaDoorW.PrintLast

/-- where a number of terms end, that begin with what is left of places; -1, if they do not -/
def endAt (l:List Cell) (m:Nat) (r:List Cell):Int:=match skip m r with
 | some s=>((l.length - s.length:Nat):Int)
 | none=>-1

theorem end_loop:∀ (r a:List Cell) (m:Nat),(a++r).length≤1099511627776→okl (a++r)→m≤1+3 * a.length→
  Ev (fun k=>spec_l1End.l0 k (a++r) (m:Int) ((a.length:Nat):Int)) (endAt (a++r) m r):=by
 intro r
 induction r with
 | nil=>
  intro a m hl ho hm
  refine Ev.step (fun k=>rfl) ?_
  simp only [spec_l1End.l0]
  unfold endAt
  cases m with
  | zero=>
   rw [skip_zero]
   exact Ev.ifn (by omega) (Ev.pure (by simp))
  | succ n=>
   rw [skip_nil]
   refine Ev.ifp (by omega) (Ev.ifn (by omega) (Ev.step (fun k=>rfl) ?_))
   simp only [spec_l1End.j1]
   exact Ev.ifp (by simp) (Ev.now _)
 | cons c r ih=>
  intro a m hl ho hm
  refine Ev.step (fun k=>rfl) ?_
  simp only [spec_l1End.l0]
  cases m with
  | zero=>
   unfold endAt
   rw [skip_zero]
   exact Ev.ifn (by omega) (Ev.pure (by simp))
  | succ n=>
   have hll:a.length+(r.length+1)≤1099511627776:=by simpa using hl
   have hc:cellOk c=true:=ho c (by simp)
   obtain ⟨h1,h2⟩:=cellOk_ar hc
   have e:(a++[c])++r=a++c :: r:=by simp
   have I:=ih (a++[c]) (n+ar c) (by rw [e];exact hl) (by rw [e];exact ho) (by simp;omega)
   have E:endAt (a++c :: r) (n+1) (c :: r)=endAt (a++c :: r) (n+ar c) r:=by unfold endAt;rw [skip_cons]
   rw [e,snoc_len] at I
   rw [E]
   have hlt:=lt_app a r c
   refine Ev.ifp (by omega) (Ev.ifn (by omega) (Ev.step (fun k=>rfl) ?_))
   simp only [spec_l1End.j1]
   refine Ev.ifn (by rw [decide_eq_false (by omega)];simp) (Ev.ifp (by omega) (Ev.ifp hlt ?_))
   rw [rdC,wnext (by omega)]
   have e1:wrap64 (((n+1:Nat):Int) - 1)=(n:Int):=by rw [w64 (by omega) (by omega)];omega
   rw [e1]
   by_cases h3:c.f0=3
   ·refine Ev.ifp h3 ?_
    rw [if_pos h3] at h1
    rw [Option.some.inj h1,w64 (by omega) (by omega)]
    exact I
   ·refine Ev.ifn h3 ?_
    rw [if_neg h3] at h1
    have h0:ar c=0:=by have:=Option.some.inj h1;omega
    rw [h0] at I ⊢
    exact I

theorem end_ev (l:List Cell) (a r:List Cell) (h:l=a++r) (hl:l.length≤1099511627776) (ho:okl l):Ev (fun k=>spec_l1End.f k l ((a.length:Nat):Int)) (endAt l 1 r):=by
 subst h
 unfold spec_l1End.f
 exact end_loop r a 1 hl ho (by omega)

theorem iok (l:List Cell):impl_TrmOk.f l=some (isTerm l):=rfl

theorem isTerm_iff {l:List Cell}:isTerm l=true↔1≤l.length∧l.length≤40∧okl l∧Forest 1 l:=by
 unfold isTerm Forest okl
 simp only [Bool.and_eq_true,decide_eq_true_eq,List.all_eq_true]
 constructor
 ·rintro ⟨⟨a,b⟩,c,d⟩;exact ⟨a,b,c,d⟩
 ·rintro ⟨a,b,c,d⟩;exact ⟨⟨a,b⟩,c,d⟩
end Go.Proofs.YtlaicnoikeieeaaDoor.P
