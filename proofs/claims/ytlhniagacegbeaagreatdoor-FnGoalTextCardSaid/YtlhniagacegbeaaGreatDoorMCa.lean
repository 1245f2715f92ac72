/- The laws' own comparisons. -/
import Derived.Test.YtlhniagacegbeaaGreatDoorMTrm
import Derived.Test.YtlhniagacegbeaaGreatDoorMFree
import Derived.Test.YtlhniagacegbeaaGreatDoorP7
import Derived.Test.YtlhniagacegbeaaGreatDoorP7
namespace Go.Proofs.YtlhniagacegbeaaGreatDoor.P
set_option linter.unusedVariables false
set_option linter.unusedSimpArgs false
open Go.RowKit Go.Proofs.YtlhniagacegbeaaGreatDoor.Cat Go.Proofs.YtlhniagacegbeaaGreatDoorW.PrintWords Go.Proofs.YtlhniagacegbeaaGreatDoorW.PrintLast

theorem ne_cells (c d:Cell):((!(c.f0 == d.f0) || (!(c.f1 == d.f1) || (!((c.f2.toList) == (d.f2.toList)))))=true)↔c≠d:=by
 rw [Ne,← decide_eq_true_iff (p:=c=d)]
 by_cases h:c=d
 ·subst h;simp
 ·simp only [h,decide_false]
  constructor
  ·intro _;simp
  ·intro _
   by_cases h0:c.f0=d.f0
   ·by_cases h1:c.f1=d.f1
    ·by_cases h2:c.f2.toList=d.f2.toList
     ·exact absurd (Cell.ext' h0 h1 (ba_ext (by rw [← Lib.toList_data,← Lib.toList_data];exact h2))) h
     ·simp [h2]
    ·simp [h1]
   ·simp [h0]

theorem ca_loop:∀ (r s a b:List Cell),a.length=b.length→r.length=s.length→a.length+r.length≤9223372036854775806→
  Ev (fun k=>laws_caTerm.l0 k (a++r) (b++s) ((a.length:Nat):Int)) (decide (r=s)):=by
 intro r
 induction r with
 | nil=>
  intro s a b hab hrs hl
  obtain rfl:s=[]:=by cases s with|nil=>rfl|cons _ _=>simp at hrs
  refine Ev.step (fun k=>rfl) ?_
  simp only [laws_caTerm.l0]
  exact Ev.ifn (not_lt_app a) (Ev.pure (by simp))
 | cons c r ih=>
  intro s a b hab hrs hl
  cases s with
  | nil=>simp at hrs
  | cons d s=>
   simp only [List.length_cons] at hl hrs
   refine Ev.step (fun k=>rfl) ?_
   simp only [laws_caTerm.l0]
   refine Ev.ifp (lt_app a r c) (Ev.ifp (by omega) (Ev.ifp (by rw [hab];exact lt_app b s d) ?_))
   have e2:rd_T63 (b++d :: s) ((a.length:Nat):Int)=d:=by rw [hab];exact rdC b s d
   rw [rdC,e2,wnext (by omega)]
   by_cases h:c=d
   ·subst h
    refine Ev.ifn (fun e=>(ne_cells c c).1 e rfl) ?_
    have I:=ih s (a++[c]) (b++[c]) (by simp [hab]) (by omega) (by simp;omega)
    rw [snoc_len] at I
    simpa using I
   ·refine Ev.ifp ((ne_cells c d).2 h) (Ev.pure ?_)
    simp [h]

theorem caTerm_ev (l m:List Cell) (h:l.length≤1099511627776):Ev (fun k=>laws_caTerm.f k l m) (decide (l=m)):=by
 unfold laws_caTerm.f
 by_cases hl:l.length=m.length
 ·refine Ev.ifp (by omega) ?_
  have I:=ca_loop l m [] [] rfl hl (by simp;omega)
  simpa using I
 ·refine Ev.ifn (by omega) (Ev.pure ?_)
  rw [decide_eq_false]
  rintro rfl
  exact hl rfl

theorem caOk_ok:laws_caOk.f=some true:=by
 have h:isTerm [(⟨2,1,⟨#[]⟩⟩:Cell)]=true:=by decide
 unfold laws_caOk.f
 rw [iok,h]
 rfl
end Go.Proofs.YtlhniagacegbeaaGreatDoor.P
