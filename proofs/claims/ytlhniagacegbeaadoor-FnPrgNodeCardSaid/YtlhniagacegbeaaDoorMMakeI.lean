/- A name with arguments: what the program answers. -/
import Derived.Test.YtlhniagacegbeaaDoorMMakeS
import Derived.Test.YtlhniagacegbeaaDoorP6
namespace Go.Proofs.YtlhniagacegbeaaDoor.P
set_option linter.unusedVariables false
set_option linter.unusedSimpArgs false
open Go.RowKit Go.Proofs.YtlhniagacegbeaaDoor.Cat Go.Proofs.YtlhniagacegbeaaDoorW.PrintWords Go.Proofs.YtlhniagacegbeaaDoorW.PrintLast
theorem make_impl (s:ByteArray):∀ (r a:List (List Cell)) (m:Int),m=((a++r).length:Int)→(∀ x ∈ a,isTerm x=true)→a.length+r.length≤1048576→a.flatten.length≤40 * a.length→
  Ev (fun k=>impl_TrmMake.l0 k (⟨3,((a++r).length:Int),s⟩ :: a.flatten) (a++r) m ((a.length:Nat):Int)) (makeOf s (a++r)):=by
 intro r
 induction r with
 | nil=>
  intro a m hm ha hl hf
  refine Ev.step (fun k=>rfl) ?_
  simp only [impl_TrmMake.l0]
  have hall:(a++[]).all isTerm=true:=by rw [List.append_nil,List.all_eq_true];exact ha
  have e:fnc s (a++[])=⟨3,((a++[]).length:Int),s⟩ :: a.flatten:=by unfold fnc;rw [List.append_nil]
  refine Ev.ifn (by rw [hm];exact not_lt_app a) (Ev.bindv (iok _) ?_)
  rw [← e]
  by_cases h:isTerm (fnc s (a++[]))=true
  ·exact Ev.ifp h (Ev.pure (by unfold makeOf;rw [if_pos ⟨hall,h⟩]))
  ·exact Ev.ifn h (Ev.pure (by unfold makeOf;rw [if_neg (fun e=>h e.2)]))
 | cons c r ih=>
  intro a m hm ha hl hf
  simp only [List.length_cons] at hl
  refine Ev.step (fun k=>rfl) ?_
  simp only [impl_TrmMake.l0]
  refine Ev.ifp (by rw [hm];exact lt_app a r c) (Ev.ifp (by omega) (Ev.ifp (lt_app a r c) ?_))
  rw [rdL]
  refine Ev.bindv (iok c) ?_
  by_cases h:isTerm c=true
  ·have h40:=(isTerm_iff.1 h).2.1
   refine Ev.ifp h (Ev.ifp (by simp only [List.length_cons];omega) ?_)
   rw [wnext (by omega)]
   have e:(a++[c])++r=a++c :: r:=by simp
   have I:=ih (a++[c]) m (by rw [e];exact hm) (by
    intro x hx
    rcases List.mem_append.1 hx with h'|h'
    ·exact ha x h'
    ·rw [List.mem_singleton.1 h'];exact h) (by simp;omega) (by simp only [List.flatten_append,List.length_append,List.flatten_cons,List.flatten_nil,List.length_cons,List.length_nil];omega)
   rw [e,snoc_len] at I
   simpa using I
  ·refine Ev.ifn h (Ev.pure ?_)
   unfold makeOf
   rw [if_neg]
   rintro ⟨e,_⟩
   exact h (List.all_eq_true.1 e c (by simp))
theorem imake_ev (s:ByteArray) (gs:List (List Cell)) (h:gs.length≤1048576):Ev (fun k=>impl_TrmMake.f k s gs) (makeOf s gs):=by
 unfold impl_TrmMake.f
 have I:=make_impl s gs [] (gs.length:Int) (by simp) (by simp) (by simpa using h) (by simp)
 simpa using I
end Go.Proofs.YtlhniagacegbeaaDoor.P
