/- Variables of places, by the reference and by the program: frees; canon; the same. -/
import Derived.Test.YtlaicnoikeieeaaDoorP3
import Derived.Test.YtlaicnoikeieeaaDoorP5
import Derived.Test.YtlaicnoikeieeaaDoorMBase
namespace Go.Proofs.YtlaicnoikeieeaaDoor.P
set_option linter.unusedVariables false
set_option linter.unusedSimpArgs false
open Go.RowKit Go.Proofs.YtlaicnoikeieeaaDoor.Cat Go.Proofs.YtlaicnoikeieeaaDoorW.PrintWords Go.Proofs.YtlaicnoikeieeaaDoorW.PrintLast

theorem rdI (a r:List Int) (c:Int):rd (a++c :: r) ((a.length:Nat):Int)=c:=by simp [rd,List.getD]

theorem has_loop (v:Int):∀ (r a:List Int),a.length+r.length≤9223372036854775806→Ev (fun k=>spec_l1Has.l0 k (a++r) v ((a.length:Nat):Int)) (decide (v ∈ r))
 | [],a,hl=>by
  refine Ev.step (f:=fun _=>some false) (fun k=>?_) (by simpa using Ev.now false)
  simp only [spec_l1Has.l0]
  rw [if_neg (not_lt_app a)]
 | c :: r,a,hl=>by
  have e:∀ k,spec_l1Has.l0 (k+1) (a++c :: r) v ((a.length:Nat):Int)=if c=v then some true else spec_l1Has.l0 k (a++c :: r) v ((a.length+1:Nat):Int):=by
   intro k
   simp only [spec_l1Has.l0]
   rw [if_pos (lt_app a r c),if_pos (by omega),rdI,wnext (by simp at hl;omega)]
  by_cases h:c=v
  ·subst h
   refine Ev.step (f:=fun _=>some true) (fun k=>?_) (by simpa using Ev.now true)
   rw [e,if_pos rfl]
  ·have ih:=has_loop v r (a++[c]) (by simp at hl ⊢;omega)
   rw [snoc_len] at ih
   simp only [List.append_assoc,List.singleton_append] at ih
   have h':v≠c:=fun x=>h x.symm
   have e2:decide (v ∈ c :: r)=decide (v ∈ r):=by simp [h']
   rw [e2]
   refine Ev.step (fun k=>?_) ih
   rw [e,if_neg h]

theorem has_ev (l:List Int) (v:Int) (h:l.length≤1099511627776):Ev (fun k=>spec_l1Has.f k l v) (decide (v ∈ l)):=by
 refine Ev.congr (fun k=>?_) (has_loop v l [] (by simp;omega))
 rfl

theorem index_loop (v:Int):∀ (r a:List Int) (n:Int),n=((a++r).length:Int)→a.length+r.length≤9223372036854775806→
  Ev (fun k=>slices_Index_int.l0 k (a++r) v n ((a.length:Nat):Int)) (if v ∈ r then ((a.length+idx r v:Nat):Int) else -1)
 | [],a,n,hn,hl=>by
  subst hn
  refine Ev.step (f:=fun _=>some (-1)) (fun k=>?_) (by simpa using Ev.now (-1:Int))
  simp only [slices_Index_int.l0]
  rw [if_neg (not_lt_app a)]
 | c :: r,a,n,hn,hl=>by
  have e:∀ k,slices_Index_int.l0 (k+1) (a++c :: r) v n ((a.length:Nat):Int)=if v=c then some ((a.length:Nat):Int) else slices_Index_int.l0 k (a++c :: r) v n ((a.length+1:Nat):Int):=by
   intro k
   simp only [slices_Index_int.l0]
   rw [if_pos (by rw [hn];exact lt_app a r c),if_pos (by omega),if_pos (lt_app a r c),rdI,wnext (by simp at hl;omega)]
  by_cases h:v=c
  ·subst h
   refine Ev.step (f:=fun _=>some ((a.length:Nat):Int)) (fun k=>?_) (by simpa [idx] using Ev.now ((a.length:Nat):Int))
   rw [e,if_pos rfl]
  ·have ih:=index_loop v r (a++[c]) n (by rw [hn];simp) (by simp at hl ⊢;omega)
   rw [snoc_len] at ih
   simp only [List.append_assoc,List.singleton_append] at ih
   have h':c≠v:=fun x=>h x.symm
   have e2:(if v ∈ c :: r then ((a.length+idx (c :: r) v:Nat):Int) else -1)=if v ∈ r then ((a.length+1+idx r v:Nat):Int) else -1:=by
    simp only [List.mem_cons,h,false_or]
    split
    ·unfold idx
     rw [List.idxOf_cons,beq_eq_false_iff_ne.2 h']
     simp
     omega
    ·rfl
   rw [e2]
   refine Ev.step (fun k=>?_) ih
   rw [e,if_neg h]

theorem index_ev (l:List Int) (v:Int) (h:l.length≤1099511627776):Ev (fun k=>slices_Index_int.f k l v) (if v ∈ l then ((idx l v:Nat):Int) else -1):=by
 have:=index_loop v l [] (l.length:Int) (by simp) (by simp;omega)
 simp only [List.length_nil,Nat.zero_add] at this
 exact this

theorem contains_ev (l:List Int) (v:Int) (h:l.length≤1099511627776):Ev (fun k=>slices_Contains_int.f k l v) (decide (v ∈ l)):=by
 refine Ev.bind (f:=fun _ t=>some (decide (t≥0))) (index_ev l v h) ?_
 refine Ev.congr (g:=fun _=>some (decide ((if v ∈ l then ((idx l v:Nat):Int) else -1)≥0))) (f:=fun _=>some (decide (v ∈ l))) (fun k=>?_) (Ev.now _)
 by_cases h:v ∈ l
 ·simp [h]
 ·simp [h]

theorem freesOn_len:∀ (r:List Cell) (acc:List Int),(freesOn acc r).length≤acc.length+r.length
 | [],acc=>by simp [freesOn]
 | c :: r,acc=>by
  unfold freesOn
  split
  ·have:=freesOn_len r (acc++[c.f1]);simp at this ⊢;omega
  ·have:=freesOn_len r acc;simp at this ⊢;omega

theorem sfree_loop:∀ (r a:List Cell) (acc:List Int),acc.length≤a.length→a.length+r.length≤1099511627776→
  Ev (fun k=>spec_TrmFree.l0 k (a++r) acc ((a.length:Nat):Int)) (freesOn acc r)
 | [],a,acc,ha,hl=>by
  refine Ev.step (f:=fun _=>some acc) (fun k=>?_) (Ev.now _)
  simp only [spec_TrmFree.l0]
  rw [if_neg (not_lt_app a)]
 | c :: r,a,acc,ha,hl=>by
  have hl':a.length+r.length+1≤1099511627776:=by simpa [Nat.add_assoc] using hl
  by_cases hc:c.f0=1
  ·have e:∀ k,spec_TrmFree.l0 (k+1) (a++c :: r) acc ((a.length:Nat):Int)=(spec_l1Has.f k acc c.f1).bind fun t=>if t=true then spec_TrmFree.l0 k (a++c :: r) acc ((a.length+1:Nat):Int) else spec_TrmFree.l0 k (a++c :: r) (acc++[c.f1]) ((a.length+1:Nat):Int):=by
    intro k
    simp only [spec_TrmFree.l0]
    rw [if_pos (lt_app a r c),if_pos (by omega),rdC,if_pos hc,wnext (by omega),if_pos (show acc.length<17592186044416 by omega)]
   refine Ev.step e (Ev.bind (has_ev acc c.f1 (by omega)) ?_)
   unfold freesOn
   by_cases hm:c.f1 ∈ acc
   ·have ih:=sfree_loop r (a++[c]) acc (by simp;omega) (by simp;omega)
    rw [snoc_len] at ih
    simp only [List.append_assoc,List.singleton_append] at ih
    rw [if_neg (by simp [hm])]
    exact Ev.ifp (by simpa using hm) ih
   ·have ih:=sfree_loop r (a++[c]) (acc++[c.f1]) (by simp;omega) (by simp;omega)
    rw [snoc_len] at ih
    simp only [List.append_assoc,List.singleton_append] at ih
    rw [if_pos ⟨hc,hm⟩]
    exact Ev.ifn (by simpa using hm) ih
  ·have ih:=sfree_loop r (a++[c]) acc (by simp;omega) (by simp;omega)
   rw [snoc_len] at ih
   simp only [List.append_assoc,List.singleton_append] at ih
   unfold freesOn
   rw [if_neg (by simp [hc])]
   refine Ev.step (fun k=>?_) ih
   simp only [spec_TrmFree.l0]
   rw [if_pos (lt_app a r c),if_pos (by omega),rdC,if_neg hc,wnext (by omega)]

theorem sfree_ev (l:List Cell) (h:l.length≤1099511627776):Ev (fun k=>spec_TrmFree.f k l) (frees l):=by
 refine Ev.congr (fun k=>?_) (sfree_loop l [] [] (by simp) (by simpa using h))
 rfl

theorem ifree_loop:∀ (r a:List Cell) (acc:List Int) (n:Int),n=((a++r).length:Int)→acc.length≤a.length→a.length+r.length≤1099511627776→
  Ev (fun k=>impl_TrmFree.l0 k acc (a++r) n ((a.length:Nat):Int)) (freesOn acc r)
 | [],a,acc,n,hn,ha,hl=>by
  subst hn
  refine Ev.step (f:=fun _=>some acc) (fun k=>?_) (Ev.now _)
  simp only [impl_TrmFree.l0]
  rw [if_neg (not_lt_app a)]
 | c :: r,a,acc,n,hn,ha,hl=>by
  have hl':a.length+r.length+1≤1099511627776:=by simpa [Nat.add_assoc] using hl
  have hn':n=(((a++[c])++r).length:Int):=by rw [hn];simp
  by_cases hc:c.f0=1
  ·have e:∀ k,impl_TrmFree.l0 (k+1) acc (a++c :: r) n ((a.length:Nat):Int)=(slices_Contains_int.f k acc c.f1).bind fun t=>if t=true then impl_TrmFree.l0 k acc (a++c :: r) n ((a.length+1:Nat):Int) else impl_TrmFree.l0 k (acc++[c.f1]) (a++c :: r) n ((a.length+1:Nat):Int):=by
    intro k
    simp only [impl_TrmFree.l0]
    rw [if_pos (by rw [hn];exact lt_app a r c),if_pos (by omega),if_pos (lt_app a r c),rdC,if_pos hc,wnext (by omega),if_pos (show acc.length<17592186044416 by omega)]
   refine Ev.step e (Ev.bind (contains_ev acc c.f1 (by omega)) ?_)
   unfold freesOn
   by_cases hm:c.f1 ∈ acc
   ·have ih:=ifree_loop r (a++[c]) acc n hn' (by simp;omega) (by simp;omega)
    rw [snoc_len] at ih
    simp only [List.append_assoc,List.singleton_append] at ih
    rw [if_neg (by simp [hm])]
    exact Ev.ifp (by simpa using hm) ih
   ·have ih:=ifree_loop r (a++[c]) (acc++[c.f1]) n hn' (by simp;omega) (by simp;omega)
    rw [snoc_len] at ih
    simp only [List.append_assoc,List.singleton_append] at ih
    rw [if_pos ⟨hc,hm⟩]
    exact Ev.ifn (by simpa using hm) ih
  ·have ih:=ifree_loop r (a++[c]) acc n hn' (by simp;omega) (by simp;omega)
   rw [snoc_len] at ih
   simp only [List.append_assoc,List.singleton_append] at ih
   unfold freesOn
   rw [if_neg (by simp [hc])]
   refine Ev.step (fun k=>?_) ih
   simp only [impl_TrmFree.l0]
   rw [if_pos (by rw [hn];exact lt_app a r c),if_pos (by omega),if_pos (lt_app a r c),rdC,if_neg hc,wnext (by omega)]

theorem ifree_ev (l:List Cell) (h:l.length≤1099511627776):Ev (fun k=>impl_TrmFree.f k l) (frees l):=by
 refine Ev.congr (fun k=>?_) (ifree_loop l [] [] (l.length:Int) (by simp) (by simp) (by simpa using h))
 rfl

end Go.Proofs.YtlaicnoikeieeaaDoor.P
