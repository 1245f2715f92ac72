/- SubGet of the program and of the reference is the same, leaves its argument alone, and its answer is new memory. -/
import Derived.Test.YtepkgjcobocbpaaMMark
import Derived.Test.YtepkgjcobocbpaaP1
import Derived.Test.YtepkgjcobocbpaaP1
import Derived.Test.YtepkgjcobocbpaaP6
namespace Go.Proofs.Ytepkgjcobocbpaa.Pu
open Go.RowKit Go.Proofs.Ytepkgjcobocbpaa.Cat Go.Proofs.Ytepkgjcobocbpaa.P Go.Proofs.YtepkgjcobocbpaaW.PrintWords
set_option linter.unusedVariables false
set_option linter.unusedSimpArgs false
theorem roomB_of {s:List Bind} (h:s.length≤maxLen∧∀ x ∈ s,(Lit.int .i64 x.f0).wf=true∧(x.f1.length≤maxLen∧∀ c ∈ x.f1,CellIn c.f0 c.f1 c.f2)):RoomB s:=by
  refine ⟨by have:=h.1;unfold maxLen at this;exact this,fun b hb=>⟨(h.2 b hb).1,room_of (h.2 b hb).2⟩⟩
def got (s:List Bind) (v:Int):List Cell:=(Cat.get s v).getD []
theorem got_cons (b:Bind) (r:List Bind) (v:Int):got (b :: r) v=if b.f0=v then b.f1 else got r v:=by
  unfold got Cat.get
  rw [List.find?_cons]
  by_cases h:b.f0=v
  · simp [h]
  · have hb:(b.f0 == v)=false:=by simpa using h
    simp [hb,h]
theorem ssubget_loop (v:Int):∀ (r a:List Bind),a.length+r.length≤1048576→(∀ b ∈ r,b.f1.length≤1048576)→Ev (fun k=>spec_SubGet.l0 k (a++r) v ((a.length:Nat):Int)) (got r v)
  | [],a,h,he=>by
    refine Ev.step (fun k=>rfl) ?_
    simp only [spec_SubGet.l0]
    exact Ev.ifn (not_lt_app a) (Ev.now _)
  | b :: r,a,h,he=>by
    have ih:=ssubget_loop v r (a++[b]) (by simp at *;omega) (fun c hc=>he c (by simp [hc]))
    rw [snoc_len] at ih
    simp only [List.append_assoc,List.singleton_append] at ih
    have hb:=he b (by simp)
    refine Ev.step (fun k=>rfl) ?_
    simp only [spec_SubGet.l0]
    refine Ev.ifp (lt_app a r b) (Ev.ifp (by omega) ?_)
    rw [rdB,wnext (by simp at h;omega),got_cons]
    by_cases e:b.f0=v
    · rw [if_pos e];exact Ev.ifp e (Ev.bindv rfl (Ev.ifp (by simp;omega) (Ev.now _)))
    · rw [if_neg e];exact Ev.ifn e ih
theorem got_len (s:List Bind) (v:Int) (he:∀ b ∈ s,b.f1.length≤1048576):(got s v).length≤1048576:=by
  induction s with
  | nil=>simp [got,Cat.get]
  | cons b r ih=>
    rw [got_cons]
    by_cases h:b.f0=v
    · rw [if_pos h];exact he b (by simp)
    · rw [if_neg h];exact ih (fun c hc=>he c (by simp [hc]))
theorem isubget (s:List Bind) (v:Int) (he:∀ b ∈ s,b.f1.length≤1048576):impl_SubGet.f s v=some (got s v):=by
  have hl:=got_len s v he
  unfold impl_SubGet.f
  unfold got at hl ⊢
  cases h:Cat.get s v with
  | none=>rfl
  | some t=>
    rw [h] at hl
    simp only [Option.getD_some] at hl ⊢
    unfold slices_Clone_TrmCell.f
    exact if_pos (by omega)
theorem FnExactSubGet (s:List Bind) (h:s.length≤maxLen∧∀ x ∈ s,(Lit.int .i64 x.f0).wf=true∧(x.f1.length≤maxLen∧∀ c ∈ x.f1,CellIn c.f0 c.f1 c.f2)) (v:Int) (hv:(Lit.int .i64 v).wf=true):∃ k,laws_FnExactSubGet.f k s v=some true:=by
  refine Ev.rounds ?_
  have hr:=roomB_of h
  obtain ⟨q,hq,hq1,hsz⟩:=szB_ev s 1048576 (by omega) (by omega) hr
  unfold laws_FnExactSubGet.f
  refine Ev.bind hq ?_
  by_cases hn:q<0
  · exact Ev.ifp hn (Ev.now _)
  refine Ev.ifn hn ?_
  have hz:=hsz (by omega)
  have hl:s.length≤1048576:=by omega
  have he:∀ b ∈ s,b.f1.length≤1048576:=fun b hb=>by have:=cells_le hb;omega
  have hg:=got_len s v he
  have hsp:Ev (fun k=>spec_SubGet.f k s v) (got s v):=ssubget_loop v s [] (by simpa using hl) he
  refine Ev.bind (toB_ev s hl he) (Ev.bind hsp (Ev.bindv (isubget s v he) (Ev.bind (eq_ev _ _ hg) (Ev.bind (eqB_ev s s hl he) ?_))))
  refine Ev.bind (markB_ev s 1 (by omega) (by omega)) (Ev.bind (mark_ev _ 1 (by omega) (by omega)) (Ev.bind (held_ev 1 _ (by omega) (by omega)) ?_))
  refine Ev.ifp ⟨by simp,by simp,?_,rfl,?_⟩ (Ev.now _)
  · show (0:Int)≤1+_+_;omega
  · omega
end Go.Proofs.Ytepkgjcobocbpaa.Pu
