/- What the program's SubUnify answers: subUnify of the plain theory. -/
import Derived.Test.YtlaicnoikeieeaaDoorMUniF
import Derived.Test.YtlaicnoikeieeaaDoorP8
import Derived.Test.YtlaicnoikeieeaaDoorP8
namespace Go.Proofs.YtlaicnoikeieeaaDoor.P
set_option linter.unusedVariables false
set_option linter.unusedSimpArgs false
open Go.RowKit Go.Proofs.YtlaicnoikeieeaaDoor.Cat Go.Proofs.YtlaicnoikeieeaaDoorW.PrintWords Go.Proofs.YtlaicnoikeieeaaDoorW.PrintLast
theorem oneF_ev {s:List Bind} (hs:Oks s) {a b:List Cell} (ha:isTerm a=true) (hb:isTerm b=true):Ev (fun k=>oneF k s a b) (meet s a b):=by
 have oa:=(isTerm_iff'.1 ha).2.2.1
 have ob:=(isTerm_iff'.1 hb).2.2.1
 have hu:=uni_spec hs.good (okP_one ha hb)
 have hr:=hu.sound hs.good (okP_one ha hb)
 have e1:=ifull_ev hs.good oa
 have e2:=ifull_ev hs.good ob
 unfold oneF meet
 refine Ev.ifp (by have:=good_len hs.good;omega) (Ev.bind e1 (Ev.bind e2 ?_))
 by_cases h1:40<(full s a).length
 ·rw [if_pos h1,if_pos (show 40<(full s a).length∨40<(full s b).length from .inl h1)]
  exact Ev.ifp rfl (Ev.now _)
 ·rw [if_neg h1]
  refine Ev.ifn (by simp) ?_
  by_cases h2:40<(full s b).length
  ·rw [if_pos h2,if_pos (show 40<(full s a).length∨40<(full s b).length from .inr h2)]
   exact Ev.ifp rfl (Ev.now _)
  ·rw [if_neg h2,if_neg (show ¬ (40<(full s a).length∨40<(full s b).length) from by omega)]
   refine Ev.ifn (by simp) ?_
   have hun:Ev (fun k=>uniF k k s a b) (uni s [(a,b)]):=unify_ev hs ha hb
   refine Ev.bind hun ?_
   cases he:uni s [(a,b)] with
   | none=>exact Ev.now _
   | some x=>
    rw [he] at hr
    obtain ⟨g,_,_⟩:=hr
    refine Ev.bind (ifull_ev g oa) ?_
    simp only
    by_cases h3:40<(full x a).length
    ·rw [if_pos h3,if_pos h3]
     exact Ev.ifp rfl (Ev.now _)
    ·rw [if_neg h3,if_neg h3]
     exact Ev.ifn (by simp) (Ev.now _)
theorem copied_loop:∀ (r a:List Bind) (n:Int),n=((a++r).length:Int)→(a++r).length≤1099511627776→(∀ b ∈ r,b.f1.length≤1099511627776)→Ev (fun k=>impl_copiedBinds.l0 k a (a++r) n ((a.length:Nat):Int)) (a++r)
 | [],a,n,hn,hl,hs=>by
  refine Ev.step (f:=fun _=>some a) (fun k=>?_) (by rw [List.append_nil];exact Ev.now _)
  simp only [impl_copiedBinds.l0]
  rw [hn,if_neg (not_lt_app a)]
 | b :: r,a,n,hn,hl,hs=>by
  have I:=copied_loop r (a++[b]) n (by rw [hn];simp) (by simpa using hl) (fun c hc=>hs c (by simp [hc]))
  rw [snoc_len,List.append_assoc,List.singleton_append] at I
  have hi:a.length<(a++b :: r).length:=by simp
  refine Ev.step (fun k=>rfl) ?_
  simp only [impl_copiedBinds.l0]
  refine Ev.ifp (by rw [hn];exact lt_app a r b) (Ev.ifp (by omega) (Ev.ifp (lt_app a r b) ?_))
  rw [rdBb]
  refine Ev.bindv (clone_ok _ (hs b (by simp))) (Ev.ifp (by omega) ?_)
  rw [wnext (by omega)]
  exact I
theorem copied_ev (s:List Bind) (hl:s.length≤1099511627776) (hs:∀ b ∈ s,b.f1.length≤1099511627776):Ev (fun k=>impl_copiedBinds.f k s) s:=by
 unfold impl_copiedBinds.f
 exact copied_loop s [] (s.length:Int) rfl (by simpa using hl) hs
open Classical in
theorem isubunify_ev (s:List Bind) (hw:∀ b ∈ s,(Lit.int .i64 b.f0).wf=true) (a b:List Cell):Ev (fun k=>impl_SubUnify.f k s a b) (subUnify s a b):=by
 unfold impl_SubUnify.f
 refine Ev.bind (isubok_ev s hw) (Ev.bindv (iok a) (Ev.bindv (iok b) ?_))
 by_cases h:Oks s∧isTerm a=true∧isTerm b=true
 ·obtain ⟨hs,ha,hb⟩:=h
  rw [subUnify_ok ⟨hs,ha,hb⟩,decide_eq_true hs,ha,hb]
  refine Ev.ifn (by simp) (Ev.ifn (by simp) (Ev.ifn (by simp) (Ev.bind (oneF_ev hs ha hb) ?_)))
  rcases meet_cases hs ha hb with e|⟨e,_⟩|⟨x,e,m,_⟩
  ·rw [e];exact Ev.bind (copied_ev [] (by simp) (by simp)) (Ev.now _)
  ·rw [e];exact Ev.bind (copied_ev [] (by simp) (by simp)) (Ev.now _)
  ·rw [e]
   refine Ev.bind (copied_ev x (by have:=good_len m.oks.good;omega) (fun b hb=>by have:=m.oks.small b hb;omega)) (Ev.now _)
 ·rw [subUnify_no h]
  by_cases h0:Oks s
  ·rw [decide_eq_true h0]
   refine Ev.ifn (by simp) ?_
   by_cases h1:isTerm a=true
   ·rw [h1]
    refine Ev.ifn (by simp) (Ev.ifp ?_ (Ev.now _))
    rw [Bool.eq_false_iff]
    exact fun h2=>h ⟨h0,h1,h2⟩
   ·exact Ev.ifp (Bool.eq_false_iff.2 h1) (Ev.now _)
  ·rw [decide_eq_false h0]
   exact Ev.ifp rfl (Ev.now _)
end Go.Proofs.YtlaicnoikeieeaaDoor.P
