/- What l2Full and SubFull answer. -/
import Derived.Test.YtlaicnoikeieeaaDoorMBinds
import Derived.Test.YtlaicnoikeieeaaDoorP8
import Derived.Test.YtlaicnoikeieeaaDoorP8
import Derived.Test.YtlaicnoikeieeaaDoorP10
namespace Go.Proofs.YtlaicnoikeieeaaDoor.Pu
set_option linter.unusedVariables false
set_option linter.unusedSimpArgs false
open Go.RowKit Go.Proofs.YtlaicnoikeieeaaDoor.Cat Go.Proofs.YtlaicnoikeieeaaDoor.P Go.Proofs.YtlaicnoikeieeaaDoorW.PrintWords Go.Proofs.YtlaicnoikeieeaaDoorW.PrintLast

theorem Full_len {s:List Bind} (hs:Cat.Good s) {a u:List Cell} (h:Full s a u):a.length≤u.length:=by
 induction h with
 | nil=>simp
 | keep _ _ ih=>simp;exact ih
 | @sub c l t u1 u2 _ hg _ _ ih1 ih2=>
  have:=List.length_pos_iff.2 (term_pos hs hg)
  simp only [List.length_cons,List.length_append]
  omega
theorem l2full_loop {s:List Bind} (hs:Cat.Good s) (hsm:∀ b ∈ s,b.f1.length≤40) {a u:List Cell} (h:Full s a u):∀ (rest out:List Cell) (r:List Cell × Bool),out.length+a.length+rest.length≤40→
  (out.length+u.length+rest.length≤40→Ev (fun k=>spec_l2Full.l0 k s (out++u) rest) r)→(40<out.length+u.length+rest.length→r=([],false))→Ev (fun k=>spec_l2Full.l0 k s out (a++rest)) r:=by
 have hlen:=good_len hs
 induction h with
 | nil=>intro rest out r h1 h2 h3;have:=h2 (by simpa using h1);simpa using this
 | @keep c l u hc hf ih=>
  intro rest out r h1 h2 h3
  simp only [List.length_cons] at h1 h2 h3
  have ih:=ih rest (out++[c]) r (by simp;omega) (fun h=>by
   have:=h2 (by simp at h;omega)
   rw [List.append_assoc];exact this) (fun h=>h3 (by simp at h;omega))
  rw [List.cons_append]
  refine Ev.step (fun k=>rfl) ?_
  simp only [spec_l2Full.l0]
  have e0:rd_T46 (c :: (l++rest)) 0=c:=rfl
  rw [e0]
  refine Ev.ifp (by simp;omega) (Ev.ifp (by simp;omega) (Ev.ifp (by simp;omega) (Ev.bindv rfl ?_)))
  have ed:(c :: (l++rest)).drop (1:Int).toNat=l++rest:=rfl
  rw [ed]
  have J:Ev (fun k=>spec_l2Full.j1 k s out (l++rest) [] c.f0 c.f1 c.f2) r:=by
   refine Ev.step (fun k=>rfl) ?_
   simp only [spec_l2Full.j1]
   refine Ev.ifn (by simp) (Ev.ifp (by omega) (Ev.bindv rfl (Ev.ifn ?_ ih)))
   rw [w64 (by simp;omega) (by simp;omega)]
   simp;omega
  by_cases hv:c.f0=1
  ·refine Ev.ifp hv (Ev.bind (l2get_ev s _ (by omega)) ?_)
   rw [known_no (hc hv)]
   exact J
  ·exact Ev.ifn hv J
 | @sub c l t u1 u2 hv hg hf1 hf2 ih1 ih2=>
  intro rest out r h1 h2 h3
  have n1:=Full_len hs hf1
  have n2:=Full_len hs hf2
  have n3:=List.length_pos_iff.2 (term_pos hs hg)
  obtain ⟨bb,hbb,_,ebb⟩:=get_mem hg
  have n4:=hsm bb hbb
  rw [ebb] at n4
  simp only [List.length_cons,List.length_append] at h1 h2 h3
  rw [List.cons_append]
  refine Ev.step (fun k=>rfl) ?_
  simp only [spec_l2Full.l0]
  have e0:rd_T46 (c :: (l++rest)) 0=c:=rfl
  rw [e0]
  refine Ev.ifp (by simp;omega) (Ev.ifp (by simp;omega) (Ev.ifp (by simp;omega) (Ev.bindv rfl ?_)))
  have ed:(c :: (l++rest)).drop (1:Int).toNat=l++rest:=rfl
  rw [ed]
  refine Ev.ifp hv (Ev.bind (l2get_ev s _ (by omega)) ?_)
  rw [known_of hg]
  refine Ev.step (fun k=>rfl) ?_
  simp only [spec_l2Full.j1]
  refine Ev.ifp (by omega) (Ev.bindv rfl (Ev.ifp (by simp;omega) (Ev.bindv rfl (Ev.ifp (by simp;omega) (Ev.bindv rfl ?_)))))
  rw [List.nil_append,w64 (by simp;omega) (by simp;omega)]
  by_cases h40:40<out.length+(t.length+(l.length+rest.length))
  ·refine Ev.ifp (by simp;omega) ?_
   rw [h3 (by omega)]
   exact Ev.now _
  ·refine Ev.ifn (by simp;omega) (ih1 (l++rest) out r (by simp;omega) (fun h=>?_) (fun h=>h3 (by simp at h;omega)))
   refine ih2 rest (out++u1) r (by simp at h ⊢;omega) (fun h'=>?_) (fun h'=>h3 (by simp at h';omega))
   have:=h2 (by simp at h';omega)
   rw [List.append_assoc];exact this

theorem l2full_ev {s:List Bind} (hs:Oks s) {t:List Cell} (ht:isTerm t=true):Ev (fun k=>spec_l2Full.f k s t) (if 40<(full s t).length then ([],false) else (full s t,true)):=by
 have ot:=(isTerm_iff'.1 ht).2.2.1
 have lt:=(isTerm_iff'.1 ht).2.1
 unfold spec_l2Full.f
 refine Ev.bindv rfl (Ev.ifp (by simp;omega) ?_)
 have h:=l2full_loop hs.good hs.small (full_full hs.good ot) [] [] (if 40<(full s t).length then ([],false) else (full s t,true)) (by simp;omega) (fun h=>by
  rw [if_neg (by simp at h;omega)]
  refine Ev.step (fun k=>rfl) ?_
  simp only [spec_l2Full.l0]
  exact Ev.ifn (by simp) (Ev.now _)) (fun h=>by rw [if_pos (by simpa using h)])
 simpa using h

theorem subFull_len (s:List Bind) (t:List Cell):(subFull s t).1.length≤40:=by
 rcases subFull_cases s t with ⟨e,_⟩|⟨e,_,_,hl⟩
 ·rw [e];simp
 ·rw [e];exact hl
open Classical in
theorem ssubfull_ev (s:List Bind) (hz:SizesB s) (t:List Cell):Ev (fun k=>spec_SubFull.f k s t) (subFull s t):=by
 unfold spec_SubFull.f subFull
 refine Ev.bind (ssubok_ev s hz) ?_
 by_cases h0:Oks s
 case neg=>
  rw [decide_eq_false h0,if_neg (fun h=>h0 h.1)]
  exact Ev.ifn (by simp) (Ev.now _)
 rw [decide_eq_true h0]
 refine Ev.ifp rfl (Ev.bind (sok_ev t) ?_)
 by_cases h1:isTerm t=true
 case neg=>
  rw [if_neg (fun h=>h1 h.2)]
  exact Ev.ifn h1 (Ev.now _)
 rw [if_pos ⟨h0,h1⟩]
 exact Ev.ifp h1 (Ev.bind (l2full_ev h0 h1) (Ev.now _))
open Classical in
theorem isubfull_ev (s:List Bind) (hw:∀ b ∈ s,(Lit.int .i64 b.f0).wf=true) (t:List Cell):Ev (fun k=>impl_SubFull.f k s t) (subFull s t):=by
 unfold impl_SubFull.f subFull
 refine Ev.bind (isubok_ev s hw) ?_
 by_cases h0:Oks s
 case neg=>
  rw [decide_eq_false h0,if_neg (fun h=>h0 h.1)]
  exact Ev.ifn (by simp) (Ev.now _)
 rw [decide_eq_true h0]
 refine Ev.ifp rfl (Ev.bindv (iok t) ?_)
 by_cases h1:isTerm t=true
 case neg=>
  rw [if_neg (fun h=>h1 h.2)]
  exact Ev.ifn h1 (Ev.now _)
 rw [if_pos ⟨h0,h1⟩]
 exact Ev.ifp h1 (Ev.bind (ifull_ev h0.good (isTerm_iff'.1 h1).2.2.1) (Ev.now _))
end Go.Proofs.YtlaicnoikeieeaaDoor.Pu
