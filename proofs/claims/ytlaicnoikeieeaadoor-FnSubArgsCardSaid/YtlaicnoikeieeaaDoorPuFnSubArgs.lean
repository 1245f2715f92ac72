/- Two terms of one name are made the same just if their arguments are, one by one. -/
import Derived.Test.YtlaicnoikeieeaaDoorMCaB
import Derived.Test.YtlaicnoikeieeaaDoorMFullS
import Derived.Test.YtlaicnoikeieeaaDoorMCanonF
import Derived.Test.YtlaicnoikeieeaaDoorMArg
import Derived.Test.YtlaicnoikeieeaaDoorP21
namespace Go.Proofs.YtlaicnoikeieeaaDoor.Pu
open Go.RowKit Go.Proofs.YtlaicnoikeieeaaDoor.Cat Go.Proofs.YtlaicnoikeieeaaDoor.P Go.Proofs.YtlaicnoikeieeaaDoorW.PrintWords
set_option linter.unusedVariables false
set_option linter.unusedSimpArgs false
theorem arg_at {t:List Cell} (h:isTerm t=true) {a r:List (List Cell)} {u:List Cell} (e:argsOf t=a++u :: r):argOf t (a.length:Int)=u:=by
  unfold argOf
  rw [if_pos ⟨h,by omega,by rw [e];simp;omega⟩,e]
  simp [List.getD]
theorem fun_arity {c:Cell} (hc:cellOk c=true) (h3:c.f0=3):c.f1=((ar c:Nat):Int):=by
  have h1:=(cellOk_ar hc).1
  rw [if_pos h3] at h1
  exact Option.some.inj h1
theorem args_loop {s:List Bind} {c:Cell} {A B:List Cell} (hs:Oks s) (ha:isTerm (c :: A)=true) (hb:isTerm (c :: B)=true) (h3:c.f0=3) (hn3:(subUnify s (c :: A) (c :: B)).2≠3):∀ (qs ps:Pairs) (y:List Bind),(cut (ar c) A).zip (cut (ar c) B)=ps++qs→Chain s ps y→Smb y→
    Ev (fun k=>laws_FnSubArgs.l0 k (c :: A) (c :: B) (subUnify s (c :: A) (c :: B)).1 (subUnify s (c :: A) (c :: B)).2 y (ps.length:Int)) true:=by
  have hc1:c.f0≠1:=by omega
  obtain ⟨_,la,oa,fa⟩:=isTerm_iff'.1 ha
  obtain ⟨_,lb,ob,fb⟩:=isTerm_iff'.1 hb
  have hca:=(okl_cons.1 oa).1
  have har:=fun_arity hca h3
  have nA:=(cut_spec fa.rest).2.1
  have nB:=(cut_spec fb.rest).2.1
  have h3':=ar_le hca
  have e0:rd_T46 (c :: A) 0=c:=rfl
  intro qs
  induction qs with
  | nil=>
    intro ps y hz hch sy
    rw [List.append_nil] at hz
    have hlen:=congrArg List.length hz
    rw [List.length_zip,nA,nB,Nat.min_self] at hlen
    obtain ⟨x,hx,q1,q2,q3⟩:=law_args_all hs ha hb hc1 (y:=y) (by rw [hz];exact hch) hn3
    have sx:=smb_of (subUnify_done hx).2.1.oks
    refine Ev.step (fun k=>rfl) ?_
    simp only [laws_FnSubArgs.l0]
    rw [e0,hx]
    have e1:=isubfull_ev x sx.wf (c :: A)
    have e2:=isubfull_ev y sy.wf (c :: A)
    have l1:=subFull_len x (c :: A)
    have l2:=subFull_len y (c :: A)
    rw [q2] at e1 l1
    rw [q3] at e2 l2
    replace l1:(full x (c :: A)).length≤40:=l1
    replace l2:(full y (c :: A)).length≤40:=l2
    have c1:=icanon_ev (full x (c :: A)) (by omega)
    have c2:=icanon_ev (full y (c :: A)) (by omega)
    rw [q1] at c1
    exact Ev.ifp (by simp) (Ev.ifn (by omega) (Ev.ifp rfl (Ev.bind e1 (Ev.bind e2 (Ev.bind c1 (Ev.bind c2 (Ev.bind (caTerm_self (canon (full y (c :: A))) (by rw [canon_len];omega)) (Ev.now _))))))))
  | cons p qs ih=>
    intro ps y hz hch sy
    have hlen:=congrArg List.length hz
    rw [List.length_zip,nA,nB,Nat.min_self,List.length_append,List.length_cons] at hlen
    have eA:argsOf (c :: A)=ps.map (·.1)++p.1 :: qs.map (·.1):=by
      have:=congrArg (List.map (·.1)) hz
      rw [List.map_fst_zip (by omega)] at this
      show cut (ar c) A=_
      simpa using this
    have eB:argsOf (c :: B)=ps.map (·.2)++p.2 :: qs.map (·.2):=by
      have:=congrArg (List.map (·.2)) hz
      rw [List.map_snd_zip (by omega)] at this
      show cut (ar c) B=_
      simpa using this
    have t1:isTerm p.1=true:=arg_term ha (by rw [eA];simp)
    have t2:isTerm p.2=true:=arg_term hb (by rw [eB];simp)
    have a1:=iarg_ev (c :: A) (ps.length:Int)
    have a2:=iarg_ev (c :: B) (ps.length:Int)
    have g1:=arg_at ha eA
    have g2:=arg_at hb eB
    rw [List.length_map] at g1 g2
    rw [g1] at a1
    rw [g2] at a2
    refine Ev.step (fun k=>rfl) ?_
    simp only [laws_FnSubArgs.l0]
    rw [e0]
    refine Ev.ifp (by simp) (Ev.ifp (by omega) (Ev.bind a1 (Ev.bind a2 (Ev.bind (isubunify_ev y sy.wf p.1 p.2) ?_))))
    by_cases hb3:(subUnify y p.1 p.2).2=3
    · refine Ev.ifp hb3 ?_
      by_cases h2:(subUnify s (c :: A) (c :: B)).2=2
      · exact Ev.ifp h2 (Ev.now _)
      · exact Ev.ifn h2 (Ev.bindv caOk_ok (Ev.now _))
    refine Ev.ifn hb3 ?_
    by_cases h1:(subUnify y p.1 p.2).2=1
    · have I:=ih (ps++[p]) (subUnify y p.1 p.2).1 (by rw [hz];simp) (.snoc hch (Prod.ext rfl h1)) (smb_sub y p.1 p.2)
      refine Ev.ifp h1 ?_
      rw [wnext (by omega)]
      rw [List.length_append] at I
      exact I
    · refine Ev.ifn h1 ?_
      rw [law_args_apart hs ha hb hc1 hz hch t1 t2 h1 hb3 hn3]
      exact Ev.now _
theorem FnSubArgs (l:List Int) (h:IsCode l):∃ k,laws_FnSubArgs.f k l=some true:=by
  refine Ev.rounds ?_
  unfold laws_FnSubArgs.f
  by_cases hl:(l.length:Int) > 1048576
  · exact Ev.ifp hl (Ev.now _)
  refine Ev.ifn hl ?_
  obtain ⟨s,a,b,hd,sm,_⟩:=drawSubUnify_ev h
  have J:∀ x,x=true→Ev (fun k=>laws_FnSubArgs.j0 k s a b x) true:=fun x hx=>by
    refine Ev.step (fun k=>rfl) ?_
    simp only [laws_FnSubArgs.j0]
    exact Ev.ifp hx (Ev.bindv caOk_ok (Ev.now _))
  have hso:=ssubok_ev s sm.sizes
  refine Ev.bind hd (Ev.bind hso ?_)
  by_cases h0:Oks s
  case neg=>exact Ev.ifn (by simp [h0]) (J _ rfl)
  refine Ev.ifp (by simp [h0]) (Ev.bind (sok_ev a) ?_)
  by_cases ha:isTerm a=true
  case neg=>exact Ev.ifn ha (J _ rfl)
  refine Ev.ifp ha (Ev.bind (sok_ev b) ?_)
  by_cases hb:isTerm b=true
  case neg=>exact Ev.ifn hb (J _ rfl)
  obtain ⟨c,A,rfl,_⟩:=(isTerm_iff'.1 ha).2.2.2.one
  obtain ⟨d,B,rfl,_⟩:=(isTerm_iff'.1 hb).2.2.2.one
  have e0:rd_T46 (c :: A) 0=c:=rfl
  have e1:rd_T46 (d :: B) 0=d:=rfl
  refine Ev.ifp hb (Ev.ifp (by simp) ?_)
  rw [e0]
  by_cases hc:c.f0=3
  case neg=>exact J _ (bne_iff_ne.2 hc)
  rw [show (c.f0 != 3)=false from bne_eq_false_iff_eq.2 hc]
  refine Ev.step (fun k=>rfl) ?_
  simp only [laws_FnSubArgs.j0]
  rw [e0,e1]
  have J2:∀ x,x=true→Ev (fun k=>laws_FnSubArgs.j2 k s (c :: A) (d :: B) (subUnify s (c :: A) (d :: B)).1 (subUnify s (c :: A) (d :: B)).2 x) true:=fun x hx=>by
    refine Ev.step (fun k=>rfl) ?_
    simp only [laws_FnSubArgs.j2]
    exact Ev.ifp hx (Ev.bindv caOk_ok (Ev.now _))
  refine Ev.ifn (by simp) (Ev.bind (isubunify_ev s sm.wf (c :: A) (d :: B)) (Ev.ifp (by simp) ?_))
  by_cases hd3:d.f0=3
  case neg=>
    refine Ev.ifn hd3 (Ev.step (fun k=>rfl) ?_)
    simp only [laws_FnSubArgs.j1]
    rw [e1]
    exact Ev.ifn (by simp) (Ev.ifp (by simp) (Ev.ifn hd3 (J2 _ rfl)))
  refine Ev.ifp hd3 (Ev.ifp (by simp) (Ev.step (fun k=>rfl) ?_))
  simp only [laws_FnSubArgs.j1]
  rw [e1]
  by_cases hcd:c=d
  case neg=>
    refine Ev.ifp ((ne_cells d c).2 (fun e=>hcd e.symm)) ?_
    rcases law_names rfl rfl ha hb h0 (by omega) (by omega) hcd with e|e
    · exact Ev.ifp e (Ev.now _)
    · refine Ev.ifn (by omega) ?_
      rw [e];exact Ev.now _
  subst hcd
  refine Ev.ifn (fun e=>(ne_cells c c).1 e rfl) (Ev.ifp (by simp) (Ev.ifp hd3 ?_))
  by_cases h3:(subUnify s (c :: A) (c :: B)).2=3
  · exact J2 _ (by rw [h3];rfl)
  rw [show ((subUnify s (c :: A) (c :: B)).2 == 3)=false from beq_eq_false_iff_ne.2 h3]
  refine Ev.step (fun k=>rfl) ?_
  simp only [laws_FnSubArgs.j2]
  exact Ev.ifn (by simp) (args_loop h0 ha hb hc h3 _ [] s rfl .nil sm)
end Go.Proofs.YtlaicnoikeieeaaDoor.Pu
