/- In which order two pairs of terms are made the same makes no difference. -/
import Derived.Test.YtlaicnoikeieeaaDoorMCaB
import Derived.Test.YtlaicnoikeieeaaDoorMMeetS
import Derived.Test.YtlaicnoikeieeaaDoorMCanonF
import Derived.Test.YtlaicnoikeieeaaDoorP19
namespace Go.Proofs.YtlaicnoikeieeaaDoor.Pu
open Go.RowKit Go.Proofs.YtlaicnoikeieeaaDoor.Cat Go.Proofs.YtlaicnoikeieeaaDoor.P Go.Proofs.YtlaicnoikeieeaaDoorW.PrintWords
set_option linter.unusedVariables false
set_option linter.unusedSimpArgs false
theorem two_round {y z:List Bind} (hy:Smb y) (hz:Smb z) (t:List Cell) (hc:(subFull y t).2=true→(subFull z t).2=true→canon (subFull y t).1=canon (subFull z t).1) (ls:List (List Cell)) (i:Int) (hi:0≤i∧i<(ls.length:Int)) (hr:rd_L3 ls i=t)
    (hn:Ev (fun k=>laws_FnSubTwo.l0 k y z ls (wrap64 (i+1))) true):Ev (fun k=>laws_FnSubTwo.l0 k y z ls i) true:=by
  have J:Ev (fun k=>laws_FnSubTwo.j6 k y z ls i false) true:=by
    refine Ev.step (fun k=>rfl) ?_
    simp only [laws_FnSubTwo.j6]
    exact Ev.ifn (by simp) hn
  refine Ev.step (fun k=>rfl) ?_
  simp only [laws_FnSubTwo.l0]
  rw [hr]
  have l1:=subFull_len y t
  have l2:=subFull_len z t
  refine Ev.ifp hi.2 (Ev.ifp hi.1 (Ev.bind (isubfull_ev y hy.wf t) (Ev.bind (isubfull_ev z hz.wf t) ?_)))
  by_cases h1:(subFull y t).2=true
  case neg=>exact Ev.ifn h1 J
  by_cases h2:(subFull z t).2=true
  case neg=>exact Ev.ifp h1 (Ev.ifn h2 J)
  have c1:=icanon_ev (subFull y t).1 (by omega)
  have c2:=icanon_ev (subFull z t).1 (by omega)
  rw [hc h1 h2] at c1
  exact Ev.ifp h1 (Ev.ifp h2 (Ev.bind c1 (Ev.bind c2 (Ev.bind (caTerm_self (canon (subFull z t).1) (by rw [canon_len];omega)) J))))
theorem FnSubTwo (l:List Int) (h:IsCode l) (m:List Int) (h':IsCode m):∃ k,laws_FnSubTwo.f k l m=some true:=by
  refine Ev.rounds ?_
  unfold laws_FnSubTwo.f
  have J0:∀ x,x=true→Ev (fun k=>laws_FnSubTwo.j0 k l m x) true:=fun x hx=>by
    refine Ev.step (fun k=>rfl) ?_
    simp only [laws_FnSubTwo.j0]
    exact Ev.ifp hx (Ev.now _)
  by_cases hl:(l.length:Int) > 1048576
  · exact Ev.ifp hl (J0 _ rfl)
  refine Ev.ifn hl ?_
  by_cases hm:(m.length:Int) > 1048576
  · exact J0 _ (by simpa using hm)
  rw [decide_eq_false hm]
  refine Ev.step (fun k=>rfl) ?_
  simp only [laws_FnSubTwo.j0]
  obtain ⟨s,a,b,hd,sm,_⟩:=drawSubUnify_ev h
  obtain ⟨s',c,d,hd',sm',_⟩:=drawSubUnify_ev h'
  have J:∀ x,x=true→Ev (fun k=>laws_FnSubTwo.j1 k a b c d x) true:=fun x hx=>by
    refine Ev.step (fun k=>rfl) ?_
    simp only [laws_FnSubTwo.j1]
    exact Ev.ifp hx (Ev.bindv caOk_ok (Ev.now _))
  refine Ev.ifn (by simp) (Ev.bind hd (Ev.bind hd' (Ev.bind (sok_ev a) ?_)))
  by_cases ha:isTerm a=true
  case neg=>exact Ev.ifn ha (J _ rfl)
  refine Ev.ifp ha (Ev.bind (sok_ev b) ?_)
  by_cases hb:isTerm b=true
  case neg=>exact Ev.ifn hb (J _ rfl)
  refine Ev.ifp hb (Ev.bind (sok_ev c) ?_)
  by_cases hc:isTerm c=true
  case neg=>exact Ev.ifn hc (J _ rfl)
  refine Ev.ifp hc (Ev.bind (sok_ev d) ?_)
  by_cases hdd:isTerm d=true
  case neg=>exact J _ (by simp [hdd])
  rw [hdd]
  refine Ev.step (fun k=>rfl) ?_
  simp only [laws_FnSubTwo.j1]
  refine Ev.ifn (by simp) (Ev.bind (isubunify_ev [] (by simp) a b) (Ev.bind (ssubunify_ev [] smb_nil.sizes a b) (Ev.bind (caBinds_sub [] a b) (Ev.ifp rfl ?_))))
  refine Ev.step (fun k=>rfl) ?_
  simp only [laws_FnSubTwo.j2]
  have S1:=smb_sub [] a b
  have S2:=smb_sub (subUnify [] a b).1 c d
  have S3:=smb_sub [] c d
  have S4:=smb_sub (subUnify [] c d).1 a b
  refine Ev.ifn (by simp) (Ev.bind (isubunify_ev (subUnify [] a b).1 S1.wf c d) (Ev.bind (isubunify_ev [] (by simp) c d) (Ev.bind (isubunify_ev (subUnify [] c d).1 S3.wf a b) ?_)))
  have E:∀ x y:Bool,(x=true↔(subUnify [] a b).2=1∧(subUnify (subUnify [] a b).1 c d).2=1)→(y=true↔(subUnify [] c d).2=1∧(subUnify (subUnify [] c d).1 a b).2=1)→
      Ev (fun k=>laws_FnSubTwo.j4 k a c (subUnify (subUnify [] a b).1 c d).1 (subUnify [] a b).2 (subUnify (subUnify [] a b).1 c d).2 (subUnify (subUnify [] c d).1 a b).1 (subUnify [] c d).2 (subUnify (subUnify [] c d).1 a b).2 x y) true:=fun x y hx hy=>by
    refine Ev.step (fun k=>rfl) ?_
    simp only [laws_FnSubTwo.j4]
    by_cases hxy:x=y
    · subst hxy
      refine Ev.ifn (by simp) ?_
      by_cases ht:x=true
      case neg=>exact Ev.ifn ht (Ev.now _)
      refine Ev.ifp ht ?_
      obtain ⟨o1,o2⟩:=hx.1 ht
      obtain ⟨p1,p2⟩:=hy.1 ht
      have both:∀ t,isTerm t=true→(subFull (subUnify (subUnify [] a b).1 c d).1 t).2=true→(subFull (subUnify (subUnify [] c d).1 a b).1 t).2=true→canon (subFull (subUnify (subUnify [] a b).1 c d).1 t).1=canon (subFull (subUnify (subUnify [] c d).1 a b).1 t).1:=fun t ht f1 f2=>by
        have hcan:=two_both ha hb hc hdd (x:=(subUnify [] a b).1) (y:=(subUnify (subUnify [] a b).1 c d).1) (x':=(subUnify [] c d).1) (y':=(subUnify (subUnify [] c d).1 a b).1) (Prod.ext rfl o1) (Prod.ext rfl o2) (Prod.ext rfl p1) (Prod.ext rfl p2) (isTerm_iff'.1 ht).2.2.1
        rcases subFull_cases (subUnify (subUnify [] a b).1 c d).1 t with ⟨e,_⟩|⟨e,_⟩
        · rw [e] at f1;cases f1
        rcases subFull_cases (subUnify (subUnify [] c d).1 a b).1 t with ⟨e',_⟩|⟨e',_⟩
        · rw [e'] at f2;cases f2
        rw [e,e']
        exact hcan
      refine two_round S2 S4 a (both a ha) _ 0 (by simp) rfl ?_
      refine two_round S2 S4 c (both c hc) _ (wrap64 (0+1)) (by rw [w64 (by omega) (by omega)];simp) (by rw [w64 (by omega) (by omega)];rfl) ?_
      refine Ev.step (fun k=>rfl) ?_
      simp only [laws_FnSubTwo.l0]
      exact Ev.ifn (by rw [w64 (x:=0+1) (by omega) (by omega),w64 (x:=0+1+1) (by omega) (by omega)];simp) (Ev.now _)
    · refine Ev.ifp (by simpa using hxy) ?_
      have big:(subUnify [] a b).2=3∨(subUnify (subUnify [] a b).1 c d).2=3∨(subUnify [] c d).2=3∨(subUnify (subUnify [] c d).1 a b).2=3:=by
        by_cases ht:x=true
        · have hn:¬ ((subUnify [] c d).2=1∧(subUnify (subUnify [] c d).1 a b).2=1):=fun q=>hxy (ht.trans (hy.2 q).symm)
          obtain ⟨o1,o2⟩:=hx.1 ht
          rcases two_half ha hb hc hdd o1 o2 hn with q|q
          · exact .inr (.inr (.inl q))
          · exact .inr (.inr (.inr q))
        · have hyt:y=true:=by
            cases y with
            | true=>rfl
            | false=>cases x with
              | true=>exact absurd rfl ht
              | false=>exact absurd rfl hxy
          have hn:¬ ((subUnify [] a b).2=1∧(subUnify (subUnify [] a b).1 c d).2=1):=fun q=>ht (hx.2 q)
          obtain ⟨o1,o2⟩:=hy.1 hyt
          rcases two_half hc hdd ha hb o1 o2 hn with q|q
          · exact .inl q
          · exact .inr (.inl q)
      by_cases b1:(subUnify [] a b).2=3
      · exact Ev.ifp b1 (Ev.now _)
      by_cases b2:(subUnify (subUnify [] a b).1 c d).2=3
      · exact Ev.ifn b1 (Ev.ifp b2 (Ev.now _))
      by_cases b3:(subUnify [] c d).2=3
      · exact Ev.ifn b1 (Ev.ifn b2 (Ev.ifp b3 (Ev.now _)))
      · refine Ev.ifn b1 (Ev.ifn b2 (Ev.ifn b3 (Ev.pure ?_)))
        rcases big with q|q|q|q
        · exact absurd q b1
        · exact absurd q b2
        · exact absurd q b3
        · rw [q];rfl
  have E3:∀ x:Bool,(x=true↔(subUnify [] a b).2=1∧(subUnify (subUnify [] a b).1 c d).2=1)→
      Ev (fun k=>laws_FnSubTwo.j3 k a c (subUnify (subUnify [] a b).1 c d).1 (subUnify [] a b).2 (subUnify (subUnify [] a b).1 c d).2 (subUnify (subUnify [] c d).1 a b).1 (subUnify [] c d).2 (subUnify (subUnify [] c d).1 a b).2 x) true:=fun x hx=>by
    refine Ev.step (fun k=>rfl) ?_
    simp only [laws_FnSubTwo.j3]
    by_cases o3:(subUnify [] c d).2=1
    · exact Ev.ifp o3 (E _ _ hx (by rw [beq_iff_eq];exact ⟨fun q=>⟨o3,q⟩,fun q=>q.2⟩))
    · exact Ev.ifn o3 (E _ _ hx ⟨fun q=>(by cases q),fun q=>absurd q.1 o3⟩)
  by_cases o1:(subUnify [] a b).2=1
  · exact Ev.ifp o1 (E3 _ (by rw [beq_iff_eq];exact ⟨fun q=>⟨o1,q⟩,fun q=>q.2⟩))
  · exact Ev.ifn o1 (E3 _ ⟨fun q=>(by cases q),fun q=>absurd q.1 o1⟩)
end Go.Proofs.YtlaicnoikeieeaaDoor.Pu
