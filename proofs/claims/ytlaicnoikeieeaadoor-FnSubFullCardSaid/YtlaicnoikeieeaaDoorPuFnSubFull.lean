/- SubFull: the laws of it. -/
import Derived.Test.YtlaicnoikeieeaaDoorMFullS
import Derived.Test.YtlaicnoikeieeaaDoorMCa
import Derived.Test.YtlaicnoikeieeaaDoorP2
import Derived.Test.YtlaicnoikeieeaaDoorP19
import Derived.Test.YtlaicnoikeieeaaDoorP20
namespace Go.Proofs.YtlaicnoikeieeaaDoor.Pu
open Go.RowKit Go.Proofs.YtlaicnoikeieeaaDoor.Cat Go.Proofs.YtlaicnoikeieeaaDoor.P Go.Proofs.YtlaicnoikeieeaaDoorW.PrintWords
set_option linter.unusedVariables false
set_option linter.unusedSimpArgs false
theorem drawSubFull_ev {l:List Int} (h:IsCode l):∃ s t,Ev (fun k=>spec_DrawSubFull.f k l) (s,t)∧Smb s∧Sms 200000 t:=by
  obtain ⟨b,hb,hc⟩:=code_of h
  obtain ⟨s,q,hs,sm,q0,q1⟩:=bindsOr_ev hc (p:=0) (by omega) (by omega) 14 (by omega)
  obtain ⟨t,p,ht,_,_,st⟩:=termOr_ev hc q0 (by omega) 14 (by omega)
  refine ⟨s,t,?_,sm,st⟩
  unfold spec_DrawSubFull.f
  exact Ev.bindv hb (Ev.bind hs (Ev.bind ht (Ev.now _)))
theorem isubget' (s:List Bind) (v:Int) (he:∀ b ∈ s,b.f1.length≤1048576):impl_SubGet.f s v=some (known s v):=by
  unfold impl_SubGet.f known
  cases h:Cat.get s v with
  | none=>rfl
  | some t=>
    obtain ⟨b,hb,_,rfl⟩:=get_mem h
    exact clone_ok _ (by have:=he b hb;omega)
theorem ca_same (l:List Cell) (h:l.length≤1099511627776):Ev (fun k=>laws_caTerm.f k l l) true:=by
  have hc:=caTerm_ev l l h
  rwa [show decide (l=l)=true by simp] at hc
theorem lawFull_l1 {s:List Bind} (sm:Smb s) (H:∀ b ∈ s,subFull s [varc b.f0]=subFull s b.f1∧subGet s b.f0=b.f1):∀ (r a:List Bind),s=a++r→Ev (fun k=>laws_FnSubFull.l1 k s ((a.length:Nat):Int)) true
  | [],a,e=>by
    refine Ev.step (fun k=>rfl) ?_
    simp only [laws_FnSubFull.l1]
    exact Ev.ifn (by rw [e];exact not_lt_app a) (Ev.now _)
  | b :: r,a,e=>by
    have ih:=lawFull_l1 sm H r (a++[b]) (by rw [e];simp)
    rw [snoc_len] at ih
    have hmem:b ∈ s:=by rw [e];simp
    have hb:=sm.each b hmem
    have hl:=sm.len
    have hal:a.length<s.length:=by rw [e];simp
    have he:∀ b ∈ s,b.f1.length≤1048576:=fun b hb=>by have:=sm.each b hb;omega
    obtain ⟨h1,h2⟩:=H b hmem
    have e1:Ev (fun k=>impl_SubFull.f k s [⟨1,b.f0,⟨#[]⟩⟩]) (subFull s [varc b.f0]):=isubfull_ev s sm.wf _
    have e2:=isubfull_ev s sm.wf b.f1
    rw [h1] at e1
    have h2':known s b.f0=b.f1:=h2
    have g:=isubget' s b.f0 he
    rw [h2'] at g
    have er:rd_T30 s ((a.length:Nat):Int)=b:=by rw [e];exact rdBb a r b
    refine Ev.step (fun k=>rfl) ?_
    simp only [laws_FnSubFull.l1]
    rw [er]
    refine Ev.ifp (by omega) (Ev.ifp (by omega) (Ev.bind e1 (Ev.bind e2 (Ev.ifn (by simp) (Ev.bind (ca_same _ (by have:=subFull_len s b.f1;omega)) (Ev.ifp rfl (Ev.bindv g (Ev.bind (ca_same _ (by omega)) ?_))))))))
    refine Ev.step (fun k=>rfl) ?_
    simp only [laws_FnSubFull.j4]
    refine Ev.ifn (by simp) ?_
    rw [wnext (by omega)]
    exact ih
theorem lawFull_l0 {s:List Bind} (sm:Smb s) (hE:Ev (fun k=>laws_FnSubFull.l1 k s 0) true):∀ (r a:List Int),(∀ v ∈ r,known s v=[])→(a++r).length≤1099511627776→Ev (fun k=>laws_FnSubFull.l0 k s (a++r) ((a.length:Nat):Int)) true
  | [],a,h,hl=>by
    refine Ev.step (fun k=>rfl) ?_
    simp only [laws_FnSubFull.l0]
    exact Ev.ifn (not_lt_app a) hE
  | v :: r,a,h,hl=>by
    have ih:=lawFull_l0 sm hE r (a++[v]) (fun x hx=>h x (by simp [hx])) (by simpa using hl)
    rw [snoc_len,List.append_assoc,List.singleton_append] at ih
    have hal:a.length<(a++v :: r).length:=by simp
    have g:=isubget' s v (fun b hb=>by have:=sm.each b hb;omega)
    rw [h v (by simp)] at g
    refine Ev.step (fun k=>rfl) ?_
    simp only [laws_FnSubFull.l0]
    rw [rdI]
    refine Ev.ifp (lt_app a r v) (Ev.ifp (by omega) (Ev.bindv g (Ev.ifn (by simp) ?_)))
    rw [wnext (by omega)]
    exact ih
theorem FnSubFull (l:List Int) (h:IsCode l):∃ k,laws_FnSubFull.f k l=some true:=by
  refine Ev.rounds ?_
  unfold laws_FnSubFull.f
  by_cases hl:(l.length:Int) > 1048576
  · exact Ev.ifp hl (Ev.now _)
  refine Ev.ifn hl ?_
  obtain ⟨s,t,hd,sm,st⟩:=drawSubFull_ev h
  have hs:=sm.len
  have he:∀ b ∈ s,b.f1.length≤1048576:=fun b hb=>by have:=sm.each b hb;omega
  have hlen:=subFull_len s t
  refine Ev.bind hd (Ev.bind (isubfull_ev s sm.wf t) (Ev.bind (ssubfull_ev s ⟨by omega,he⟩ t) (Ev.bind (ca_same _ (by omega)) (Ev.ifp rfl ?_))))
  refine Ev.step (fun k=>rfl) ?_
  simp only [laws_FnSubFull.j0]
  refine Ev.ifn (by simp) ?_
  rcases subFull_cases s t with ⟨e,_⟩|⟨e,_,_,hf⟩
  · rw [e]
    exact Ev.ifn (by simp) (Ev.ifp rfl (Ev.bindv caOk_ok (Ev.now _)))
  · obtain ⟨g1,g2,g3,g4⟩:=law_full e
    rw [e]
    have e1:=isubfull_ev s sm.wf (full s t)
    rw [g1] at e1
    refine Ev.ifp rfl (Ev.bind e1 (Ev.ifp rfl (Ev.bind (ca_same (full s t) (by omega)) (Ev.ifp rfl (Ev.bindv (iok _) ?_)))))
    rw [g2]
    refine Ev.step (fun k=>rfl) ?_
    simp only [laws_FnSubFull.j1]
    refine Ev.ifn (by simp) (Ev.bind (ifree_ev _ (by omega)) ?_)
    have hfl:=frees_len (full s t)
    exact lawFull_l0 sm (lawFull_l1 sm g4 s [] rfl) (frees (full s t)) [] g3 (by simp;omega)
end Go.Proofs.YtlaicnoikeieeaaDoor.Pu
