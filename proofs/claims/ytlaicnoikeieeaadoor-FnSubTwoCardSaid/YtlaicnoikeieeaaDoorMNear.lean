/- What l20Near and DrawSubUnify draw: they end, whatever the code. -/
import Derived.Test.YtlaicnoikeieeaaDoorMBinds
import Derived.Test.YtlaicnoikeieeaaDoorP3
import Derived.Test.YtlaicnoikeieeaaDoorP18
import Derived.Test.YtlaicnoikeieeaaDoorP18
namespace Go.Proofs.YtlaicnoikeieeaaDoor.Pu
open Go.RowKit Go.Proofs.YtlaicnoikeieeaaDoor.Cat Go.Proofs.YtlaicnoikeieeaaDoor.P Go.Proofs.YtlaicnoikeieeaaDoorW.PrintWords
set_option linter.unusedVariables false
set_option linter.unusedSimpArgs false
theorem end_any (l:List Cell) (hs:Sms 200000 l):∀ (n i:Nat) (need:Int),l.length - i=n→i≤l.length→-1000000000+300000 * (n:Int)≤need→need≤1000000000 - 300000 * (n:Int)→
  ∃ e,Ev (fun k=>spec_l1End.l0 k l need (i:Int)) e∧(e = -1∨((i:Int)≤e∧e≤(l.length:Int)))∧(need > 0→e = -1∨(i:Int)<e):=by
 intro n
 have hl:=hs.1
 induction n with
 | zero=>
  intro i need hn hi h1 h2
  by_cases hp:need > 0
  ·refine ⟨-1,Ev.step (fun k=>rfl) ?_,.inl rfl,fun _=>.inl rfl⟩
   simp only [spec_l1End.l0]
   refine Ev.ifp hp (Ev.ifn (by omega) (Ev.step (fun k=>rfl) ?_))
   simp only [spec_l1End.j1]
   exact Ev.ifp (by simp;omega) (Ev.now _)
  ·refine ⟨(i:Int),Ev.step (fun k=>rfl) ?_,.inr ⟨by omega,by omega⟩,fun h=>absurd h hp⟩
   simp only [spec_l1End.l0]
   exact Ev.ifn hp (Ev.now _)
 | succ n ih=>
  intro i need hn hi h1 h2
  by_cases hp:need > 0
  case neg=>
   refine ⟨(i:Int),Ev.step (fun k=>rfl) ?_,.inr ⟨by omega,by omega⟩,fun h=>absurd h hp⟩
   simp only [spec_l1End.l0]
   exact Ev.ifn hp (Ev.now _)
  have hm:=hs.2 _ (rdT_mem l (i:Int) (by omega) (by omega))
  have b1:=hm.1
  have b2:=hm.2.1
  have e1:wrap64 (need - 1)=need - 1:=w64 (by omega) (by omega)
  have e2:wrap64 (need - 1+(rd_T46 l (i:Int)).f1)=need - 1+(rd_T46 l (i:Int)).f1:=w64 (by omega) (by omega)
  by_cases h3:(rd_T46 l (i:Int)).f0=3
  ·obtain ⟨e,he,c1,c2⟩:=ih (i+1) (need - 1+(rd_T46 l (i:Int)).f1) (by omega) (by omega) (by omega) (by omega)
   refine ⟨e,Ev.step (fun k=>rfl) ?_,by omega,by omega⟩
   simp only [spec_l1End.l0]
   refine Ev.ifp hp (Ev.ifn (by omega) (Ev.step (fun k=>rfl) ?_))
   simp only [spec_l1End.j1]
   refine Ev.ifn (by simp;omega) (Ev.ifp (by omega) (Ev.ifp (by omega) (Ev.ifp h3 ?_)))
   rw [wnext (by omega),e1,e2]
   exact he
  ·obtain ⟨e,he,c1,c2⟩:=ih (i+1) (need - 1) (by omega) (by omega) (by omega) (by omega)
   refine ⟨e,Ev.step (fun k=>rfl) ?_,by omega,by omega⟩
   simp only [spec_l1End.l0]
   refine Ev.ifp hp (Ev.ifn (by omega) (Ev.step (fun k=>rfl) ?_))
   simp only [spec_l1End.j1]
   refine Ev.ifn (by simp;omega) (Ev.ifp (by omega) (Ev.ifp (by omega) (Ev.ifn h3 ?_)))
   rw [wnext (by omega),e1]
   exact he
theorem near_loop {b:List Int} (hb:Code b) (l:List Cell) (hs:Sms 200000 l):∀ (n i:Nat) (out:List Cell) (p:Int),l.length - i≤n→i≤l.length→out.length≤i→0≤p→p≤100000000 - 2 * (n:Int)→
  ∃ r q,Ev (fun k=>spec_l20Near.l0 k l out (i:Int) b p) (r,q):=by
 intro n
 have hl:=hs.1
 induction n with
 | zero=>
  intro i out p hn hi ho h0 h1
  refine ⟨out,p,Ev.step (fun k=>rfl) ?_⟩
  simp only [spec_l20Near.l0]
  exact Ev.ifn (by omega) (Ev.now _)
 | succ n ih=>
  intro i out p hn hi ho h0 h1
  by_cases hlt:(i:Int)<(l.length:Int)
  case neg=>
   refine ⟨out,p,Ev.step (fun k=>rfl) ?_⟩
   simp only [spec_l20Near.l0]
   exact Ev.ifn hlt (Ev.now _)
  obtain ⟨e,he,c1,c2⟩:=end_any l hs (l.length - i) i 1 rfl hi (by omega) (by omega)
  have c2:=c2 (by omega)
  have he':Ev (fun k=>spec_l1End.f k l (i:Int)) e:=he
  by_cases hneg:e<0
  ·refine ⟨l,p,Ev.step (fun k=>rfl) ?_⟩
   simp only [spec_l20Near.l0]
   exact Ev.ifp hlt (Ev.bind he' (Ev.ifp hneg (Ev.now _)))
  obtain ⟨x,hx,_⟩:=pick_ev hb h0 (by omega) 4 (by omega)
  by_cases hx0:x=0
  ·obtain ⟨y,hy,_⟩:=pick_ev hb (p:=p+1) (by omega) (by omega) 8 (by omega)
   obtain ⟨r,q,h⟩:=ih e.toNat (out++[⟨1,y,⟨#[]⟩⟩]) (p+1+1) (by omega) (by omega) (by simp;omega) (by omega) (by omega)
   rw [show ((e.toNat:Nat):Int)=e by omega] at h
   refine ⟨r,q,Ev.step (fun k=>rfl) ?_⟩
   simp only [spec_l20Near.l0]
   exact Ev.ifp hlt (Ev.bind he' (Ev.ifn hneg (Ev.bind hx (Ev.ifp hx0 (Ev.bind hy (Ev.ifp (by omega) h))))))
  ·obtain ⟨r,q,h⟩:=ih (i+1) (out++[rd_T46 l (i:Int)]) (p+1) (by omega) (by omega) (by simp;omega) (by omega) (by omega)
   refine ⟨r,q,Ev.step (fun k=>rfl) ?_⟩
   simp only [spec_l20Near.l0]
   refine Ev.ifp hlt (Ev.bind he' (Ev.ifn hneg (Ev.bind hx (Ev.ifn hx0 (Ev.ifp ⟨by omega,by omega⟩ ?_)))))
   rw [wnext (by omega)]
   exact h
theorem drawSubUnify_ev {l:List Int} (h:IsCode l):∃ s a b,Ev (fun k=>spec_DrawSubUnify.f k l) (s,a,b)∧Smb s∧Sms 200000 a:=by
 obtain ⟨b,hb,hc⟩:=code_of h
 obtain ⟨s,q,hs,sm,q0,q1⟩:=bindsOr_ev hc (p:=0) (by omega) (by omega) 20 (by omega)
 obtain ⟨x,hx,_⟩:=pick_ev hc q0 (by omega) 3 (by omega)
 obtain ⟨t,p,ht,p0,p1,st⟩:=termOr_ev hc (p:=q+1) (by omega) (by omega) 20 (by omega)
 obtain ⟨y,hy,_⟩:=pick_ev hc p0 (by omega) 3 (by omega)
 have sm':Smb (if x=0 then [] else s):=by
  by_cases h:x=0
  ·rw [if_pos h];exact ⟨by simp,by simp,by simp⟩
  ·rw [if_neg h];exact sm
 unfold spec_DrawSubUnify.f
 by_cases hy0:y > 0
 ·obtain ⟨r,z,hr⟩:=near_loop hc t st 41 0 [] (p+1) (by have:=st.1;omega) (by omega) (by simp) (by omega) (by omega)
  have hr':Ev (fun k=>spec_l20Near.f k b (p+1) t) (r,z):=hr
  exact ⟨_,t,r,Ev.bindv hb (Ev.bind hs (Ev.bind hx (Ev.bind ht (Ev.bind hy (Ev.ifp hy0 (Ev.bind hr' (Ev.now _))))))),sm',st⟩
 ·obtain ⟨r,z,hr,_⟩:=termOr_ev hc (p:=p+1) (by omega) (by omega) 20 (by omega)
  exact ⟨_,t,r,Ev.bindv hb (Ev.bind hs (Ev.bind hx (Ev.bind ht (Ev.bind hy (Ev.ifn hy0 (Ev.bind hr (Ev.now _))))))),sm',st⟩
end Go.Proofs.YtlaicnoikeieeaaDoor.Pu
