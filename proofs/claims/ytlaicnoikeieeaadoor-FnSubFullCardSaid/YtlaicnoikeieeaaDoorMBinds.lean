/- What l20Binds and l20BindsOr draw: they end, whatever the code; what is drawn is small, and by l20Binds it is bindings. -/
import Derived.Test.YtlaicnoikeieeaaDoorMDraw
import Derived.Test.YtlaicnoikeieeaaDoorMUniF
import Derived.Test.YtlaicnoikeieeaaDoorMSpecU
import Derived.Test.YtlaicnoikeieeaaDoorP14
import Derived.Test.YtlaicnoikeieeaaDoorP17
import Derived.Test.YtlaicnoikeieeaaDoorP19
namespace Go.Proofs.YtlaicnoikeieeaaDoor.Pu
set_option linter.unusedVariables false
set_option linter.unusedSimpArgs false
open Go.RowKit Go.Proofs.YtlaicnoikeieeaaDoor.Cat Go.Proofs.YtlaicnoikeieeaaDoor.P Go.Proofs.YtlaicnoikeieeaaDoorW.PrintWords Go.Proofs.YtlaicnoikeieeaaDoorW.PrintLast

theorem leafT_ev {b:List Int} (hb:Code b) {p:Int} (h0:0≤p) (h1:p≤1000000000) (v:Int) (hv:v≤1000) :
  ∃ f0 f1 f2,Ev (fun k=>spec_l20Leaf.f k b p v) (f0,f1,f2,p+1+1)∧cellOk ⟨f0,f1,f2⟩=true∧(f0=3→f1=0):=by
 obtain ⟨x,hx,x0,x4,_⟩:=pick_ev hb h0 (by omega) 4 (by omega)
 have x4:=x4 (by omega)
 have hx2:(x == 0)=decide (x=0):=rfl
 unfold spec_l20Leaf.f
 by_cases c01:x=0∨x=1
 ·obtain ⟨y,hy,y0,_,y1⟩:=pick_ev hb (p:=p+1) (by omega) (by omega) v (by omega)
  refine ⟨1,y,⟨#[]⟩,Ev.bind hx ?_,?_,by omega⟩
  ·have J:Ev (fun k=>spec_l20Leaf.j0 k v x true b (p+1)) (1,y,(⟨#[]⟩:ByteArray),p+1+1):=by
    refine Ev.step (fun k=>rfl) ?_
    simp only [spec_l20Leaf.j0]
    exact Ev.ifp (by simp) (Ev.bind hy (Ev.now _))
   by_cases c0:x=0
   ·refine Ev.ifp c0 ?_
    rw [show (x == 0)=true from beq_iff_eq.2 c0];exact J
   ·refine Ev.ifn c0 ?_
    rw [show (x == 1)=true from beq_iff_eq.2 (by omega)];exact J
  ·unfold cellOk
   rw [if_pos rfl,Bool.and_eq_true]
   exact ⟨by simp;omega,rfl⟩
 have e1:(x == 1)=false:=beq_eq_false_iff_ne.2 (by omega)
 by_cases c2:x=2
 ·obtain ⟨y,hy,y0,y6,_⟩:=pick_ev hb (p:=p+1) (by omega) (by omega) 6 (by omega)
  have y6:=y6 (by omega)
  have hm:=rd_mem [0,1,2,-1,7,9999] y y0 (by simpa using y6)
  refine ⟨2,rd [0,1,2,-1,7,9999] y,⟨#[]⟩,Ev.bind hx (Ev.ifn (by omega) ?_),?_,by omega⟩
  ·refine Ev.step (fun k=>rfl) ?_
   simp only [spec_l20Leaf.j0]
   rw [e1]
   exact Ev.ifn (by simp) (Ev.ifp c2 (Ev.bindv rfl (Ev.bind hy (Ev.ifp y0 (Ev.ifp (by simpa using y6) (Ev.now _))))))
  ·simp only [List.mem_cons,List.not_mem_nil,or_false] at hm
   unfold cellOk
   rw [if_neg (by simp),if_pos rfl,Bool.and_eq_true]
   refine ⟨?_,rfl⟩
   simp only [decide_eq_true_eq]
   omega
 ·obtain ⟨y,hy,y0,y4,_⟩:=pick_ev hb (p:=p+1) (by omega) (by omega) 4 (by omega)
  have y4:=y4 (by omega)
  have hm:=rdOf_mem ByteArray.empty [(⟨#[97]⟩:ByteArray),⟨#[98]⟩,⟨#[99]⟩,⟨#[110,105,108]⟩] y y0 (by simpa using y4)
  refine ⟨3,0,rdOf ByteArray.empty [(⟨#[97]⟩:ByteArray),⟨#[98]⟩,⟨#[99]⟩,⟨#[110,105,108]⟩] y,Ev.bind hx (Ev.ifn (by omega) ?_),?_,fun _=>rfl⟩
  ·refine Ev.step (fun k=>rfl) ?_
   simp only [spec_l20Leaf.j0]
   rw [e1]
   exact Ev.ifn (by simp) (Ev.ifn c2 (Ev.bindv rfl (Ev.bind hy (Ev.ifp y0 (Ev.ifp (by simpa using y4) (Ev.now _))))))
  ·simp only [List.mem_cons,List.not_mem_nil,or_false] at hm
   rcases hm with h|h|h|h <;> rw [h] <;> decide

theorem termT_loop {b:List Int} (hb:Code b) (P0:Int) (hP0:0≤P0) (hP1:P0≤100000000) (m v:Int) (hm:m≤40) (hv:v≤1000):∀ (n:Nat) (out:List Cell) (o p:Int),41 - out.length=n→0≤o→(out.length:Int)+o≤40→
  0≤p→p≤P0+5 * out.length→(∀ c ∈ out,cellOk c=true)→1≤out.length+o→(∀ r,Forest o.toNat r→Forest 1 (out++r))→
  ∃ l q,Ev (fun k=>spec_l20Term.l0 k m v out o b p) (l,q)∧0≤q∧q≤P0+200∧1≤l.length∧l.length≤40∧(∀ c ∈ l,cellOk c=true)∧Forest 1 l:=by
 intro n
 induction n with
 | zero=>intro out o p hn;omega
 | succ n ih=>
  intro out o p hn ho hlo hp0 hp1 hs h1 hF
  by_cases hz:o > 0
  case neg=>
   refine ⟨out,p,Ev.step (fun k=>rfl) ?_,hp0,by omega,by omega,by omega,hs,by have:=hF [] (by rw [show o.toNat=0 by omega];exact Forest.nil);simpa using this⟩
   simp only [spec_l20Term.l0]
   exact Ev.ifn hz (Ev.now _)
  obtain ⟨f0,f1,f2,hl,hsm,hf3⟩:=leafT_ev hb hp0 (by omega) v hv
  have e1:wrap64 ((out.length:Int)+o)=out.length+o:=w64 (by omega) (by omega)
  have e2:wrap64 ((out.length:Int)+o+3)=out.length+o+3:=w64 (by omega) (by omega)
  have e3:wrap64 (o - 1)=o - 1:=w64 (by omega) (by omega)
  -- what one place more comes to
  have J2:∀ (c:Cell) (q:Int),cellOk c=true→(c.f0=3→0≤c.f1∧(out.length:Int)+o+c.f1≤40)→0≤q→q≤p+5→
    ∃ l q',Ev (fun k=>spec_l20Term.j2 k m v out o b q c.f0 c.f1 c.f2) (l,q')∧0≤q'∧q'≤P0+200∧1≤l.length∧l.length≤40∧(∀ c ∈ l,cellOk c=true)∧Forest 1 l:=by
   intro c q hc hk hq0 hq1
   by_cases h3:c.f0=3
   ·obtain ⟨k0,k1⟩:=hk h3
    obtain ⟨l,q',hl,r⟩:=ih (out++[c]) (o - 1+c.f1) q (by simp;omega) (by omega) (by simp;omega) hq0 (by simp;omega) (by
     intro d hd
     rcases List.mem_append.1 hd with h|h
     ·exact hs d h
     ·rw [List.mem_singleton.1 h];exact hc) (by simp;omega) (fun r hr=>by
     have:=hF (c :: r) (by
      rw [show o.toNat=(o - 1).toNat+1 by omega,Forest.cons_iff,ar,if_pos h3,show (o - 1).toNat+c.f1.toNat=(o - 1+c.f1).toNat by omega]
      exact hr)
     simpa using this)
    refine ⟨l,q',Ev.step (fun k=>rfl) ?_,r⟩
    simp only [spec_l20Term.j2]
    refine Ev.ifp h3 (Ev.ifp (by omega) ?_)
    rw [e3,w64 (x:=o - 1+c.f1) (by omega) (by omega)]
    exact hl
   ·obtain ⟨l,q',hl,r⟩:=ih (out++[c]) (o - 1) q (by simp;omega) (by omega) (by simp;omega) hq0 (by simp;omega) (by
     intro d hd
     rcases List.mem_append.1 hd with h|h
     ·exact hs d h
     ·rw [List.mem_singleton.1 h];exact hc) (by simp;omega) (fun r hr=>by
     have:=hF (c :: r) (by
      rw [show o.toNat=(o - 1).toNat+1 by omega,Forest.cons_iff,ar,if_neg h3]
      exact hr)
     simpa using this)
    refine ⟨l,q',Ev.step (fun k=>rfl) ?_,r⟩
    simp only [spec_l20Term.j2]
    refine Ev.ifn h3 (Ev.ifp (by omega) ?_)
    rw [e3]
    exact hl
  -- the leaf stays
  have K:∀ q,0≤q→q≤p+5→∃ l q',Ev (fun k=>spec_l20Term.j1 k m v out o false b q f0 f1 f2) (l,q')∧0≤q'∧q'≤P0+200∧1≤l.length∧l.length≤40∧(∀ c ∈ l,cellOk c=true)∧Forest 1 l:=by
   intro q hq0 hq1
   obtain ⟨l,q',hl,r⟩:=J2 ⟨f0,f1,f2⟩ q hsm (fun h=>by have:=hf3 h;show 0≤f1∧_+_+f1≤40;omega) hq0 hq1
   refine ⟨l,q',Ev.step (fun k=>rfl) ?_,r⟩
   simp only [spec_l20Term.j1]
   exact Ev.ifn (by simp) hl
  by_cases hr:(out.length:Int)+o+3<m
  case neg=>
   obtain ⟨l,q',hl',r⟩:=K (p+1+1) (by omega) (by omega)
   refine ⟨l,q',Ev.step (fun k=>rfl) ?_,r⟩
   simp only [spec_l20Term.l0]
   refine Ev.ifp hz (Ev.bind hl ?_)
   simp only [e1,e2]
   exact Ev.ifn hr hl'
  obtain ⟨x,hx,x0,x3,_⟩:=pick_ev hb (p:=p+1+1) (by omega) (by omega) 3 (by omega)
  by_cases hx0:x=0
  ·obtain ⟨y,hy,y0,y3,_⟩:=pick_ev hb (p:=p+1+1+1) (by omega) (by omega) 3 (by omega)
   obtain ⟨z,hzz,z0,z4,_⟩:=pick_ev hb (p:=p+1+1+1+1) (by omega) (by omega) 4 (by omega)
   have y3:=y3 (by omega)
   have z4:=z4 (by omega)
   have hmm:=rdOf_mem ByteArray.empty [(⟨#[102]⟩:ByteArray),⟨#[103]⟩,⟨#[99]⟩,⟨#[115]⟩] z z0 (by simpa using z4)
   have hq1:p+1+1+1+1+1≤p+5:=by omega
   have e4:wrap64 (1+y)=1+y:=w64 (by omega) (by omega)
   obtain ⟨l,q',hl',r⟩:∃ l q',Ev (fun k=>spec_l20Term.j2 k m v out o b (p+1+1+1+1+1) 3 (1+y) (rdOf ByteArray.empty [(⟨#[102]⟩:ByteArray),⟨#[103]⟩,⟨#[99]⟩,⟨#[115]⟩] z)) (l,q')∧0≤q'∧q'≤P0+200∧1≤l.length∧l.length≤40∧(∀ c ∈ l,cellOk c=true)∧Forest 1 l:=by
    exact J2 ⟨3,1+y,rdOf ByteArray.empty [(⟨#[102]⟩:ByteArray),⟨#[103]⟩,⟨#[99]⟩,⟨#[115]⟩] z⟩ _ (by
     have hz:nameOk (rdOf ByteArray.empty [(⟨#[102]⟩:ByteArray),⟨#[103]⟩,⟨#[99]⟩,⟨#[115]⟩] z)=true:=by
      simp only [List.mem_cons,List.not_mem_nil,or_false] at hmm
      rcases hmm with h|h|h|h <;> rw [h] <;> decide
     unfold cellOk
     rw [if_neg (by simp),if_neg (by simp),if_pos rfl,Bool.and_eq_true]
     refine ⟨?_,hz⟩
     simp only [decide_eq_true_eq]
     omega) (fun _=>by show 0≤1+y∧(out.length:Int)+o+(1+y)≤40;omega) (by omega) (by omega)
   refine ⟨l,q',Ev.step (fun k=>rfl) ?_,r⟩
   simp only [spec_l20Term.l0]
   refine Ev.ifp hz (Ev.bind hl ?_)
   simp only [e1,e2]
   refine Ev.ifp hr (Ev.bind hx (Ev.step (fun k=>rfl) ?_))
   simp only [spec_l20Term.j1]
   refine Ev.ifp (by simp [hx0]) (Ev.bind hy (Ev.bindv rfl (Ev.bind hzz (Ev.ifp z0 (Ev.ifp (by simpa using z4) ?_)))))
   simp only [e4]
   exact hl'
  ·obtain ⟨l,q',hl',r⟩:=K (p+1+1+1) (by omega) (by omega)
   refine ⟨l,q',Ev.step (fun k=>rfl) ?_,r⟩
   simp only [spec_l20Term.l0]
   refine Ev.ifp hz (Ev.bind hl ?_)
   simp only [e1,e2]
   refine Ev.ifp hr (Ev.bind hx ?_)
   simp only [show (x == 0)=false from beq_eq_false_iff_ne.2 hx0]
   exact hl'

theorem termT_ev {b:List Int} (hb:Code b) {p:Int} (h0:0≤p) (h1:p≤100000000) (m v:Int) (hm:m≤40) (hv:v≤1000) :
  ∃ l q,Ev (fun k=>spec_l20Term.f k b p m v) (l,q)∧0≤q∧q≤p+200∧isTerm l=true:=by
 obtain ⟨l,q,h,q0,q1,l1,l2,l3,l4⟩:=termT_loop hb p h0 h1 m v hm hv 41 [] 1 p (by simp) (by omega) (by simp) h0 (by simp) (by simp) (by simp) (fun r hr=>by simpa using hr)
 exact ⟨l,q,h,q0,q1,isTerm_iff'.2 ⟨by omega,l2,l3,l4⟩⟩
end Go.Proofs.YtlaicnoikeieeaaDoor.Pu

namespace Go.Proofs.YtlaicnoikeieeaaDoor.Pu
set_option linter.unusedVariables false
set_option linter.unusedSimpArgs false
open Go.RowKit Go.Proofs.YtlaicnoikeieeaaDoor.Cat Go.Proofs.YtlaicnoikeieeaaDoor.P Go.Proofs.YtlaicnoikeieeaaDoorW.PrintWords Go.Proofs.YtlaicnoikeieeaaDoorW.PrintLast

theorem scopy_loop:∀ (r a:List Bind),(a++r).length≤1099511627776→(∀ b ∈ r,b.f1.length≤1099511627776)→Ev (fun k=>spec_l2Copy.l0 k (a++r) a ((a.length:Nat):Int)) (a++r)
 | [],a,hl,hs=>by
  refine Ev.step (fun k=>rfl) ?_
  simp only [spec_l2Copy.l0]
  rw [List.append_nil]
  exact Ev.ifn (by omega) (Ev.now _)
 | b :: r,a,hl,hs=>by
  have I:=scopy_loop r (a++[b]) (by simpa using hl) (fun c hc=>hs c (by simp [hc]))
  rw [snoc_len,List.append_assoc,List.singleton_append] at I
  have hi:a.length<(a++b :: r).length:=by simp
  have hb:=hs b (by simp)
  refine Ev.step (fun k=>rfl) ?_
  simp only [spec_l2Copy.l0]
  rw [rdBb]
  refine Ev.ifp (lt_app a r b) (Ev.ifp (by omega) (Ev.bindv rfl (Ev.ifp (by simp;omega) (Ev.ifp (by omega) ?_))))
  rw [wnext (by omega)]
  exact I
theorem scopy_ev (s:List Bind) (hl:s.length≤1099511627776) (hs:∀ b ∈ s,b.f1.length≤1099511627776):Ev (fun k=>spec_l2Copy.f k s) s:=by
 unfold spec_l2Copy.f
 exact scopy_loop s [] (by simpa using hl) hs

theorem uni_oks {s:List Bind} (hs:Oks s) {a b:List Cell} (ha:isTerm a=true) (hb:isTerm b=true) {x:List Bind} (he:uni s [(a,b)]=some x):Oks x:=by
 have hu:=uni_spec hs.good (okP_one ha hb)
 have hr:=hu.sound hs.good (okP_one ha hb)
 have hm:=hu.small hs.good (okP_one ha hb) hs.small (by
  intro p hp
  rw [List.mem_singleton.1 hp]
  exact ⟨(isTerm_iff'.1 ha).2.1,(isTerm_iff'.1 hb).2.1⟩)
 rw [he] at hr
 obtain ⟨g,_,_⟩:=hr
 exact ⟨g,hm x he⟩

theorem binds_loop {b:List Int} (hb:Code b):∀ (n:Nat) (s:List Bind) (p:Int),Oks s→n≤6→0≤p→p≤9900000+400 * (6 - n)→∃ s' q,(∃ N,∀ K f,N≤K→N≤f→bindsF K b f s (n:Int) p=some (s',q))∧Oks s'∧0≤q∧q≤p+400 * n:=by
 intro n
 induction n with
 | zero=>
  intro s p hs _ h0 h1
  refine ⟨s,p,⟨1,fun K f hK hf=>?_⟩,hs,h0,by omega⟩
  obtain ⟨f,rfl⟩:∃ m,f=m+1:=⟨f - 1,by omega⟩
  rw [bindsF,if_pos (by omega)]
 | succ n ih=>
  intro s p hs hn h0 h1
  obtain ⟨t1,q1,⟨N1,e1⟩,a1,b1,T1⟩:=termT_ev hb h0 (by omega) 8 6 (by omega) (by omega)
  obtain ⟨t2,q2,⟨N2,e2⟩,a2,b2,T2⟩:=termT_ev hb a1 (by omega) 8 6 (by omega) (by omega)
  have hlen:=good_len hs.good
  obtain ⟨N3,e3⟩:=scopy_ev s (by omega) (fun b hb=>by have:=hs.small b hb;omega)
  obtain ⟨N4,e4⟩:=l2unify_ev hs T1 T2
  have hs':Oks (match uni s [(t1,t2)] with|none=>s|some x=>x):=by
   cases he:uni s [(t1,t2)] with
   | none=>exact hs
   | some x=>exact uni_oks hs T1 T2 he
  obtain ⟨s',q,⟨N5,e5⟩,o,r0,r1⟩:=ih _ q2 hs' (by omega) a2 (by omega)
  refine ⟨s',q,⟨N1+N2+N3+N4+N5+1,fun K f hK hf=>?_⟩,o,r0,by omega⟩
  obtain ⟨f,rfl⟩:∃ m,f=m+1:=⟨f - 1,by omega⟩
  have g1:spec_l20Term.f K b p 8 6=some (t1,q1):=e1 K (by omega)
  have g2:spec_l20Term.f K b q1 8 6=some (t2,q2):=e2 K (by omega)
  have g3:spec_l2Copy.f K s=some s:=e3 K (by omega)
  have g4:l2uniF K K s [t1] [t2]=some (uni s [(t1,t2)]):=e4 K (by omega)
  rw [bindsF,if_neg (by omega),if_pos (by omega),g3]
  simp only [Option.bind_some]
  rw [g1]
  simp only [Option.bind_some]
  rw [g2]
  simp only [Option.bind_some]
  rw [g4]
  simp only [Option.bind_some]
  rw [show ((n+1:Nat):Int) - 1=(n:Int) by omega]
  exact e5 K f (by omega) (by omega)

theorem binds_ev {b:List Int} (hb:Code b) {p:Int} (h0:0≤p) (h1:p≤9000000):∃ s q,Ev (fun k=>spec_l20Binds.f k b p) (s,q)∧Oks s∧0≤q∧q≤p+2500:=by
 obtain ⟨x,hx,x0,x6,_⟩:=pick_ev hb h0 (by omega) 6 (by omega)
 have x6:=x6 (by omega)
 obtain ⟨s,q,⟨N,h⟩,o,q0,q1⟩:=binds_loop hb x.toNat [] (p+1) Oks.nil (by omega) (by omega) (by omega)
 rw [show ((x.toNat:Nat):Int)=x by omega] at h
 refine ⟨s,q,?_,o,q0,by omega⟩
 unfold spec_l20Binds.f
 exact Ev.bind hx ⟨N,fun k hk=>h k k hk hk⟩

theorem wf64 {x:Int} (h0:-9223372036854775808≤x) (h1:x≤9223372036854775807):(Lit.int .i64 x).wf=true:=by
 have e:IntKind.i64.min = -9223372036854775808:=by decide
 have e2:IntKind.i64.max=9223372036854775807:=by decide
 simp [Lit.wf,e,e2,h0,h1]

/-- bindings that are small, sound or not -/
structure Smb (s:List Bind):Prop where
 len:s.length≤100002
 wf:∀ b ∈ s,(Lit.int .i64 b.f0).wf=true
 each:∀ b ∈ s,b.f1.length≤41
theorem smb_of {s:List Bind} (h:Oks s):Smb s:=⟨by have:=good_len h.good;omega,fun b hb=>by have:=h.good.range b hb;exact wf64 (by omega) (by omega),fun b hb=>by have:=h.small b hb;omega⟩
theorem Smb.snoc {s:List Bind} (h:Smb s) (hl:s.length≤100001) (v:Int) (t:List Cell) (hv:-1≤v∧v≤100000) (ht:t.length≤41):Smb (s++[⟨v,t⟩]):=by
 refine ⟨by simp;omega,fun b hb=>?_,fun b hb=>?_⟩
 ·rcases List.mem_append.1 hb with hb|hb
  ·exact h.wf b hb
  ·rw [List.mem_singleton.1 hb];exact wf64 (show -9223372036854775808≤v by omega) (by show v≤9223372036854775807;omega)
 ·rcases List.mem_append.1 hb with hb|hb
  ·exact h.each b hb
  ·rw [List.mem_singleton.1 hb];exact ht

theorem bindsOr_ev {b:List Int} (hb:Code b) {p:Int} (h0:0≤p) (h1:p≤8000000) (n:Int) (hn:n≤2147483648):∃ s q,Ev (fun k=>spec_l20BindsOr.f k b p n) (s,q)∧Smb s∧0≤q∧q≤p+3000:=by
 obtain ⟨s,q,hs,o,q0,q1⟩:=binds_ev hb h0 (by omega)
 obtain ⟨x,hx⟩:=odd_ev hb q0 (by omega) n hn
 have hlen:=good_len o.good
 have sm:=smb_of o
 unfold spec_l20BindsOr.f
 cases x with
 | false=>exact ⟨s,q+1,Ev.bind hs (Ev.bind hx (Ev.ifn (by simp) (Ev.now _))),sm,by omega,by omega⟩
 | true=>
  obtain ⟨y,hy,y0,y4,_⟩:=pick_ev hb (p:=q+1) (by omega) (by omega) 4 (by omega)
  by_cases e0:y=0
  ·exact ⟨_,q+1+1,Ev.bind hs (Ev.bind hx (Ev.ifp (by simp) (Ev.bind hy (Ev.ifp e0 (Ev.ifp (by simp;omega) (Ev.now _)))))),sm.snoc (by omega) 0 _ (by omega) (by simp),by omega,by omega⟩
  by_cases e1:y=1
  ·obtain ⟨z,hz,z0,z2,_⟩:=pick_ev hb (p:=q+1+1) (by omega) (by omega) 2 (by omega)
   have z2:=z2 (by omega)
   have hm:=rd_mem [(-1),100000] z z0 (by simpa using z2)
   simp only [List.mem_cons,List.not_mem_nil,or_false] at hm
   exact ⟨s++[⟨rd [(-1),100000] z,[⟨2,0,⟨#[]⟩⟩]⟩],q+1+1+1,Ev.bind hs (Ev.bind hx (Ev.ifp (by simp) (Ev.bind hy (Ev.ifn e0 (Ev.ifp e1 (Ev.bindv rfl (Ev.bind hz (Ev.ifp z0 (Ev.ifp (by simpa using z2) (Ev.ifp (by simp;omega) (Ev.now _))))))))))),sm.snoc (by omega) (rd [(-1),100000] z) _ (by omega) (by simp),by omega,by omega⟩
  by_cases e2:y=2
  ·obtain ⟨t,q2,ht,t0,t1,l1,l2,ts⟩:=term_ev hb (p:=q+1+1) (by omega) (by omega) 8 3 (by omega) (by omega)
   obtain ⟨r,q3,hr,r0,r1,rs⟩:=spoil_ev hb (p:=q2) (by omega) (by omega) t l1 l2 ts
   exact ⟨_,q3,Ev.bind hs (Ev.bind hx (Ev.ifp (by simp) (Ev.bind hy (Ev.ifn e0 (Ev.ifn e1 (Ev.ifp e2 (Ev.bind ht (Ev.bind hr (Ev.ifp (by simp;omega) (Ev.now _)))))))))),sm.snoc (by omega) 9 _ (by omega) rs.1,by omega,by omega⟩
  ·exact ⟨_,q+1+1,Ev.bind hs (Ev.bind hx (Ev.ifp (by simp) (Ev.bind hy (Ev.ifn e0 (Ev.ifn e1 (Ev.ifn e2 (Ev.ifp (by simp;omega) (Ev.bindv rfl (Ev.ifp (by simp;omega) (Ev.now _)))))))))),(sm.snoc (by omega) 7 _ (by omega) (by simp)).snoc (by simp;omega) 8 _ (by omega) (by simp),by omega,by omega⟩
end Go.Proofs.YtlaicnoikeieeaaDoor.Pu
