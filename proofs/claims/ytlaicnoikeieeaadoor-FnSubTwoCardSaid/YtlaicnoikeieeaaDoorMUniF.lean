/- What the program's get, walk, fill, holds, bind and unify answer, in the words of the plain theory. -/
import Derived.Test.YtlaicnoikeieeaaDoorMFree
import Derived.Test.YtlaicnoikeieeaaDoorMArg
import Derived.Test.YtlaicnoikeieeaaDoorMSubOk
import Derived.Test.YtlaicnoikeieeaaDoorMLeads
import Derived.Test.YtlaicnoikeieeaaDoorP6
import Derived.Test.YtlaicnoikeieeaaDoorP6
import Derived.Test.YtlaicnoikeieeaaDoorP7
namespace Go.Proofs.YtlaicnoikeieeaaDoor.P
set_option linter.unusedVariables false
set_option linter.unusedSimpArgs false
open Go.RowKit Go.Proofs.YtlaicnoikeieeaaDoor.Cat Go.Proofs.YtlaicnoikeieeaaDoorW.PrintWords Go.Proofs.YtlaicnoikeieeaaDoorW.PrintLast
theorem getL_get {s:List Bind} (hs:Cat.Good s) (v:Int):getL s v=Cat.get s v:=by
 cases h:Cat.get s v with
 | none=>exact getL_none s v (get_none h)
 | some t=>
  obtain ⟨b,hb,rfl,rfl⟩:=get_mem h
  obtain ⟨j,hj,rfl⟩:=List.getElem_of_mem hb
  refine getL_at s _ j hj rfl (fun i hi hji e=>?_)
  have hn:=hs.nodup
  have:=List.getElem_inj (h₀:=by simpa using hi) (h₁:=by simpa using hj) hn |>.1 (by simpa using e)
  omega
theorem term_pos {s:List Bind} (hs:Cat.Good s) {v:Int} {t:List Cell} (h:Cat.get s v=some t):t≠[]:=(hs.get h).1.pos
theorem walkF_ev {s:List Bind} (hs:Cat.Good s) {a u:List Cell} (h:Walk s a u):∃ N,∀ k,N≤k→walkF s k a=some u:=by
 induction h with
 | @stop c l hc=>
  refine ⟨1,fun k hk=>?_⟩
  obtain ⟨k,rfl⟩:∃ m,k=m+1:=⟨k - 1,by omega⟩
  rw [walkF]
  by_cases h1:c.f0=1
  ·rw [if_pos h1,getL_get hs,hc h1]
  ·rw [if_neg h1]
 | @go c l t u h1 h2 h3 ih=>
  obtain ⟨N,ih⟩:=ih
  refine ⟨N+1,fun k hk=>?_⟩
  obtain ⟨k,rfl⟩:∃ m,k=m+1:=⟨k - 1,by omega⟩
  rw [walkF,if_pos h1,getL_get hs,h2]
  show (if t=[] then none else walkF s k t)=some u
  rw [if_neg (term_pos hs h2)]
  exact ih k (by omega)
theorem fillF_ev {s:List Bind} (hs:Cat.Good s) {t u:List Cell} (h:Full s t u):∃ N,∀ k,N≤k→∀ out,∃ o,fillF s k out t=some o∧(out.length+u.length≤40→o=out++u)∧(40<out.length+u.length→40<o.length):=by
 induction h with
 | nil=>
  refine ⟨1,fun k hk out=>?_⟩
  obtain ⟨k,rfl⟩:∃ m,k=m+1:=⟨k - 1,by omega⟩
  refine ⟨out,by rw [fillF,fillL],fun _=>by simp,fun h=>by simpa using h⟩
 | @keep c l u hc _ ih=>
  obtain ⟨N,ih⟩:=ih
  refine ⟨N+1,fun k hk out=>?_⟩
  obtain ⟨k,rfl⟩:∃ m,k=m+1:=⟨k - 1,by omega⟩
  by_cases h40:40<out.length
  ·exact ⟨out,by rw [fillF,fillL,if_pos h40],fun h=>by simp at h;omega,fun _=>h40⟩
  ·obtain ⟨o,h1,h2,h3⟩:=ih (k+1) (by omega) (out++[c])
   refine ⟨o,?_,fun h=>?_,fun h=>?_⟩
   ·rw [fillF] at h1
    rw [fillF,fillL,if_neg h40]
    by_cases hv:c.f0=1
    ·rw [if_pos hv,getL_get hs,hc hv];exact h1
    ·rw [if_neg hv];exact h1
   ·rw [h2 (by simp at h ⊢;omega)];simp
   ·exact h3 (by simp at h ⊢;omega)
 | @sub c l t u1 u2 hv hg _ _ ih1 ih2=>
  obtain ⟨N1,ih1⟩:=ih1
  obtain ⟨N2,ih2⟩:=ih2
  refine ⟨max N1 N2+1,fun k hk out=>?_⟩
  obtain ⟨k,rfl⟩:∃ m,k=m+1:=⟨k - 1,by omega⟩
  by_cases h40:40<out.length
  ·exact ⟨out,by rw [fillF,fillL,if_pos h40],fun h=>by simp at h;omega,fun _=>h40⟩
  ·obtain ⟨o1,h1,h2,h3⟩:=ih1 k (by omega) out
   obtain ⟨o,g1,g2,g3⟩:=ih2 (k+1) (by omega) o1
   refine ⟨o,?_,fun h=>?_,fun h=>?_⟩
   ·rw [fillF] at g1
    rw [fillF,fillL,if_neg h40,if_pos hv,getL_get hs,hg]
    show (if t=[] then none else (fillF s k out t).bind fun o=>fillL (fillF s k) (getL s) o l)=some o
    rw [if_neg (term_pos hs hg),h1]
    exact g1
   ·rw [List.length_append] at h
    have e:=h2 (by omega)
    rw [g2 (by rw [e,List.length_append];omega),e,List.append_assoc]
   ·rw [List.length_append] at h
    by_cases hb:40<out.length+u1.length
    ·have:=h3 hb
     exact g3 (by omega)
    ·have e:=h2 (by omega)
     exact g3 (by rw [e,List.length_append];omega)
theorem ifull_ev {s:List Bind} (hs:Cat.Good s) {t:List Cell} (ht:okl t):Ev (fun k=>impl_bindings_full.f k s t) (if 40<(full s t).length then ([],false) else (full s t,true)):=by
 obtain ⟨N,h⟩:=fillF_ev hs (full_full hs ht)
 refine ⟨N,fun k hk=>?_⟩
 obtain ⟨o,h1,h2,h3⟩:=h k hk []
 show ((fillF s k [] t).bind fun o=>if 40<o.length then some ([],false) else some (o,true))=_
 rw [h1]
 simp only [Option.bind_some]
 simp only [List.length_nil,Nat.zero_add] at h2 h3
 by_cases hb:40<(full s t).length
 ·rw [if_pos hb,if_pos (h3 hb)]
 ·rw [if_neg hb,h2 (by omega)]
  rw [List.nil_append,if_neg hb]
theorem holdF_eq {s:List Bind} (hs:Cat.Good s) {K:Nat} {TS:List (List Cell)} (hK:∀ x ∈ TS,impl_TrmFree.f K x=some (frees x)) (hm:∀ b ∈ s,b.f1 ∈ TS) (ho:∀ x ∈ TS,okl x) (v:Int) :
  ∀ (k:Nat) (sn:Int→Bool) (t:List Cell),t ∈ TS→holdF s K v k sn t=holdsF (Cat.get s) v k sn t
 | 0,_,_,_=>rfl
 | k+1,sn,t,ht=>by
  have hl:∀ (ns:List Int) (sn:Int→Bool),(∀ n ∈ ns,0≤n∧n≤99999)→holdL (holdF s K v k) (getL s) v sn ns=holdsL (holdsF (Cat.get s) v k) (Cat.get s) v sn ns:=by
   intro ns
   induction ns with
   | nil=>intro sn _;rfl
   | cons n ns ih=>
    intro sn hn
    rw [holdL,holdsL,if_pos (hn n (by simp)),getL_get hs]
    by_cases hv:n=v
    ·rw [if_pos hv,if_pos hv]
    ·rw [if_neg hv,if_neg hv]
     by_cases hq:sn n=true
     ·rw [if_pos hq,if_pos hq]
      exact ih sn (fun m hm=>hn m (by simp [hm]))
     ·rw [if_neg hq,if_neg hq]
      cases hg:Cat.get s n with
      | none=>exact ih _ (fun m hm=>hn m (by simp [hm]))
      | some t1=>
       simp only
       rw [if_neg (term_pos hs hg)]
       obtain ⟨b,hb,_,rfl⟩:=get_mem hg
       rw [holdF_eq hs hK hm ho v k _ _ (hm b hb)]
       congr 1
       funext r
       by_cases hr:r.1=true
       ·rw [if_pos hr,if_pos hr]
       ·rw [if_neg hr,if_neg hr]
        exact ih r.2 (fun m hm=>hn m (by simp [hm]))
  rw [holdF,holdsF,hK t ht]
  simp only [Option.bind_some]
  refine hl _ _ (fun n hn=>?_)
  obtain ⟨c,hc,h1,rfl⟩:=mem_frees.1 hn
  exact var_range (ho t ht c hc) h1
theorem good_len {s:List Bind} (hs:Cat.Good s):s.length≤100000:=by
 have h:=nodup_len (U:=(List.range 100000).map Int.ofNat) hs.nodup (fun x hx=>by
  obtain ⟨b,hb,rfl⟩:=List.mem_map.1 hx
  have:=hs.range b hb
  refine List.mem_map.2 ⟨b.f0.toNat,List.mem_range.2 (by omega),?_⟩
  show ((b.f0.toNat:Nat):Int)=b.f0
  omega)
 simpa using h
theorem bindF_ev {s:List Bind} (hs:Cat.Good s) (v:Int) {t:List Cell} (ht:okl t) (hl:t.length≤40) (hsm:∀ b ∈ s,b.f1.length≤40):∃ N,∀ k,N≤k→∃ r,bindF k s v t=some r∧(Cat.Reach s t v→r=none)∧(¬ Cat.Reach s t v→r=some (s++[⟨v,t⟩])):=by
 obtain ⟨N,hN⟩:=Ev_all (fun k x=>impl_TrmFree.f k x) frees (t :: s.map (·.f1)) (fun x hx=>by
  refine ifree_ev x ?_
  rcases List.mem_cons.1 hx with rfl|hx
  ·omega
  ·obtain ⟨b,hb,rfl⟩:=List.mem_map.1 hx
   have:=hsm b hb
   omega)
 have hU:∃ U:List Int,(∀ x t,Cat.get s x=some t→∀ y ∈ frees t,y ∈ U)∧∀ y ∈ frees t,y ∈ U:=by
  refine ⟨frees t++s.flatMap (fun b=>frees b.f1),fun x u hx y hy=>?_,fun y hy=>List.mem_append_left _ hy⟩
  obtain ⟨b,hb,_,rfl⟩:=get_mem hx
  exact List.mem_append_right _ (List.mem_flatMap.2 ⟨b,hb,hy⟩)
 obtain ⟨U,h1,h2⟩:=hU
 refine ⟨max N (unseen U (fun _=>false)+1),fun k hk=>?_⟩
 obtain ⟨j,rfl⟩:∃ m,k=m+1:=⟨k - 1,by omega⟩
 obtain ⟨⟨b,sn'⟩,e,_⟩:=holdsF_ends (g:=Cat.get s) (v:=v) h1 j (fun _=>false) t h2 (by omega)
 have htop:=holds_top e
 have hh:holdF s (j+1) v (j+1) (fun _=>false) t=some (b,sn'):=by
  rw [holdF_eq hs (hN (j+1) (by omega)) (fun b hb=>by simp only [List.mem_cons,List.mem_map];exact .inr ⟨b,hb,rfl⟩) (fun x hx=>?_) v (j+1) _ t (by simp)]
  ·exact e
  ·rcases List.mem_cons.1 hx with rfl|hx
   ·exact ht
   ·obtain ⟨b,hb,rfl⟩:=List.mem_map.1 hx
    exact (hs.term b hb).2
 have hgl:=good_len hs
 refine ⟨if b=true then none else some (s++[⟨v,t⟩]),?_,fun hr=>by rw [if_pos (htop.2 hr)],fun hr=>by rw [if_neg (fun h=>hr (htop.1 h))]⟩
 unfold bindF
 rw [if_pos ⟨by omega,by omega⟩,hh]
 rfl
theorem uniL_append (f:List Bind→List Cell→List Cell→Option (Option (List Bind))):∀ (as_ os bs ps:List (List Cell)) (s:List Bind),as_.length=os.length→
  uniL f s (as_++bs) (os++ps)=(uniL f s as_ os).bind fun r=>match r with
   | none=>some none
   | some s'=>uniL f s' bs ps
 | [],[],bs,ps,s,_=>by simp [uniL]
 | a :: as_,o :: os,bs,ps,s,h=>by
  rw [List.cons_append,List.cons_append,uniL,uniL,Option.bind_assoc]
  congr 1
  funext r
  cases r with
  | none=>rfl
  | some s'=>exact uniL_append f as_ os bs ps s' (by simpa using h)
theorem uniL_mono {f g:List Bind→List Cell→List Cell→Option (Option (List Bind))} (h:∀ s a b x,f s a b=some x→g s a b=some x):∀ (as_ os:List (List Cell)) (s:List Bind) (r:Option (List Bind)),uniL f s as_ os=some r→uniL g s as_ os=some r
 | [],_,s,r,e=>by simpa [uniL] using e
 | _ :: _,[],s,r,e=>by simp [uniL] at e
 | a :: as_,o :: os,s,r,e=>by
  rw [uniL] at e ⊢
  obtain ⟨x,h1,h2⟩:=Option.bind_eq_some_iff.1 e
  rw [h _ _ _ _ h1]
  cases x with
  | none=>exact h2
  | some s'=>exact uniL_mono h as_ os s' r h2
theorem uniF_mono (K:Nat):∀ (k:Nat) (s:List Bind) (a b:List Cell) (x:Option (List Bind)),uniF K k s a b=some x→uniF K (k+1) s a b=some x
 | 0,s,a,b,x,h=>by cases h
 | k+1,s,a,b,x,h=>by
  rw [uniF] at h ⊢
  obtain ⟨a',h1,h⟩:=Option.bind_eq_some_iff.1 h
  obtain ⟨b',h2,h⟩:=Option.bind_eq_some_iff.1 h
  rw [h1,h2]
  simp only [Option.bind_some]
  cases a' with
  | nil=>cases h
  | cons c l=>
   cases b' with
   | nil=>cases h
   | cons d m=>
    simp only at h ⊢
    by_cases q1:c.f0=1∧c=d
    ·rw [if_pos q1] at h ⊢;exact h
    ·rw [if_neg q1] at h ⊢
     by_cases q2:c.f0=1
     ·rw [if_pos q2] at h ⊢;exact h
     ·rw [if_neg q2] at h ⊢
      by_cases q3:d.f0=1
      ·rw [if_pos q3] at h ⊢;exact h
      ·rw [if_neg q3] at h ⊢
       by_cases q4:c≠d
       ·rw [if_pos q4] at h ⊢;exact h
       ·rw [if_neg q4] at h ⊢
        obtain ⟨os,h3,h⟩:=Option.bind_eq_some_iff.1 h
        obtain ⟨as_,h4,h⟩:=Option.bind_eq_some_iff.1 h
        rw [h3,h4]
        simp only [Option.bind_some]
        exact uniL_mono (uniF_mono K k) _ _ _ _ h
def stepF (K k:Nat) (s:List Bind) (c:Cell) (l:List Cell) (d:Cell) (m:List Cell):Option (Option (List Bind)):=
 if c.f0=1∧c=d then some (some s) else if c.f0=1 then bindF K s c.f1 (d :: m) else if d.f0=1 then bindF K s d.f1 (c :: l) else if c≠d then some none else
  (impl_args.f K (d :: m)).bind fun os=>(impl_args.f K (c :: l)).bind fun as_=>uniL (uniF K k) s as_ os
theorem uniF_step {K k:Nat} {s:List Bind} {a b:List Cell} {c d:Cell} {l m:List Cell} (ha:walkF s K a=some (c :: l)) (hb:walkF s K b=some (d :: m)):uniF K (k+1) s a b=stepF K k s c l d m:=by
 rw [uniF,ha,hb]
 rfl
theorem uniF_ev {s:List Bind} {ps:Pairs} {r:Option (List Bind)} (h:Uni s ps r):Cat.Good s→OkP ps→(∀ b ∈ s,b.f1.length≤40)→(∀ p ∈ ps,p.1.length≤40∧p.2.length≤40)→
  ∃ N,∀ K k,N≤K→N≤k→uniL (uniF K k) s (ps.map (·.1)) (ps.map (·.2))=some r:=by
 have two:∀ {s:List Bind} {a b:List Cell} {u v:List Cell},Cat.Good s→Walk s a u→Walk s b v→∃ N,∀ K,N≤K→walkF s K a=some u∧walkF s K b=some v:=fun g ha hb=>by
  obtain ⟨N1,h1⟩:=walkF_ev g ha
  obtain ⟨N2,h2⟩:=walkF_ev g hb
  exact ⟨max N1 N2,fun K hK=>⟨h1 K (by omega),h2 K (by omega)⟩⟩
 have done:∀ {s:List Bind} {a b:List Cell} {ps:Pairs} {q:Option (List Bind)} {r:Option (List Bind)} {N1:Nat},(∀ K k,N1≤K→N1≤k→uniF K k s a b=some q)→
   (q=none→r=none)→(∀ s',q=some s'→∃ N2,∀ K k,N2≤K→N2≤k→uniL (uniF K k) s' (ps.map (·.1)) (ps.map (·.2))=some r)→
   ∃ N,∀ K k,N≤K→N≤k→uniL (uniF K k) s (((a,b) :: ps).map (·.1)) (((a,b) :: ps).map (·.2))=some r:=fun {s a b ps q r N1} h1 h2 h3=>by
  cases q with
  | none=>
   refine ⟨N1,fun K k hK hk=>?_⟩
   rw [List.map_cons,List.map_cons,uniL,h1 K k hK hk,h2 rfl]
   rfl
  | some s'=>
   obtain ⟨N2,h3⟩:=h3 s' rfl
   refine ⟨max N1 N2,fun K k hK hk=>?_⟩
   rw [List.map_cons,List.map_cons,uniL,h1 K k (by omega) (by omega)]
   exact h3 K k (by omega) (by omega)
 induction h with
 | done=>intro _ _ _ _;exact ⟨0,fun K k _ _=>rfl⟩
 | @same s a b c x y ps r ha hb hc _ ih=>
  intro g ho hs hp
  obtain ⟨N1,hw⟩:=two g ha hb
  refine done (q:=some s) (N1:=N1+1) (fun K k hK hk=>?_) (fun e=>by cases e) (fun s' e=>by cases e;exact ih g (okP_cons.1 ho).2 hs (fun p h=>hp p (by simp [h])))
  obtain ⟨k,rfl⟩:∃ m,k=m+1:=⟨k - 1,by omega⟩
  rw [uniF_step (hw K (by omega)).1 (hw K (by omega)).2,stepF,if_pos ⟨hc,rfl⟩]
 | @bindL s a b c d x y ps r ha hb hc hcd hr _ ih=>
  intro g ho hs hp
  obtain ⟨⟨a1,a2,b1,b2⟩,ho⟩:=okP_cons.1 ho
  obtain ⟨w1,w2,_,_,w5⟩:=ha.spec g a1 a2
  obtain ⟨z1,z2,_,_,_⟩:=hb.spec g b1 b2
  have hok:=(okl_cons.1 w2).1
  obtain rfl:=w1.var hc
  have hl:=hb.small hs (hp (a,b) (by simp)).2
  obtain ⟨N1,hw⟩:=two g ha hb
  obtain ⟨N2,hbi⟩:=bindF_ev g c.f1 z2 hl hs
  refine done (q:=some (s++[⟨c.f1,d :: y⟩])) (N1:=max N1 N2+1) (fun K k hK hk=>?_) (fun e=>by cases e) (fun s' e=>by
   cases e
   refine ih (g.bind (var_range hok hc) (w5 c [] rfl hc) z1 z2 hr) ho ?_ (fun p h=>hp p (by simp [h]))
   intro e he
   rcases List.mem_append.1 he with he|he
   ·exact hs e he
   ·rw [List.mem_singleton.1 he];exact hl)
  obtain ⟨k,rfl⟩:∃ m,k=m+1:=⟨k - 1,by omega⟩
  obtain ⟨q,h1,_,h3⟩:=hbi K (by omega)
  rw [uniF_step (hw K (by omega)).1 (hw K (by omega)).2,stepF,if_neg (fun h=>hcd h.2),if_pos hc,h1,h3 hr]
 | @occL s a b c d x y ps ha hb hc hcd hr=>
  intro g ho hs hp
  obtain ⟨⟨a1,a2,b1,b2⟩,ho⟩:=okP_cons.1 ho
  obtain ⟨z1,z2,_,_,_⟩:=hb.spec g b1 b2
  have hl:=hb.small hs (hp (a,b) (by simp)).2
  obtain ⟨N1,hw⟩:=two g ha hb
  obtain ⟨N2,hbi⟩:=bindF_ev g c.f1 z2 hl hs
  refine done (q:=none) (N1:=max N1 N2+1) (fun K k hK hk=>?_) (fun _=>rfl) (fun s' e=>by cases e)
  obtain ⟨k,rfl⟩:∃ m,k=m+1:=⟨k - 1,by omega⟩
  obtain ⟨q,h1,h2,_⟩:=hbi K (by omega)
  rw [uniF_step (hw K (by omega)).1 (hw K (by omega)).2,stepF,if_neg (fun h=>hcd h.2),if_pos hc,h1,h2 hr]
 | @bindR s a b c d x y ps r ha hb hc hd hr _ ih=>
  intro g ho hs hp
  obtain ⟨⟨a1,a2,b1,b2⟩,ho⟩:=okP_cons.1 ho
  obtain ⟨w1,w2,_,_,_⟩:=ha.spec g a1 a2
  obtain ⟨z1,z2,_,_,z5⟩:=hb.spec g b1 b2
  have hok:=(okl_cons.1 z2).1
  obtain rfl:=z1.var hd
  have hl:=ha.small hs (hp (a,b) (by simp)).1
  obtain ⟨N1,hw⟩:=two g ha hb
  obtain ⟨N2,hbi⟩:=bindF_ev g d.f1 w2 hl hs
  refine done (q:=some (s++[⟨d.f1,c :: x⟩])) (N1:=max N1 N2+1) (fun K k hK hk=>?_) (fun e=>by cases e) (fun s' e=>by
   cases e
   refine ih (g.bind (var_range hok hd) (z5 d [] rfl hd) w1 w2 hr) ho ?_ (fun p h=>hp p (by simp [h]))
   intro e he
   rcases List.mem_append.1 he with he|he
   ·exact hs e he
   ·rw [List.mem_singleton.1 he];exact hl)
  obtain ⟨k,rfl⟩:∃ m,k=m+1:=⟨k - 1,by omega⟩
  obtain ⟨q,h1,_,h3⟩:=hbi K (by omega)
  rw [uniF_step (hw K (by omega)).1 (hw K (by omega)).2,stepF,if_neg (fun h=>hc h.1),if_neg hc,if_pos hd,h1,h3 hr]
 | @occR s a b c d x y ps ha hb hc hd hr=>
  intro g ho hs hp
  obtain ⟨⟨a1,a2,b1,b2⟩,ho⟩:=okP_cons.1 ho
  obtain ⟨w1,w2,_,_,_⟩:=ha.spec g a1 a2
  have hl:=ha.small hs (hp (a,b) (by simp)).1
  obtain ⟨N1,hw⟩:=two g ha hb
  obtain ⟨N2,hbi⟩:=bindF_ev g d.f1 w2 hl hs
  refine done (q:=none) (N1:=max N1 N2+1) (fun K k hK hk=>?_) (fun _=>rfl) (fun s' e=>by cases e)
  obtain ⟨k,rfl⟩:∃ m,k=m+1:=⟨k - 1,by omega⟩
  obtain ⟨q,h1,h2,_⟩:=hbi K (by omega)
  rw [uniF_step (hw K (by omega)).1 (hw K (by omega)).2,stepF,if_neg (fun h=>hc h.1),if_neg hc,if_pos hd,h1,h2 hr]
 | @clash s a b c d x y ps ha hb hc hd hcd=>
  intro g ho hs hp
  obtain ⟨N1,hw⟩:=two g ha hb
  refine done (q:=none) (N1:=N1+1) (fun K k hK hk=>?_) (fun _=>rfl) (fun s' e=>by cases e)
  obtain ⟨k,rfl⟩:∃ m,k=m+1:=⟨k - 1,by omega⟩
  rw [uniF_step (hw K (by omega)).1 (hw K (by omega)).2,stepF,if_neg (fun h=>hc h.1),if_neg hc,if_neg hd,if_pos hcd]
 | @args s a b c x y ps r ha hb hc _ ih=>
  intro g ho hs hp
  obtain ⟨⟨a1,a2,b1,b2⟩,ho⟩:=okP_cons.1 ho
  obtain ⟨w1,w2,_,_,_⟩:=ha.spec g a1 a2
  obtain ⟨z1,z2,_,_,_⟩:=hb.spec g b1 b2
  have hx:=w1.rest
  have hy:=z1.rest
  have lx:=ha.small hs (hp (a,b) (by simp)).1
  have ly:=hb.small hs (hp (a,b) (by simp)).2
  have tx:isTerm (c :: x)=true:=isTerm_iff'.2 ⟨by simp,lx,w2,w1⟩
  have ty:isTerm (c :: y)=true:=isTerm_iff'.2 ⟨by simp,ly,z2,z1⟩
  obtain ⟨N1,hw⟩:=two g ha hb
  obtain ⟨N2,hN2⟩:=args_ev tx
  obtain ⟨N3,hN3⟩:=args_ev ty
  simp only [List.length_cons] at lx ly
  obtain ⟨N4,ih⟩:=ih g (okP_append.2 ⟨okP_zip hx hy (okl_cons.1 w2).2 (okl_cons.1 z2).2,ho⟩) hs (fun p h=>by
   rcases List.mem_append.1 h with h|h
   ·have:=List.of_mem_zip h
    have q1:=cut_small hx this.1
    have q2:=cut_small hy this.2
    exact ⟨by omega,by omega⟩
   ·exact hp p (by simp [h]))
  have ex:argsOf (c :: x)=cut (ar c) x:=rfl
  have ey:argsOf (c :: y)=cut (ar c) y:=rfl
  have lxy:(cut (ar c) x).length=(cut (ar c) y).length:=by rw [(cut_spec hx).2.1,(cut_spec hy).2.1]
  refine ⟨max (max N1 N2) (max N3 N4)+1,fun K k hK hk=>?_⟩
  obtain ⟨k,rfl⟩:∃ m,k=m+1:=⟨k - 1,by omega⟩
  have h:=ih K k (by omega) (by omega)
  rw [List.map_append,List.map_append,List.map_fst_zip (by omega),List.map_snd_zip (by omega),uniL_append _ _ _ _ _ _ lxy] at h
  obtain ⟨q,h1,h2⟩:=Option.bind_eq_some_iff.1 h
  have ax:impl_args.f K (c :: x)=some (argsOf (c :: x)):=hN2 K (by omega)
  have ay:impl_args.f K (c :: y)=some (argsOf (c :: y)):=hN3 K (by omega)
  rw [List.map_cons,List.map_cons,uniL,uniF_step (hw K (by omega)).1 (hw K (by omega)).2,stepF,if_neg (fun h=>hc h.1),if_neg hc,if_neg hc,if_neg (by simp),ax,ay,ex,ey]
  simp only [Option.bind_some]
  rw [h1]
  cases q with
  | none=>exact h2
  | some s'=>exact uniL_mono (uniF_mono K k) _ _ _ _ h2
theorem unify_ev {s:List Bind} (hs:Oks s) {a b:List Cell} (ha:isTerm a=true) (hb:isTerm b=true):∃ N,∀ k,N≤k→uniF k k s a b=some (uni s [(a,b)]):=by
 obtain ⟨N,h⟩:=uniF_ev (uni_spec hs.good (okP_one ha hb)) hs.good (okP_one ha hb) hs.small (by
  intro p hp
  rw [List.mem_singleton.1 hp]
  exact ⟨(isTerm_iff'.1 ha).2.1,(isTerm_iff'.1 hb).2.1⟩)
 refine ⟨N,fun k hk=>?_⟩
 have:=h k k hk hk
 rw [List.map_cons,List.map_cons,uniL] at this
 obtain ⟨q,h1,h2⟩:=Option.bind_eq_some_iff.1 this
 rw [h1]
 cases q with
 | none=>exact h2
 | some s'=>exact h2
end Go.Proofs.YtlaicnoikeieeaaDoor.P
