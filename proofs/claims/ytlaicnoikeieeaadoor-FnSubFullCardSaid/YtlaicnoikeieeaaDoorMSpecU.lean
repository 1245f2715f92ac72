/- What the reference's l2Walk, l2Bind and l2Unify answer, in the words of the plain theory. -/
import Derived.Test.YtlaicnoikeieeaaDoorMSub
import Derived.Test.YtlaicnoikeieeaaDoorMUniF
import Derived.Test.YtlaicnoikeieeaaDoorP13
namespace Go.Proofs.YtlaicnoikeieeaaDoor.Cat
set_option linter.unusedVariables false
set_option linter.unusedSimpArgs false

theorem filter_lt {α:Type} {p q:α→Bool}:∀ {l:List α},(∀ x ∈ l,p x=true→q x=true)→(∃ x ∈ l,q x=true∧p x=false)→(l.filter p).length<(l.filter q).length
 | [],_,h=>by obtain ⟨x,hx,_⟩:=h;cases hx
 | a :: l,hs,h=>by
  have hle:(l.filter p).length≤(l.filter q).length:=by
   clear h
   induction l with
   | nil=>simp
   | cons b l ih=>
    have:=ih (fun x hx=>hs x (by simp at hx ⊢;rcases hx with h|h <;> simp [h]))
    have hb:=hs b (by simp)
    rw [List.filter_cons,List.filter_cons]
    cases hp:p b with
    | true=>rw [hb hp];simp;omega
    | false=>cases q b <;> simp <;> omega
  obtain ⟨x,hx,h1,h2⟩:=h
  have ha:=hs a (by simp)
  rw [List.filter_cons,List.filter_cons]
  rcases List.mem_cons.1 hx with rfl|hx
  ·rw [h1,h2];simp;omega
  ·have:=filter_lt (l:=l) (fun y hy=>hs y (by simp [hy])) ⟨x,hx,h1,h2⟩
   cases hp:p a with
   | true=>rw [ha hp];simp;omega
   | false=>cases q a <;> simp <;> omega

/-- ranks that are no greater than there are bindings -/
theorem bounded_rank {s:List Bind} (h:Good s):∃ rk:Int→Nat,(∀ v,rk v≤s.length)∧∀ b ∈ s,∀ c ∈ b.f1,c.f0=1→rk c.f1<rk b.f0:=by
 obtain ⟨rk,hr⟩:=h.acyc
 refine ⟨fun v=>(s.filter fun b=>decide (rk b.f0≤rk v)).length,fun v=>List.length_filter_le _ _,fun b hb c hc hv=>?_⟩
 have hlt:=hr b hb c hc hv
 refine filter_lt (fun x _ hx=>?_) ⟨b,hb,by simp,by simpa using hlt⟩
 simp only [decide_eq_true_eq] at hx ⊢
 omega

/-- the greatest rank of a variable in places, and one more; 0, if there is none -/
def mrk (rk:Int→Nat):List Cell→Nat
 | []=>0
 | c :: l=>max (if c.f0=1 then rk c.f1+1 else 0) (mrk rk l)
theorem mrk_le {rk:Int→Nat} {n:Nat}:∀ {l:List Cell},mrk rk l≤n↔∀ c ∈ l,c.f0=1→rk c.f1+1≤n
 | []=>by simp [mrk]
 | c :: l=>by
  rw [mrk,Nat.max_le,mrk_le]
  constructor
  ·rintro ⟨h1,h2⟩ d hd hv
   rcases List.mem_cons.1 hd with rfl|hd
   ·rwa [if_pos hv] at h1
   ·exact h2 d hd hv
  ·intro h
   refine ⟨?_,fun d hd hv=>h d (by simp [hd]) hv⟩
   split
   ·rename_i hv;exact h c (by simp) hv
   ·omega
def hgt (rk:Int→Nat) (l:List Cell):Nat:=42 * mrk rk l+l.length
/-- a part of places -/
def Sub1 (x A:List Cell):Prop:=x.length<A.length∧∀ c ∈ x,c ∈ A
theorem Sub1.hgt {rk:Int→Nat} {x A:List Cell} (h:Sub1 x A):Cat.hgt rk x<Cat.hgt rk A:=by
 have h1:mrk rk x≤mrk rk A:=mrk_le.2 (fun c hc hv=>mrk_le.1 (Nat.le_refl (mrk rk A)) c (h.2 c hc) hv)
 have:=h.1
 unfold Cat.hgt
 omega
theorem walk_hgt {s:List Bind} {rk:Int→Nat} (hr:∀ b ∈ s,∀ c ∈ b.f1,c.f0=1→rk c.f1<rk b.f0) (hs:∀ b ∈ s,b.f1.length≤40) {a u:List Cell} (h:Walk s a u):hgt rk u≤hgt rk a:=by
 induction h with
 | stop _=>exact Nat.le_refl _
 | @go c l t u hv hg _ ih=>
  obtain ⟨b,hb,e1,rfl⟩:=get_mem hg
  have h1:mrk rk b.f1≤rk c.f1:=mrk_le.2 (fun d hd hd1=>by have:=hr b hb d hd hd1;rw [e1] at this;omega)
  have h2:rk c.f1+1≤mrk rk (c :: l):=mrk_le.1 (Nat.le_refl (mrk rk (c :: l))) c (by simp) hv
  have h3:=hs b hb
  unfold hgt at ih ⊢
  omega
theorem walk_ext {s e:List Bind} {x u:List Cell} (h:Walk s x u):(∀ c y,u=c :: y→c.f0≠1)→Walk (s++e) x u:=by
 induction h with
 | @stop c l hc=>intro hn;exact .stop (fun hv=>absurd hv (hn c l rfl))
 | @go c l t u hv hg _ ih=>intro hn;exact .go hv (by rw [get_append,hg];rfl) (ih hn)

/-- the pairs that wait, level by level: the top ones are of arguments of A -/
inductive Lev (s:List Bind):Nat→List Cell→Pairs→Prop
 | root (A:List Cell):Lev s 0 A []
 | lev {m:Nat} {A A':List Cell} {g ps:Pairs} (hg:g.length≤3) (ha:∀ p ∈ g,Sub1 p.1 A) (hl:A.length≤41) (hn:∃ c y,A=c :: y∧c.f0≠1) (hA:m=0∨∃ x,Sub1 x A'∧Walk s x A) (h:Lev s m A' ps):Lev s (m+1) A (g++ps)
theorem Lev.count {s:List Bind} {m:Nat} {A:List Cell} {ps:Pairs} (h:Lev s m A ps):ps.length≤3 * m:=by
 induction h with
 | root=>simp
 | lev hg _ _ _ _ _ ih=>rw [List.length_append];omega
theorem Lev.high {s:List Bind} {rk:Int→Nat} (hr:∀ b ∈ s,∀ c ∈ b.f1,c.f0=1→rk c.f1<rk b.f0) (hs:∀ b ∈ s,b.f1.length≤40) {R:Nat} (hR:∀ v,rk v≤R) {m:Nat} {A:List Cell} {ps:Pairs} (h:Lev s m A ps):m=0∨m+hgt rk A≤42 * (R+1)+42:=by
 induction h with
 | root=>exact .inl rfl
 | @lev m A A' g ps hg ha hl hn hA h ih=>
  right
  rcases ih with rfl|ih
  ·have:mrk rk A≤R+1:=mrk_le.2 (fun c _ _=>by have:=hR c.f1;omega)
   unfold hgt
   omega
  ·rcases hA with rfl|⟨x,hx,hw⟩
   ·have:mrk rk A≤R+1:=mrk_le.2 (fun c _ _=>by have:=hR c.f1;omega)
    unfold hgt
    omega
   ·have h1:=walk_hgt hr hs hw
    have h2:=hx.hgt (rk:=rk)
    omega
theorem Lev.bound {s:List Bind} (hs:Good s) (hsm:∀ b ∈ s,b.f1.length≤40) {m:Nat} {A:List Cell} {ps:Pairs} (h:Lev s m A ps):ps.length≤3 * (42 * (s.length+1)+42):=by
 obtain ⟨rk,hR,hr⟩:=bounded_rank hs
 have h1:=h.count
 rcases h.high hr hsm hR with rfl|h2
 ·omega
 ·omega
theorem Lev.ext {s e:List Bind} {m:Nat} {A:List Cell} {ps:Pairs} (h:Lev s m A ps):Lev (s++e) m A ps:=by
 induction h with
 | root A=>exact .root A
 | lev hg ha hl hn hA _ ih=>
  refine .lev hg ha hl hn ?_ ih
  rcases hA with h|⟨x,hx,hw⟩
  ·exact .inl h
  ·refine .inr ⟨x,hx,walk_ext hw (fun c y e=>?_)⟩
   obtain ⟨d,z,e',hd⟩:=hn
   rw [e] at e'
   injection e' with e' _
   rw [e'];exact hd
theorem Lev.pop {s:List Bind} {m:Nat} {A:List Cell} {qs:Pairs} (h:Lev s m A qs):∀ {p:List Cell × List Cell} {ps:Pairs},qs=p :: ps→∃ m' A',Lev s m' A' ps∧m'≠0∧Sub1 p.1 A':=by
 induction h with
 | root=>intro p ps e;cases e
 | @lev m A A' g ps0 hg ha hl hn hA h ih=>
  intro p ps e
  cases g with
  | nil=>exact ih e
  | cons q g=>
   injection e with e1 e2
   subst e1 e2
   exact ⟨m+1,A,.lev (by simp at hg;omega) (fun p hp=>ha p (by simp [hp])) hl hn hA h,by omega,ha q (by simp)⟩
theorem ar_le {c:Cell} (h:cellOk c=true):ar c≤3:=by
 unfold ar
 split
 ·rename_i h3
  unfold cellOk at h
  rw [if_neg (by omega),if_neg (by omega),if_pos h3,Bool.and_eq_true] at h
  have:=of_decide_eq_true h.1
  omega
 ·omega
theorem Lev.push {s:List Bind} {m:Nat} {A:List Cell} {ps:Pairs} (h:Lev s m A ps) {a x y:List Cell} {c:Cell} (ha:Sub1 a A) (hw:Walk s a (c :: x)) (hc:c.f0≠1) (hl:(c :: x).length≤40) (hok:cellOk c=true) (hx:Forest (ar c) x) :
  Lev s (m+1) (c :: x) ((cut (ar c) x).zip (cut (ar c) y)++ps):=by
 obtain ⟨e1,e2,_⟩:=cut_spec hx
 refine .lev ?_ (fun p hp=>?_) (by omega) ⟨c,x,rfl,hc⟩ (.inr ⟨a,ha,hw⟩) h
 ·rw [List.length_zip,e2]
  have:=ar_le hok
  omega
 ·have hm:=(List.of_mem_zip hp).1
  refine ⟨?_,fun d hd=>?_⟩
  ·have:=cut_small hx hm
   rw [List.length_cons];omega
  ·have:d ∈ (cut (ar c) x).flatten:=List.mem_flatten.2 ⟨p.1,hm,hd⟩
   rw [e1] at this
   exact List.mem_cons_of_mem _ this
theorem Lev.one {s:List Bind} (a b:List Cell) (h:a.length≤40):Lev s 1 (⟨3,1,⟨#[]⟩⟩ :: a) [(a,b)]:=by
 have:=Lev.lev (s:=s) (m:=0) (A:=⟨3,1,⟨#[]⟩⟩ :: a) (A':=[]) (g:=[(a,b)]) (ps:=[]) (by simp) (fun p hp=>by
  rw [List.mem_singleton.1 hp]
  exact ⟨by simp,fun c hc=>List.mem_cons_of_mem _ hc⟩) (by simp;omega) ⟨_,a,rfl,by decide⟩ (.inl rfl) (.root _)
 exact this
end Go.Proofs.YtlaicnoikeieeaaDoor.Cat

namespace Go.Proofs.YtlaicnoikeieeaaDoor.P
set_option linter.unusedVariables false
set_option linter.unusedSimpArgs false
open Go.RowKit Go.Proofs.YtlaicnoikeieeaaDoor.Cat Go.Proofs.YtlaicnoikeieeaaDoorW.PrintWords Go.Proofs.YtlaicnoikeieeaaDoorW.PrintLast

theorem known_of {s:List Bind} {v:Int} {t:List Cell} (h:Cat.get s v=some t):known s v=t:=by unfold known;rw [h];rfl
theorem known_no {s:List Bind} {v:Int} (h:Cat.get s v=none):known s v=[]:=by unfold known;rw [h];rfl
theorem swalk_ev {s:List Bind} (hs:Cat.Good s) {a u:List Cell} (h:Walk s a u):Ev (fun k=>spec_l2Walk.f k s a) u:=by
 have hlen:=good_len hs
 unfold spec_l2Walk.f
 induction h with
 | @stop c l hc=>
  refine Ev.step (fun k=>rfl) ?_
  simp only [spec_l2Walk.l0]
  have e0:rd_T46 (c :: l) 0=c:=rfl
  rw [e0]
  refine Ev.ifp (by simp) ?_
  by_cases h1:c.f0=1
  ·refine Ev.ifp h1 (Ev.bind (l2get_ev s _ (by omega)) ?_)
   rw [known_no (hc h1)]
   exact Ev.ifp rfl (Ev.now _)
  ·exact Ev.ifn h1 (Ev.now _)
 | @go c l t u h1 h2 h3 ih=>
  refine Ev.step (fun k=>rfl) ?_
  simp only [spec_l2Walk.l0]
  have e0:rd_T46 (c :: l) 0=c:=rfl
  rw [e0]
  refine Ev.ifp (by simp) (Ev.ifp h1 (Ev.bind (l2get_ev s _ (by omega)) ?_))
  rw [known_of h2]
  exact Ev.ifn (by have:=List.length_pos_iff.2 (term_pos hs h2);omega) ih

open Classical in
theorem bind2F_ev {s:List Bind} (hs:Cat.Good s) (v:Int) {t:List Cell} (hl:t.length≤40) (hsm:∀ b ∈ s,b.f1.length≤40):Ev (fun k=>bind2F k s v t) (if Cat.Reach s t v then none else some (s++[⟨v,t⟩])):=by
 have hlen:=good_len hs
 obtain ⟨ls,h1,h2,h3⟩:=leads_ev s ⟨by omega,fun b hb=>by have:=hsm b hb;omega⟩ t (by omega)
 unfold bind2F
 refine Ev.ifp ⟨by omega,by omega⟩ (Ev.bind h1 (Ev.bind (has_ev2 ls v (by omega)) ?_))
 by_cases h:Cat.Reach s t v
 ·rw [if_pos h,if_pos (show decide (v ∈ ls)=true by simpa using (h2 v).2 h)]
  exact Ev.now _
 ·rw [if_neg h,if_neg (show ¬ decide (v ∈ ls)=true by simpa using fun e=>h ((h2 v).1 e))]
  exact Ev.now _

theorem argOf_at {x:List Cell} (h:isTerm x=true) {n:Nat} (hn:n<(argsOf x).length):argOf x (n:Int)=(argsOf x)[n]:=by
 unfold argOf
 rw [if_pos ⟨h,by omega,by omega⟩]
 simp [List.getD,hn]
theorem pushF_ev {x y:List Cell} (hx:isTerm x=true) (hy:isTerm y=true):∀ n,n≤(argsOf x).length→n≤(argsOf y).length→∃ N,∀ K,N≤K→∀ L R:List (List Cell),L.length+n<1000000000→R.length+n<1000000000→pushF K x y n L R=some (L++((argsOf x).take n).reverse,R++((argsOf y).take n).reverse)
 | 0,_,_=>⟨0,fun K _ L R _ _=>by simp [pushF]⟩
 | n+1,h1,h2=>by
  obtain ⟨N,ih⟩:=pushF_ev hx hy n (by omega) (by omega)
  obtain ⟨N1,e1⟩:=sarg1_ev hx (n:Int)
  obtain ⟨N2,e2⟩:=sarg1_ev hy (n:Int)
  refine ⟨max N (max N1 N2),fun K hK L R hL hR=>?_⟩
  have a1:spec_l1Arg.f K x n=some (argOf x n):=e1 K (by omega)
  have a2:spec_l1Arg.f K y n=some (argOf y n):=e2 K (by omega)
  rw [pushF,a1,a2]
  simp only [Option.bind_some]
  rw [if_pos ⟨by omega,by omega⟩,ih K (by omega) _ _ (by simp;omega) (by simp;omega),argOf_at hx (by omega),argOf_at hy (by omega)]
  have g:∀ (l:List (List Cell)) (h:n<l.length),[l[n]]++(l.take n).reverse=(l.take (n+1)).reverse:=fun l h=>by
   rw [List.take_succ_eq_append_getElem h,List.reverse_append];rfl
  rw [List.append_assoc,List.append_assoc,g _ (by omega),g _ (by omega)]

/-- one step of l2Unify, of what its terms are at their beginnings -/
def step2F (K k:Nat) (s:List Bind) (c:Cell) (l:List Cell) (d:Cell) (m:List Cell) (L R:List (List Cell)):Option (Option (List Bind)):=
 if c.f0=1∧d=c then l2uniF K k s L R
 else if c.f0=1 then (bind2F K s c.f1 (d :: m)).bind fun q=>match q with
  | none=>some none
  | some s'=>l2uniF K k s' L R
 else if d.f0=1 then (bind2F K s d.f1 (c :: l)).bind fun q=>match q with
  | none=>some none
  | some s'=>l2uniF K k s' L R
 else if c≠d then some none
 else if -1000000≤c.f1∧c.f1≤1000000 then (pushF K (c :: l) (d :: m) (ar c) L R).bind fun p=>l2uniF K k s p.1 p.2
 else none
theorem l2uniF_step {K k:Nat} {s:List Bind} {a b:List Cell} {c d:Cell} {l m:List Cell} {L R:List (List Cell)} (ha:spec_l2Walk.f K s a=some (c :: l)) (hb:spec_l2Walk.f K s b=some (d :: m)) (hl:L.length=R.length) (hn:L.length<999999999) :
  l2uniF K (k+1) s (L++[a]) (R++[b])=step2F K k s c l d m L R:=by
 rw [l2uniF,if_neg (by simp),if_pos ⟨by simp [hl],by simp;omega⟩,last_snoc,last_snoc,drop_snoc,drop_snoc,ha,hb]
 rfl

theorem l2uniF_ev {s:List Bind} {ps:Pairs} {r:Option (List Bind)} (h:Uni s ps r):Cat.Good s→OkP ps→(∀ b ∈ s,b.f1.length≤40)→(∀ p ∈ ps,p.1.length≤40∧p.2.length≤40)→∀ {j:Nat} {A:List Cell},Lev s j A ps→
  ∃ N,∀ K k,N≤K→N≤k→l2uniF K k s (ps.map (·.1)).reverse (ps.map (·.2)).reverse=some r:=by
 have two:∀ {s:List Bind} {a b:List Cell} {u v:List Cell},Cat.Good s→Walk s a u→Walk s b v→∃ N,∀ K,N≤K→spec_l2Walk.f K s a=some u∧spec_l2Walk.f K s b=some v:=fun g ha hb=>by
  obtain ⟨N1,h1⟩:=swalk_ev g ha
  obtain ⟨N2,h2⟩:=swalk_ev g hb
  exact ⟨max N1 N2,fun K hK=>⟨h1 K (by omega),h2 K (by omega)⟩⟩
 have go:∀ {s:List Bind} {a b:List Cell} {c d:Cell} {x y:List Cell} {ps:Pairs} {r:Option (List Bind)} {j:Nat} {A:List Cell},Cat.Good s→(∀ b ∈ s,b.f1.length≤40)→Walk s a (c :: x)→Walk s b (d :: y)→Lev s j A ((a,b) :: ps)→
   (∃ N,∀ K k,N≤K→N≤k→step2F K k s c x d y (ps.map (·.1)).reverse (ps.map (·.2)).reverse=some r)→
   ∃ N,∀ K k,N≤K→N≤k→l2uniF K k s (((a,b) :: ps).map (·.1)).reverse (((a,b) :: ps).map (·.2)).reverse=some r:=fun {s a b c d x y ps r j A} g hs ha hb hL hq=>by
  obtain ⟨N1,hw⟩:=two g ha hb
  obtain ⟨N2,hq⟩:=hq
  have hB:=hL.bound g hs
  have hG:=good_len g
  rw [List.length_cons] at hB
  refine ⟨max N1 N2+1,fun K k hK hk=>?_⟩
  obtain ⟨k,rfl⟩:∃ m,k=m+1:=⟨k - 1,by omega⟩
  rw [List.map_cons,List.map_cons,List.reverse_cons,List.reverse_cons,l2uniF_step (hw K (by omega)).1 (hw K (by omega)).2 (by simp) (by simp;omega)]
  exact hq K k (by omega) (by omega)
 induction h with
 | done=>
  intro _ _ _ _ j A _
  refine ⟨1,fun K k _ hk=>?_⟩
  obtain ⟨k,rfl⟩:∃ m,k=m+1:=⟨k - 1,by omega⟩
  rw [l2uniF,if_pos (by simp)]
 | @same s a b c x y ps r ha hb hc _ ih=>
  intro g ho hs hp j A hL
  obtain ⟨j',A',hL',_,_⟩:=hL.pop rfl
  obtain ⟨N,ih⟩:=ih g (okP_cons.1 ho).2 hs (fun p h=>hp p (by simp [h])) hL'
  refine go g hs ha hb hL ⟨N,fun K k hK hk=>?_⟩
  rw [step2F,if_pos ⟨hc,rfl⟩]
  exact ih K k hK hk
 | @bindL s a b c d x y ps r ha hb hc hcd hr _ ih=>
  intro g ho hs hp j A hL
  obtain ⟨j',A',hL',_,_⟩:=hL.pop rfl
  obtain ⟨⟨a1,a2,b1,b2⟩,ho⟩:=okP_cons.1 ho
  obtain ⟨w1,w2,_,_,w5⟩:=ha.spec g a1 a2
  obtain ⟨z1,z2,_,_,_⟩:=hb.spec g b1 b2
  have hok:=(okl_cons.1 w2).1
  have hl:=hb.small hs (hp (a,b) (by simp)).2
  obtain ⟨N2,hbi⟩:=bind2F_ev g c.f1 hl hs
  obtain ⟨N,ih⟩:=ih (g.bind (var_range hok hc) (w5 c x rfl hc) z1 z2 hr) ho (fun e he=>by
   rcases List.mem_append.1 he with he|he
   ·exact hs e he
   ·rw [List.mem_singleton.1 he];exact hl) (fun p h=>hp p (by simp [h])) hL'.ext
  refine go g hs ha hb hL ⟨max N N2,fun K k hK hk=>?_⟩
  have h1:bind2F K s c.f1 (d :: y)=some (some (s++[⟨c.f1,d :: y⟩])):=(hbi K (by omega)).trans (by rw [if_neg hr])
  rw [step2F,if_neg (fun h=>hcd h.2.symm),if_pos hc,h1]
  exact ih K k (by omega) (by omega)
 | @occL s a b c d x y ps ha hb hc hcd hr=>
  intro g ho hs hp j A hL
  have hl:=hb.small hs (hp (a,b) (by simp)).2
  obtain ⟨N2,hbi⟩:=bind2F_ev g c.f1 hl hs
  refine go g hs ha hb hL ⟨N2,fun K k hK hk=>?_⟩
  have h1:bind2F K s c.f1 (d :: y)=some none:=(hbi K (by omega)).trans (by rw [if_pos hr])
  rw [step2F,if_neg (fun h=>hcd h.2.symm),if_pos hc,h1]
  rfl
 | @bindR s a b c d x y ps r ha hb hc hd hr _ ih=>
  intro g ho hs hp j A hL
  obtain ⟨j',A',hL',_,_⟩:=hL.pop rfl
  obtain ⟨⟨a1,a2,b1,b2⟩,ho⟩:=okP_cons.1 ho
  obtain ⟨w1,w2,_,_,_⟩:=ha.spec g a1 a2
  obtain ⟨z1,z2,_,_,z5⟩:=hb.spec g b1 b2
  have hok:=(okl_cons.1 z2).1
  have hl:=ha.small hs (hp (a,b) (by simp)).1
  obtain ⟨N2,hbi⟩:=bind2F_ev g d.f1 hl hs
  obtain ⟨N,ih⟩:=ih (g.bind (var_range hok hd) (z5 d y rfl hd) w1 w2 hr) ho (fun e he=>by
   rcases List.mem_append.1 he with he|he
   ·exact hs e he
   ·rw [List.mem_singleton.1 he];exact hl) (fun p h=>hp p (by simp [h])) hL'.ext
  refine go g hs ha hb hL ⟨max N N2,fun K k hK hk=>?_⟩
  have h1:bind2F K s d.f1 (c :: x)=some (some (s++[⟨d.f1,c :: x⟩])):=(hbi K (by omega)).trans (by rw [if_neg hr])
  rw [step2F,if_neg (fun h=>hc h.1),if_neg hc,if_pos hd,h1]
  exact ih K k (by omega) (by omega)
 | @occR s a b c d x y ps ha hb hc hd hr=>
  intro g ho hs hp j A hL
  have hl:=ha.small hs (hp (a,b) (by simp)).1
  obtain ⟨N2,hbi⟩:=bind2F_ev g d.f1 hl hs
  refine go g hs ha hb hL ⟨N2,fun K k hK hk=>?_⟩
  have h1:bind2F K s d.f1 (c :: x)=some none:=(hbi K (by omega)).trans (by rw [if_pos hr])
  rw [step2F,if_neg (fun h=>hc h.1),if_neg hc,if_pos hd,h1]
  rfl
 | @clash s a b c d x y ps ha hb hc hd hcd=>
  intro g ho hs hp j A hL
  refine go g hs ha hb hL ⟨0,fun K k hK hk=>?_⟩
  rw [step2F,if_neg (fun h=>hc h.1),if_neg hc,if_neg hd,if_pos hcd]
 | @args s a b c x y ps r ha hb hc _ ih=>
  intro g ho hs hp j A hL
  obtain ⟨j',A',hL',_,hS⟩:=hL.pop rfl
  have hB:=hL'.bound g hs
  have hG:=good_len g
  obtain ⟨⟨a1,a2,b1,b2⟩,ho⟩:=okP_cons.1 ho
  obtain ⟨w1,w2,_,_,_⟩:=ha.spec g a1 a2
  obtain ⟨z1,z2,_,_,_⟩:=hb.spec g b1 b2
  have hx:=w1.rest
  have hy:=z1.rest
  have lx:=ha.small hs (hp (a,b) (by simp)).1
  have ly:=hb.small hs (hp (a,b) (by simp)).2
  have tx:isTerm (c :: x)=true:=isTerm_iff'.2 ⟨by simp,lx,w2,w1⟩
  have ty:isTerm (c :: y)=true:=isTerm_iff'.2 ⟨by simp,ly,z2,z1⟩
  have hok:=(okl_cons.1 w2).1
  have ha3:=ar_le hok
  have ex:argsOf (c :: x)=cut (ar c) x:=rfl
  have ey:argsOf (c :: y)=cut (ar c) y:=rfl
  have nx:=(cut_spec hx).2.1
  have ny:=(cut_spec hy).2.1
  have hrange:-1000000≤c.f1∧c.f1≤1000000:=by
   unfold cellOk at hok
   rw [if_neg hc] at hok
   split at hok
   ·rw [Bool.and_eq_true] at hok
    have:=of_decide_eq_true hok.1
    omega
   ·split at hok
    ·rw [Bool.and_eq_true] at hok
     have:=of_decide_eq_true hok.1
     omega
    ·cases hok
  obtain ⟨N2,hpu⟩:=pushF_ev tx ty (ar c) (by rw [ex];omega) (by rw [ey];omega)
  obtain ⟨N,ih⟩:=ih g (okP_append.2 ⟨okP_zip hx hy (okl_cons.1 w2).2 (okl_cons.1 z2).2,ho⟩) hs (fun p h=>by
   simp only [List.length_cons] at lx ly
   rcases List.mem_append.1 h with h|h
   ·have:=List.of_mem_zip h
    have q1:=cut_small hx this.1
    have q2:=cut_small hy this.2
    exact ⟨by omega,by omega⟩
   ·exact hp p (by simp [h])) (hL'.push hS ha hc lx hok hx)
  refine go g hs ha hb hL ⟨max N N2,fun K k hK hk=>?_⟩
  have h:=ih K k (by omega) (by omega)
  rw [List.map_append,List.map_append,List.map_fst_zip (by omega),List.map_snd_zip (by omega),List.reverse_append,List.reverse_append] at h
  rw [step2F,if_neg (fun h=>hc h.1),if_neg hc,if_neg hc,if_neg (by simp),if_pos hrange,hpu K (by omega) _ _ (by simp;omega) (by simp;omega),ex,ey,
   List.take_of_length_le (by omega),List.take_of_length_le (by omega)]
  exact h

theorem l2unify_ev {s:List Bind} (hs:Oks s) {a b:List Cell} (ha:isTerm a=true) (hb:isTerm b=true):Ev (fun k=>l2uniF k k s [a] [b]) (uni s [(a,b)]):=by
 have la:=(isTerm_iff'.1 ha).2.1
 have lb:=(isTerm_iff'.1 hb).2.1
 obtain ⟨N,h⟩:=l2uniF_ev (uni_spec hs.good (okP_one ha hb)) hs.good (okP_one ha hb) hs.small (by
  intro p hp
  rw [List.mem_singleton.1 hp]
  exact ⟨la,lb⟩) (Lev.one a b la)
 exact ⟨N,fun k hk=>h k k hk hk⟩
end Go.Proofs.YtlaicnoikeieeaaDoor.P
