/- What the reference's l2Get, l2Leads and SubOk answer. -/
import Derived.Test.YtlaicnoikeieeaaDoorMFree
import Derived.Test.YtlaicnoikeieeaaDoorMTrm
import Derived.Test.YtlaicnoikeieeaaDoorMDfs
import Derived.Test.YtlaicnoikeieeaaDoorP6
import Derived.Test.YtlaicnoikeieeaaDoorP3
import Derived.Test.YtlaicnoikeieeaaDoorP7
namespace Go.Proofs.YtlaicnoikeieeaaDoor.P
set_option linter.unusedVariables false
set_option linter.unusedSimpArgs false
open Go.RowKit Go.Proofs.YtlaicnoikeieeaaDoor.Cat Go.Proofs.YtlaicnoikeieeaaDoorW.PrintWords Go.Proofs.YtlaicnoikeieeaaDoorW.PrintLast

theorem rdBb (a r:List Bind) (c:Bind):rd_T30 (a++c :: r) ((a.length:Nat):Int)=c:=by simp [rd_T30,List.getD]
theorem known_cons (b:Bind) (s:List Bind) (v:Int):known (b :: s) v=if b.f0=v then b.f1 else known s v:=by
 unfold known Cat.get
 rw [List.find?_cons]
 by_cases h:b.f0=v
 ·rw [if_pos h,show (b.f0 == v)=true by simpa using h];rfl
 ·rw [if_neg h,show (b.f0 == v)=false by simpa using h]

theorem l2get_loop (v:Int):∀ (r a:List Bind),a.length+r.length≤9223372036854775806→Ev (fun k=>spec_l2Get.l0 k (a++r) v ((a.length:Nat):Int)) (known r v)
 | [],a,h=>by
  refine Ev.step (fun k=>rfl) ?_
  simp only [spec_l2Get.l0]
  exact Ev.ifn (not_lt_app a) (Ev.now _)
 | b :: r,a,h=>by
  have ih:=l2get_loop v r (a++[b]) (by simp at *;omega)
  rw [snoc_len] at ih
  simp only [List.append_assoc,List.singleton_append] at ih
  refine Ev.step (fun k=>rfl) ?_
  simp only [spec_l2Get.l0]
  refine Ev.ifp (lt_app a r b) (Ev.ifp (by omega) ?_)
  rw [rdBb,wnext (by simp at h;omega),known_cons]
  by_cases e:b.f0=v
  ·rw [if_pos e];exact Ev.ifp e (Ev.now _)
  ·rw [if_neg e];exact Ev.ifn e ih
theorem l2get_ev (s:List Bind) (v:Int) (h:s.length≤1099511627776):Ev (fun k=>spec_l2Get.f k s v) (known s v):=l2get_loop v s [] (by simp;omega)

theorem has_ev2 (l:List Int) (v:Int) (h:l.length≤9223372036854775806):Ev (fun k=>spec_l1Has.f k l v) (decide (v ∈ l)):=has_loop v l [] (by simp;omega)
/-- those of more that are not there yet -/
def addAll (out:List Int):List Int→List Int
 | []=>out
 | y :: r=>if y ∈ out then addAll out r else addAll (out++[y]) r
theorem addAll_pre:∀ (r out:List Int),∃ e,addAll out r=out++e
 | [],out=>⟨[],by simp [addAll]⟩
 | y :: r,out=>by
  unfold addAll
  by_cases h:y ∈ out
  ·rw [if_pos h];exact addAll_pre r out
  ·rw [if_neg h]
   obtain ⟨e,he⟩:=addAll_pre r (out++[y])
   exact ⟨y :: e,by rw [he];simp⟩
theorem mem_addAll:∀ (r out:List Int) (v:Int),v ∈ addAll out r↔v ∈ out∨v ∈ r
 | [],out,v=>by simp [addAll]
 | y :: r,out,v=>by
  unfold addAll
  by_cases h:y ∈ out
  ·rw [if_pos h,mem_addAll r out v]
   constructor
   ·rintro (h1|h1)
    ·exact .inl h1
    ·exact .inr (by simp [h1])
   ·rintro (h1|h1)
    ·exact .inl h1
    ·rcases List.mem_cons.1 h1 with rfl|h1
     ·exact .inl h
     ·exact .inr h1
  ·rw [if_neg h,mem_addAll r _ v]
   simp only [List.mem_append,List.mem_cons,List.not_mem_nil,or_false]
   constructor
   ·rintro ((h1|h1)|h1)
    ·exact .inl h1
    ·exact .inr (.inl h1)
    ·exact .inr (.inr h1)
   ·rintro (h1|h1|h1)
    ·exact .inl (.inl h1)
    ·exact .inl (.inr h1)
    ·exact .inr h1
theorem addAll_nodup:∀ (r out:List Int),out.Nodup→(addAll out r).Nodup
 | [],out,h=>h
 | y :: r,out,h=>by
  unfold addAll
  by_cases hy:y ∈ out
  ·rw [if_pos hy];exact addAll_nodup r out h
  ·rw [if_neg hy]
   refine addAll_nodup r _ ?_
   rw [List.nodup_append]
   exact ⟨h,by simp,fun a ha b hb=>by rw [List.mem_singleton.1 hb];exact fun e=>hy (e ▸ ha)⟩

theorem nodup_len {U l:List Int} (hn:l.Nodup) (hU:∀ x ∈ l,x ∈ U):l.length≤U.length:=by
 induction l generalizing U with
 | nil=>simp
 | cons x l ih=>
  rw [List.nodup_cons] at hn
  have hx:=hU x (by simp)
  have:=ih (U:=U.erase x) hn.2 (fun y hy=>by
   have hne:y≠x:=fun e=>hn.1 (e ▸ hy)
   exact (List.mem_erase_of_ne hne).2 (hU y (by simp [hy])))
  rw [List.length_erase_of_mem hx] at this
  have:=List.length_pos_of_mem hx
  simp only [List.length_cons]
  omega

theorem leads_inner (s:List Bind) (i:Int) (B:Nat) (hB:B≤4398046511104) (res:List Int):∀ (r a out:List Int),(∀ e,addAll out r=out++e→out.length+e.length≤B)→a.length+r.length≤1099511627776→
  Ev (fun k=>spec_l2Leads.l0 k s (addAll out r) (wrap64 (i+1))) res→Ev (fun k=>spec_l2Leads.l1 k s out i (a++r) ((a.length:Nat):Int)) res
 | [],a,out,hb,hl,H=>by
  refine Ev.step (fun k=>rfl) ?_
  simp only [spec_l2Leads.l1]
  exact Ev.ifn (not_lt_app a) H
 | y :: r,a,out,hb,hl,H=>by
  have hlen:out.length≤B:=by
   obtain ⟨e,he⟩:=addAll_pre (y :: r) out
   have:=hb e he
   omega
  refine Ev.step (fun k=>rfl) ?_
  simp only [spec_l2Leads.l1]
  refine Ev.ifp (lt_app a r y) (Ev.ifp (by omega) ?_)
  rw [rdI,wnext (by simp at hl;omega)]
  refine Ev.bind (has_ev2 out y (by omega)) ?_
  unfold addAll at H hb
  by_cases hy:y ∈ out
  ·rw [if_pos hy] at H hb
   have ih:=leads_inner s i B hB res r (a++[y]) out hb (by simp at *;omega) H
   rw [snoc_len] at ih
   simp only [List.append_assoc,List.singleton_append] at ih
   exact Ev.ifp (by simpa using hy) ih
  ·rw [if_neg hy] at H hb
   have ih:=leads_inner s i B hB res r (a++[y]) (out++[y]) (fun e he=>by
    have:=hb (y :: e) (by rw [he];simp)
    simp at *;omega) (by simp at *;omega) H
   rw [snoc_len] at ih
   simp only [List.append_assoc,List.singleton_append] at ih
   exact Ev.ifn (by simpa using hy) (Ev.ifp (by omega) ih)

/-- what is asked of sizes -/
structure SizesB (s:List Bind):Prop where
 len:s.length≤1048576
 each:∀ b ∈ s,b.f1.length≤1048576
theorem known_len {s:List Bind} (h:SizesB s) (v:Int):(known s v).length≤1048576:=by
 cases e:Cat.get s v with
 | none=>unfold known;rw [e];simp
 | some t=>
  obtain ⟨b,hb,_,rfl⟩:=get_mem e
  unfold known;rw [e];exact h.each b hb
theorem frees_len (l:List Cell):(frees l).length≤l.length:=by have:=freesOn_len l [];simpa [frees] using this

theorem leads_loop (s:List Bind) (hs:SizesB s) (t:List Cell) (U:List Int) (hUl:U.length≤4398046511104) (hU:∀ x,∀ y ∈ frees (known s x),y ∈ U):∀ (n:Nat) (out:List Int) (i:Nat),U.length - i=n→i≤out.length→out.Nodup→(∀ x ∈ out,x ∈ U)→
  (∀ y ∈ frees t,y ∈ out)→(∀ y ∈ out,Cat.Reach s t y)→(∀ j,∀ (h:j<out.length),j<i→∀ y ∈ frees (known s out[j]),y ∈ out)→
  ∃ res,Ev (fun k=>spec_l2Leads.l0 k s out (i:Int)) res∧(∀ v,v ∈ res↔Cat.Reach s t v)∧res.length≤U.length:=by
 intro n
 induction n with
 | zero=>
  intro out i hn hi ho hUo ht hr hc
  have hlen:=nodup_len ho hUo
  have hio:i=out.length:=by omega
  refine ⟨out,Ev.step (fun k=>rfl) ?_,fun v=>⟨hr v,fun h=>?_⟩,hlen⟩
  ·simp only [spec_l2Leads.l0]
   exact Ev.ifn (by omega) (Ev.now _)
  ·refine reach_closed (fun x hx y hy=>?_) h ht
   obtain ⟨j,hj,rfl⟩:=List.getElem_of_mem hx
   exact hc j hj (by omega) y hy
 | succ n ih=>
  intro out i hn hi ho hUo ht hr hc
  have hlen:=nodup_len ho hUo
  by_cases hlt:i<out.length
  ·have hmem:out[i] ∈ out:=List.getElem_mem hlt
   obtain ⟨e,he⟩:=addAll_pre (frees (known s out[i])) out
   have hle:out.length≤(addAll out (frees (known s out[i]))).length:=by rw [he];simp
   obtain ⟨res,h1,h2,h3⟩:=ih (addAll out (frees (known s out[i]))) (i+1) (by omega) (by omega) (addAll_nodup _ _ ho) (fun x hx=>by
     rcases (mem_addAll _ _ _).1 hx with hx|hx
     ·exact hUo x hx
     ·exact hU _ x hx)
    (fun y hy=>(mem_addAll _ _ _).2 (.inl (ht y hy)))
    (fun y hy=>by
     rcases (mem_addAll _ _ _).1 hy with hy|hy
     ·exact hr y hy
     ·exact (hr _ hmem).snoc hy)
    (fun j hj hji y hy=>by
     have hjo:j<out.length:=by omega
     have ej:(addAll out (frees (known s out[i])))[j]=out[j]:=by simp only [he];exact List.getElem_append_left hjo
     rw [ej] at hy
     by_cases hij:j<i
     ·exact (mem_addAll _ _ _).2 (.inl (hc j hjo hij y hy))
     ·obtain rfl:j=i:=by omega
      exact (mem_addAll _ _ _).2 (.inr hy))
   refine ⟨res,Ev.step (fun k=>rfl) ?_,h2,h3⟩
   simp only [spec_l2Leads.l0]
   have er:rd out (i:Int)=out[i]:=by simp [rd,List.getD,hlt]
   rw [er]
   have kl:=known_len hs out[i]
   have fl:=frees_len (known s out[i])
   refine Ev.ifp (by omega) (Ev.ifp (by omega) (Ev.bind (l2get_ev s _ (by have:=hs.len;omega)) (Ev.bind (sfree_ev _ (by omega)) ?_)))
   refine leads_inner s (i:Int) U.length hUl res (frees (known s out[i])) [] out (fun e2 he2=>?_) (by simp;omega) ?_
   ·have:=nodup_len (addAll_nodup (frees (known s out[i])) out ho) (fun x hx=>by
     rcases (mem_addAll _ _ _).1 hx with hx|hx
     ·exact hUo x hx
     ·exact hU _ x hx)
    rw [he2] at this
    simpa using this
   ·rw [wnext (by omega)];exact h1
  ·have hio:i=out.length:=by omega
   refine ⟨out,Ev.step (fun k=>rfl) ?_,fun v=>⟨hr v,fun h=>?_⟩,hlen⟩
   ·simp only [spec_l2Leads.l0]
    exact Ev.ifn (by omega) (Ev.now _)
   ·refine reach_closed (fun x hx y hy=>?_) h ht
    obtain ⟨j,hj,rfl⟩:=List.getElem_of_mem hx
    exact hc j hj (by omega) y hy

theorem flat_len:∀ (s:List Bind),(∀ b ∈ s,b.f1.length≤1048576)→(s.flatMap fun b=>frees b.f1).length≤s.length * 1048576
 | [],_=>by simp
 | b :: s,h=>by
  rw [List.flatMap_cons,List.length_append,List.length_cons]
  have h1:=flat_len s (fun b hb=>h b (by simp [hb]))
  have h2:=frees_len b.f1
  have h3:=h b (by simp)
  omega

/-- all that a term's variables lead to -/
theorem leads_ev (s:List Bind) (hs:SizesB s) (t:List Cell) (ht:t.length≤1048576):∃ res,Ev (fun k=>spec_l2Leads.f k s t) res∧(∀ v,v ∈ res↔Cat.Reach s t v)∧res.length≤2199023255552:=by
 have hl:=flat_len s hs.each
 have fl:=frees_len t
 have:=hs.len
 have hU:∀ x,∀ y ∈ frees (known s x),y ∈ frees t++s.flatMap (fun b=>frees b.f1):=fun x y hy=>by
  obtain ⟨b,hb,_,e⟩:=known_some hy
  rw [e] at hy
  exact List.mem_append_right _ (List.mem_flatMap.2 ⟨b,hb,hy⟩)
 have hm:s.length * 1048576≤1048576 * 1048576:=Nat.mul_le_mul_right _ hs.len
 obtain ⟨res,h1,h2,h3⟩:=leads_loop s hs t (frees t++s.flatMap (fun b=>frees b.f1)) (by rw [List.length_append];omega) hU _ (frees t) 0 rfl (Nat.zero_le _) (frees_nodup t) (fun x hx=>List.mem_append_left _ hx) (fun y hy=>hy)
  (fun y hy=>by obtain ⟨c,hc,hv,rfl⟩:=mem_frees.1 hy;exact .here hc hv) (fun j _ h=>absurd h (Nat.not_lt_zero _))
 refine ⟨res,?_,h2,?_⟩
 ·unfold spec_l2Leads.f
  exact Ev.bind (sfree_ev t (by omega)) h1
 ·rw [List.length_append] at h3;omega

/-! ### SubOk -/
theorem dup_loop (s:List Bind) (hs:s.length≤1099511627776) (i:Nat) (hi:i<s.length) (res:Bool) (H:(∀ j,(h:j<i)→s[j].f0≠s[i].f0)→Ev (fun k=>spec_SubOk.l0 k s (wrap64 ((i:Int)+1))) res) (hno:(∃ j,∃ h:j<i,s[j].f0=s[i].f0)→res=false) :
  ∀ (n j:Nat),i - j=n→(hji:j≤i)→(∀ m,(h:m<j)→(s[m]'(by omega)).f0≠s[i].f0)→Ev (fun k=>spec_SubOk.l1 k s (i:Int) (j:Int)) res:=by
 intro n
 induction n with
 | zero=>
  intro j hn hj hm
  obtain rfl:j=i:=by omega
  refine Ev.step (fun k=>rfl) ?_
  simp only [spec_SubOk.l1]
  exact Ev.ifn (by omega) (H (fun m h=>hm m h))
 | succ n ih=>
  intro j hn hj hm
  refine Ev.step (fun k=>rfl) ?_
  simp only [spec_SubOk.l1]
  have e1:rd_T30 s (j:Int)=s[j]:=by simp [rd_T30,List.getD,(show j<s.length by omega)]
  have e2:rd_T30 s (i:Int)=s[i]:=by simp [rd_T30,List.getD,hi]
  refine Ev.ifp (by omega) (Ev.ifp (by omega) (Ev.ifp (by omega) (Ev.ifp (by omega) (Ev.ifp (by omega) ?_))))
  rw [e1,e2,wnext (by omega)]
  by_cases e:s[j].f0=s[i].f0
  ·rw [hno ⟨j,by omega,e⟩]
   exact Ev.ifp e (Ev.now _)
  ·exact Ev.ifn e (ih (j+1) (by omega) (by omega) (fun m h=>by
    by_cases hmj:m=j
    ·subst hmj;exact e
    ·exact hm m (by omega)))

/-- what the reference asks at one place -/
def okAt (s:List Bind) (i:Nat) (h:i<s.length):Prop:=(0≤s[i].f0∧s[i].f0≤99999)∧isTerm s[i].f1=true∧¬ Cat.Reach s s[i].f1 s[i].f0∧∀ j,(hj:j<i)→s[j].f0≠s[i].f0

theorem subok_loop (s:List Bind) (hs:SizesB s):∀ (n i:Nat),s.length - i=n→i≤s.length→∃ b,Ev (fun k=>spec_SubOk.l0 k s (i:Int)) b∧(b=true↔∀ j,(h:j<s.length)→i≤j→okAt s j h):=by
 intro n
 induction n with
 | zero=>
  intro i hn hi
  refine ⟨true,Ev.step (fun k=>rfl) ?_,by simp;intro j h1 h2;omega⟩
  simp only [spec_SubOk.l0]
  exact Ev.ifn (by omega) (Ev.now _)
 | succ n ih=>
  intro i hn hi
  have hlt:i<s.length:=by omega
  have hl:=hs.len
  obtain ⟨b,hb,hbi⟩:=ih (i+1) (by omega) (by omega)
  have e2:rd_T30 s (i:Int)=s[i]:=by simp [rd_T30,List.getD,hlt]
  have start:∀ {q:Bool},Ev (fun k=>(spec_l1In.f ((rd_T30 s (i:Int)).f0) 0 99999).bind fun t151=>(if t151=true then ((spec_TrmOk.f k ((rd_T30 s (i:Int)).f1)).bind fun t153=>(if t153=true then ((spec_l2Leads.f k s ((rd_T30 s (i:Int)).f1)).bind fun t155=>((spec_l1Has.f k t155 ((rd_T30 s (i:Int)).f0)).bind fun t159=>(spec_SubOk.j1 k s (i:Int) t159))) else (spec_SubOk.j1 k s (i:Int) true))) else (spec_SubOk.j1 k s (i:Int) true))) q→Ev (fun k=>spec_SubOk.l0 k s (i:Int)) q:=fun {q} h=>by
   refine Ev.step (fun k=>rfl) ?_
   simp only [spec_SubOk.l0]
   exact Ev.ifp (by omega) (Ev.ifp (by omega) h)
  have bad:Ev (fun k=>spec_SubOk.j1 k s (i:Int) true) false:=by
   refine Ev.step (fun k=>rfl) ?_
   simp only [spec_SubOk.j1]
   exact Ev.ifp trivial (Ev.now _)
  by_cases hr:0≤s[i].f0∧s[i].f0≤99999
  case neg=>
   refine ⟨false,start ?_,⟨(fun e=>by cases e),fun h=>absurd (h i hlt (Nat.le_refl _)).1 hr⟩⟩
   rw [e2]
   exact Ev.bindv (sin_pure _ _ _) (Ev.ifn (by simpa using hr) bad)
  by_cases ht:isTerm s[i].f1=true
  case neg=>
   refine ⟨false,start ?_,⟨(fun e=>by cases e),fun h=>absurd (h i hlt (Nat.le_refl _)).2.1 ht⟩⟩
   rw [e2]
   exact Ev.bindv (sin_pure _ _ _) (Ev.ifp (by simpa using hr) (Ev.bind (sok_ev _) (Ev.ifn ht bad)))
  obtain ⟨res,hl1,hl2,hl3⟩:=leads_ev s hs s[i].f1 (hs.each _ (List.getElem_mem hlt))
  by_cases hre:Cat.Reach s s[i].f1 s[i].f0
  ·refine ⟨false,start ?_,⟨(fun e=>by cases e),fun h=>absurd hre (h i hlt (Nat.le_refl _)).2.2.1⟩⟩
   rw [e2]
   refine Ev.bindv (sin_pure _ _ _) (Ev.ifp (by simpa using hr) (Ev.bind (sok_ev _) (Ev.ifp ht (Ev.bind hl1 (Ev.bind (has_ev2 res s[i].f0 (by omega)) ?_)))))
   rw [decide_eq_true ((hl2 _).2 hre)]
   exact bad
  ·by_cases hd:∃ j,∃ h:j<i,s[j].f0=s[i].f0
   ·refine ⟨false,start ?_,⟨(fun e=>by cases e),fun h=>?_⟩⟩
    ·rw [e2]
     refine Ev.bindv (sin_pure _ _ _) (Ev.ifp (by simpa using hr) (Ev.bind (sok_ev _) (Ev.ifp ht (Ev.bind hl1 (Ev.bind (has_ev2 res s[i].f0 (by omega)) ?_)))))
     rw [decide_eq_false (fun h=>hre ((hl2 _).1 h))]
     refine Ev.step (fun k=>rfl) ?_
     simp only [spec_SubOk.j1]
     refine Ev.ifn (by simp) ?_
     exact dup_loop s (by omega) i hlt false (fun h=>by obtain ⟨j,hj,e⟩:=hd;exact absurd e (h j hj)) (fun _=>rfl) i 0 rfl (Nat.zero_le _) (fun m h=>absurd h (Nat.not_lt_zero _))
    ·obtain ⟨j,hj,e⟩:=hd
     exact absurd e ((h i hlt (Nat.le_refl _)).2.2.2 j hj)
   ·have hnd:∀ j,(h:j<i)→s[j].f0≠s[i].f0:=fun j h e=>hd ⟨j,h,e⟩
    refine ⟨b,start ?_,?_⟩
    ·rw [e2]
     refine Ev.bindv (sin_pure _ _ _) (Ev.ifp (by simpa using hr) (Ev.bind (sok_ev _) (Ev.ifp ht (Ev.bind hl1 (Ev.bind (has_ev2 res s[i].f0 (by omega)) ?_)))))
     rw [decide_eq_false (fun h=>hre ((hl2 _).1 h))]
     refine Ev.step (fun k=>rfl) ?_
     simp only [spec_SubOk.j1]
     refine Ev.ifn (by simp) ?_
     refine dup_loop s (by omega) i hlt b (fun _=>by rw [wnext (by omega)];exact hb) (fun h=>absurd h hd) i 0 rfl (Nat.zero_le _) (fun m h=>absurd h (Nat.not_lt_zero _))
    ·rw [hbi]
     constructor
     ·intro h j hj hij
      by_cases e:j=i
      ·subst e;exact ⟨hr,ht,hre,hnd⟩
      ·exact h j hj (by omega)
     ·intro h j hj hij
      exact h j hj (by omega)

open Classical in
theorem ssubok_ev (s:List Bind) (hs:SizesB s):Ev (fun k=>spec_SubOk.f k s) (decide (Oks s)):=by
 obtain ⟨b,hb,hbi⟩:=subok_loop s hs _ 0 rfl (Nat.zero_le _)
 have:decide (Oks s)=b:=by
  rw [Bool.eq_iff_iff,decide_eq_true_eq,hbi,oks_reach]
  constructor
  ·rintro ⟨⟨h1,h2⟩,h3⟩ j hj _
   have hm:s[j] ∈ s:=List.getElem_mem hj
   refine ⟨(h2 _ hm).1,(h2 _ hm).2,h3 _ hm,fun i hi e=>?_⟩
   have:=List.pairwise_iff_getElem.1 h1 i j (by simp;omega) (by simpa using hj) hi
   simp only [List.getElem_map] at this
   exact this e
  ·intro h
   refine ⟨⟨List.pairwise_iff_getElem.2 fun i j hi hj hij=>?_,fun b hb=>?_⟩,fun b hb=>?_⟩
   ·simp only [List.length_map] at hi hj
    simp only [List.getElem_map]
    exact (h j hj (Nat.zero_le _)).2.2.2 i hij
   ·obtain ⟨j,hj,rfl⟩:=List.getElem_of_mem hb
    exact ⟨(h j hj (Nat.zero_le _)).1,(h j hj (Nat.zero_le _)).2.1⟩
   ·obtain ⟨j,hj,rfl⟩:=List.getElem_of_mem hb
    exact (h j hj (Nat.zero_le _)).2.2.1
 rw [this]
 exact hb
end Go.Proofs.YtlaicnoikeieeaaDoor.P
