/- What the reference's l2Get, l2Leads and SubOk answer. -/
import Derived.Test.YtlaicnoikeieeaaDoorMFree
import Derived.Test.YtlaicnoikeieeaaDoorMTrm
import Derived.Test.YtlaicnoikeieeaaDoorMDfs
import Derived.Test.YtlaicnoikeieeaaDoorP9
import Derived.Test.YtlaicnoikeieeaaDoorP7
import Derived.Test.YtlaicnoikeieeaaDoorP10
namespace Go.Proofs.YtlaicnoikeieeaaDoor.P
set_option linter.unusedVariables false
set_option linter.unusedSimpArgs false
open Go.RowKit Go.Proofs.YtlaicnoikeieeaaDoor.Cat Go.Proofs.YtlaicnoikeieeaaDoorW.PrintWords Go.Proofs.YtlaicnoikeieeaaDoorW.PrintLast

theorem rdBb (a r:List Bind) (c:Bind):rd_T30 (a++c :: r) ((a.length:Nat):Int)=c:=by simp [rd_T30,List.getD]
theorem known_cons (b:Bind) (s:List Bind) (v:Int):known (b :: s) v=if b.f0=v then b.f1 else known s v:=by
 unfold known Cat.get
 rw [List.find?_cons]
 by_cases h:b.f0=v
 ·rw [if_pos h,show (b.f0 == v)=true by simpa using h];rfl
 ·rw [if_neg h,show (b.f0 == v)=false by simpa using h]

theorem l2get_loop (v:Int):∀ (r a:List Bind),a.length+r.length≤9223372036854775806→Ev (fun k=>spec_l2Get.l0 k (a++r) v ((a.length:Nat):Int)) (known r v)
 | [],a,h=>by
  refine Ev.step (fun k=>rfl) ?_
  simp only [spec_l2Get.l0]
  exact Ev.ifn (not_lt_app a) (Ev.now _)
 | b :: r,a,h=>by
  have ih:=l2get_loop v r (a++[b]) (by simp at *;omega)
  rw [snoc_len] at ih
  simp only [List.append_assoc,List.singleton_append] at ih
  refine Ev.step (fun k=>rfl) ?_
  simp only [spec_l2Get.l0]
  refine Ev.ifp (lt_app a r b) (Ev.ifp (by omega) ?_)
  rw [rdBb,wnext (by simp at h;omega),known_cons]
  by_cases e:b.f0=v
  ·rw [if_pos e];exact Ev.ifp e (Ev.now _)
  ·rw [if_neg e];exact Ev.ifn e ih
theorem l2get_ev (s:List Bind) (v:Int) (h:s.length≤1099511627776):Ev (fun k=>spec_l2Get.f k s v) (known s v):=l2get_loop v s [] (by simp;omega)

theorem has_ev2 (l:List Int) (v:Int) (h:l.length≤9223372036854775806):Ev (fun k=>spec_l1Has.f k l v) (decide (v ∈ l)):=has_loop v l [] (by simp;omega)
/-- those of more that are not there yet -/
def addAll (out:List Int):List Int→List Int
 | []=>out
 | y :: r=>if y ∈ out then addAll out r else addAll (out++[y]) r
theorem addAll_pre:∀ (r out:List Int),∃ e,addAll out r=out++e
 | [],out=>⟨[],by simp [addAll]⟩
 | y :: r,out=>by
  unfold addAll
  by_cases h:y ∈ out
  ·rw [if_pos h];exact addAll_pre r out
  ·rw [if_neg h]
   obtain ⟨e,he⟩:=addAll_pre r (out++[y])
   exact ⟨y :: e,by rw [he];simp⟩
theorem mem_addAll:∀ (r out:List Int) (v:Int),v ∈ addAll out r↔v ∈ out∨v ∈ r
 | [],out,v=>by simp [addAll]
 | y :: r,out,v=>by
  unfold addAll
  by_cases h:y ∈ out
  ·rw [if_pos h,mem_addAll r out v]
   constructor
   ·rintro (h1|h1)
    ·exact .inl h1
    ·exact .inr (by simp [h1])
   ·rintro (h1|h1)
    ·exact .inl h1
    ·rcases List.mem_cons.1 h1 with rfl|h1
     ·exact .inl h
     ·exact .inr h1
  ·rw [if_neg h,mem_addAll r _ v]
   simp only [List.mem_append,List.mem_cons,List.not_mem_nil,or_false]
   constructor
   ·rintro ((h1|h1)|h1)
    ·exact .inl h1
    ·exact .inr (.inl h1)
    ·exact .inr (.inr h1)
   ·rintro (h1|h1|h1)
    ·exact .inl (.inl h1)
    ·exact .inl (.inr h1)
    ·exact .inr h1
theorem addAll_nodup:∀ (r out:List Int),out.Nodup→(addAll out r).Nodup
 | [],out,h=>h
 | y :: r,out,h=>by
  unfold addAll
  by_cases hy:y ∈ out
  ·rw [if_pos hy];exact addAll_nodup r out h
  ·rw [if_neg hy]
   refine addAll_nodup r _ ?_
   rw [List.nodup_append]
   exact ⟨h,by simp,fun a ha b hb=>by rw [List.mem_singleton.1 hb];exact fun e=>hy (e ▸ ha)⟩

theorem nodup_len {U l:List Int} (hn:l.Nodup) (hU:∀ x ∈ l,x ∈ U):l.length≤U.length:=by
 induction l generalizing U with
 | nil=>simp
 | cons x l ih=>
  rw [List.nodup_cons] at hn
  have hx:=hU x (by simp)
  have:=ih (U:=U.erase x) hn.2 (fun y hy=>by
   have hne:y≠x:=fun e=>hn.1 (e ▸ hy)
   exact (List.mem_erase_of_ne hne).2 (hU y (by simp [hy])))
  rw [List.length_erase_of_mem hx] at this
  have:=List.length_pos_of_mem hx
  simp only [List.length_cons]
  omega

theorem leads_inner (s:List Bind) (i:Int) (B:Nat) (hB:B≤4398046511104) (res:List Int):∀ (r a out:List Int),(∀ e,addAll out r=out++e→out.length+e.length≤B)→a.length+r.length≤1099511627776→
  Ev (fun k=>spec_l2Leads.l0 k s (addAll out r) (wrap64 (i+1))) res→Ev (fun k=>spec_l2Leads.l1 k s out i (a++r) ((a.length:Nat):Int)) res
 | [],a,out,hb,hl,H=>by
  refine Ev.step (fun k=>rfl) ?_
  simp only [spec_l2Leads.l1]
  exact Ev.ifn (not_lt_app a) H
 | y :: r,a,out,hb,hl,H=>by
  have hlen:out.length≤B:=by
   obtain ⟨e,he⟩:=addAll_pre (y :: r) out
   have:=hb e he
   omega
  refine Ev.step (fun k=>rfl) ?_
  simp only [spec_l2Leads.l1]
  refine Ev.ifp (lt_app a r y) (Ev.ifp (by omega) ?_)
  rw [rdI,wnext (by simp at hl;omega)]
  refine Ev.bind (has_ev2 out y (by omega)) ?_
  unfold addAll at H hb
  by_cases hy:y ∈ out
  ·rw [if_pos hy] at H hb
   have ih:=leads_inner s i B hB res r (a++[y]) out hb (by simp at *;omega) H
   rw [snoc_len] at ih
   simp only [List.append_assoc,List.singleton_append] at ih
   exact Ev.ifp (by simpa using hy) ih
  ·rw [if_neg hy] at H hb
   have ih:=leads_inner s i B hB res r (a++[y]) (out++[y]) (fun e he=>by
    have:=hb (y :: e) (by rw [he];simp)
    simp at *;omega) (by simp at *;omega) H
   rw [snoc_len] at ih
   simp only [List.append_assoc,List.singleton_append] at ih
   exact Ev.ifn (by simpa using hy) (Ev.ifp (by omega) ih)

/-- what is asked of sizes -/
structure SizesB (s:List Bind):Prop where
 len:s.length≤1048576
 each:∀ b ∈ s,b.f1.length≤1048576
theorem known_len {s:List Bind} (h:SizesB s) (v:Int):(known s v).length≤1048576:=by
 cases e:Cat.get s v with
 | none=>unfold known;rw [e];simp
 | some t=>
  obtain ⟨b,hb,_,rfl⟩:=get_mem e
  unfold known;rw [e];exact h.each b hb
theorem frees_len (l:List Cell):(frees l).length≤l.length:=by have:=freesOn_len l [];simpa [frees] using this

theorem leads_loop (s:List Bind) (hs:SizesB s) (t:List Cell) (U:List Int) (hUl:U.length≤4398046511104) (hU:∀ x,∀ y ∈ frees (known s x),y ∈ U):∀ (n:Nat) (out:List Int) (i:Nat),U.length - i=n→i≤out.length→out.Nodup→(∀ x ∈ out,x ∈ U)→
  (∀ y ∈ frees t,y ∈ out)→(∀ y ∈ out,Cat.Reach s t y)→(∀ j,∀ (h:j<out.length),j<i→∀ y ∈ frees (known s out[j]),y ∈ out)→
  ∃ res,Ev (fun k=>spec_l2Leads.l0 k s out (i:Int)) res∧(∀ v,v ∈ res↔Cat.Reach s t v)∧res.length≤U.length:=by
 intro n
 induction n with
 | zero=>
  intro out i hn hi ho hUo ht hr hc
  have hlen:=nodup_len ho hUo
  have hio:i=out.length:=by omega
  refine ⟨out,Ev.step (fun k=>rfl) ?_,fun v=>⟨hr v,fun h=>?_⟩,hlen⟩
  ·simp only [spec_l2Leads.l0]
   exact Ev.ifn (by omega) (Ev.now _)
  ·refine reach_closed (fun x hx y hy=>?_) h ht
   obtain ⟨j,hj,rfl⟩:=List.getElem_of_mem hx
   exact hc j hj (by omega) y hy
 | succ n ih=>
  intro out i hn hi ho hUo ht hr hc
  have hlen:=nodup_len ho hUo
  by_cases hlt:i<out.length
  ·have hmem:out[i] ∈ out:=List.getElem_mem hlt
   obtain ⟨e,he⟩:=addAll_pre (frees (known s out[i])) out
   have hle:out.length≤(addAll out (frees (known s out[i]))).length:=by rw [he];simp
   obtain ⟨res,h1,h2,h3⟩:=ih (addAll out (frees (known s out[i]))) (i+1) (by omega) (by omega) (addAll_nodup _ _ ho) (fun x hx=>by
     rcases (mem_addAll _ _ _).1 hx with hx|hx
     ·exact hUo x hx
     ·exact hU _ x hx)
    (fun y hy=>(mem_addAll _ _ _).2 (.inl (ht y hy)))
    (fun y hy=>by
     rcases (mem_addAll _ _ _).1 hy with hy|hy
     ·exact hr y hy
     ·exact (hr _ hmem).snoc hy)
    (fun j hj hji y hy=>by
     have hjo:j<out.length:=by omega
     have ej:(addAll out (frees (known s out[i])))[j]=out[j]:=by simp only [he];exact List.getElem_append_left hjo
     rw [ej] at hy
     by_cases hij:j<i
     ·exact (mem_addAll _ _ _).2 (.inl (hc j hjo hij y hy))
     ·obtain rfl:j=i:=by omega
      exact (mem_addAll _ _ _).2 (.inr hy))
   refine ⟨res,Ev.step (fun k=>rfl) ?_,h2,h3⟩
   simp only [spec_l2Leads.l0]
   have er:rd out (i:Int)=out[i]:=by simp [rd,List.getD,hlt]
   rw [er]
   have kl:=known_len hs out[i]
   have fl:=frees_len (known s out[i])
   refine Ev.ifp (by omega) (Ev.ifp (by omega) (Ev.bind (l2get_ev s _ (by have:=hs.len;omega)) (Ev.bind (sfree_ev _ (by omega)) ?_)))
   refine leads_inner s (i:Int) U.length hUl res (frees (known s out[i])) [] out (fun e2 he2=>?_) (by simp;omega) ?_
   ·have:=nodup_len (addAll_nodup (frees (known s out[i])) out ho) (fun x hx=>by
     rcases (mem_addAll _ _ _).1 hx with hx|hx
     ·exact hUo x hx
     ·exact hU _ x hx)
    rw [he2] at this
    simpa using this
   ·rw [wnext (by omega)];exact h1
  ·have hio:i=out.length:=by omega
   refine ⟨out,Ev.step (fun k=>rfl) ?_,fun v=>⟨hr v,fun h=>?_⟩,hlen⟩
   ·simp only [spec_l2Leads.l0]
    exact Ev.ifn (by omega) (Ev.now _)
   ·refine reach_closed (fun x hx y hy=>?_) h ht
    obtain ⟨j,hj,rfl⟩:=List.getElem_of_mem hx
    exact hc j hj (by omega) y hy

theorem flat_len:∀ (s:List Bind),(∀ b ∈ s,b.f1.length≤1048576)→(s.flatMap fun b=>frees b.f1).length≤s.length * 1048576
 | [],_=>by simp
 | b :: s,h=>by
  rw [List.flatMap_cons,List.length_append,List.length_cons]
  have h1:=flat_len s (fun b hb=>h b (by simp [hb]))
  have h2:=frees_len b.f1
  have h3:=h b (by simp)
  omega

/-- all that a term's variables lead to -/
theorem leads_ev (s:List Bind) (hs:SizesB s) (t:List Cell) (ht:t.length≤1048576):∃ res,Ev (fun k=>spec_l2Leads.f k s t) res∧(∀ v,v ∈ res↔Cat.Reach s t v)∧res.length≤2199023255552:=by
 have hl:=flat_len s hs.each
 have fl:=frees_len t
 have:=hs.len
 have hU:∀ x,∀ y ∈ frees (known s x),y ∈ frees t++s.flatMap (fun b=>frees b.f1):=fun x y hy=>by
  obtain ⟨b,hb,_,e⟩:=known_some hy
  rw [e] at hy
  exact List.mem_append_right _ (List.mem_flatMap.2 ⟨b,hb,hy⟩)
 have hm:s.length * 1048576≤1048576 * 1048576:=Nat.mul_le_mul_right _ hs.len
 obtain ⟨res,h1,h2,h3⟩:=leads_loop s hs t (frees t++s.flatMap (fun b=>frees b.f1)) (by rw [List.length_append];omega) hU _ (frees t) 0 rfl (Nat.zero_le _) (frees_nodup t) (fun x hx=>List.mem_append_left _ hx) (fun y hy=>hy)
  (fun y hy=>by obtain ⟨c,hc,hv,rfl⟩:=mem_frees.1 hy;exact .here hc hv) (fun j _ h=>absurd h (Nat.not_lt_zero _))
 refine ⟨res,?_,h2,?_⟩
 ·unfold spec_l2Leads.f
  exact Ev.bind (sfree_ev t (by omega)) h1
 ·rw [List.length_append] at h3;omega

/-! ### SubOk -/
end Go.Proofs.YtlaicnoikeieeaaDoor.P
