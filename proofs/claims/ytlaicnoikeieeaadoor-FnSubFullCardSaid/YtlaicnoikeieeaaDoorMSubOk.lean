/- What the program's SubOk answers: whether bindings are ok. -/
import Derived.Test.YtlaicnoikeieeaaDoorMFree
import Derived.Test.YtlaicnoikeieeaaDoorMTrm
import Derived.Test.YtlaicnoikeieeaaDoorMDfs
import Derived.Test.YtlaicnoikeieeaaDoorP9
namespace Go.Proofs.YtlaicnoikeieeaaDoor.P
set_option linter.unusedVariables false
set_option linter.unusedSimpArgs false
open Go.RowKit Go.Proofs.YtlaicnoikeieeaaDoor.Cat Go.Proofs.YtlaicnoikeieeaaDoorW.PrintWords Go.Proofs.YtlaicnoikeieeaaDoorW.PrintLast

theorem Ev_all {α β:Type} (f:Nat→α→Option β) (g:α→β):∀ (L:List α),(∀ x ∈ L,Ev (fun k=>f k x) (g x))→∃ K,∀ k,K≤k→∀ x ∈ L,f k x=some (g x)
 | [],_=>⟨0,fun _ _ x hx=>by cases hx⟩
 | x :: L,h=>by
  obtain ⟨K1,h1⟩:=h x (by simp)
  obtain ⟨K2,h2⟩:=Ev_all f g L (fun y hy=>h y (by simp [hy]))
  refine ⟨max K1 K2,fun k hk y hy=>?_⟩
  rcases List.mem_cons.1 hy with rfl|hy
  ·exact h1 k (by omega)
  ·exact h2 k (by omega) y hy

theorem go_spec:∀ (s:List Bind) (kn:Int→Option (List Cell)),
  (∀ kn',impl_SubOk.go kn s=some kn'→plainOk s∧(∀ b ∈ s,kn b.f0=none)∧∀ z,kn' z=(Cat.get s z).or (kn z))∧(impl_SubOk.go kn s=none→¬ (plainOk s∧∀ b ∈ s,kn b.f0=none))
 | [],kn=>by
  refine ⟨fun kn' h=>?_,fun h=>by cases h⟩
  obtain rfl:=Option.some.inj h
  exact ⟨⟨by simp,by simp⟩,by simp,fun z=>rfl⟩
 | b :: s,kn=>by
  obtain ⟨ih1,ih2⟩:=go_spec s (upd kn b.f0 (some b.f1))
  rw [impl_SubOk.go]
  by_cases hc:(kn b.f0).isSome=true∨¬ (0≤b.f0∧b.f0≤99999)∨isTerm b.f1=false
  ·rw [if_pos hc]
   refine ⟨(fun kn' h=>by cases h),fun _ h=>?_⟩
   rcases hc with hc|hc|hc
   ·rw [h.2 b (by simp)] at hc;cases hc
   ·exact hc (h.1.2 b (by simp)).1
   ·rw [(h.1.2 b (by simp)).2] at hc;cases hc
  ·rw [if_neg hc]
   have h1:kn b.f0=none:=by
    cases e:kn b.f0 with
    | none=>rfl
    | some t=>exact absurd (.inl (by rw [e];rfl)) hc
   have h2:0≤b.f0∧b.f0≤99999:=Decidable.byContradiction fun e=>hc (.inr (.inl e))
   have h3:isTerm b.f1=true:=by
    cases e:isTerm b.f1 with
    | true=>rfl
    | false=>exact absurd (.inr (.inr e)) hc
   refine ⟨fun kn' h=>?_,fun h hp=>?_⟩
   ·obtain ⟨⟨n1,n2⟩,n3,n4⟩:=ih1 kn' h
    have hne:∀ x ∈ s,x.f0≠b.f0:=fun x hx e=>by
     have:=n3 x hx
     rw [e,upd_same] at this
     cases this
    refine ⟨⟨?_,fun x hx=>?_⟩,fun x hx=>?_,fun z=>?_⟩
    ·rw [List.map_cons,List.nodup_cons]
     refine ⟨fun hm=>?_,n1⟩
     obtain ⟨x,hx,e⟩:=List.mem_map.1 hm
     exact hne x hx e
    ·rcases List.mem_cons.1 hx with rfl|hx
     ·exact ⟨h2,h3⟩
     ·exact n2 x hx
    ·rcases List.mem_cons.1 hx with rfl|hx
     ·exact h1
     ·have:=n3 x hx
      rwa [upd_ne _ _ (hne x hx)] at this
    ·rw [n4 z]
     by_cases e:z=b.f0
     ·subst e
      have e1:Cat.get s b.f0=none:=by
       cases e2:Cat.get s b.f0 with
       | none=>rfl
       | some t=>
        obtain ⟨x,hx,e3,_⟩:=get_mem e2
        exact absurd e3 (hne x hx)
      rw [e1,upd_same]
      unfold Cat.get
      rw [List.find?_cons,show (b.f0 == b.f0)=true by simp]
      rfl
     ·rw [upd_ne _ _ e]
      unfold Cat.get
      rw [List.find?_cons,show (b.f0 == z)=false by simpa using fun h=>e h.symm]
   ·refine ih2 h ⟨⟨?_,fun x hx=>hp.1.2 x (by simp [hx])⟩,fun x hx=>?_⟩
    ·have:=hp.1.1
     rw [List.map_cons,List.nodup_cons] at this
     exact this.2
    ·have hne:x.f0≠b.f0:=fun e=>by
      have:=hp.1.1
      rw [List.map_cons,List.nodup_cons] at this
      exact this.1 (List.mem_map.2 ⟨x,hx,e⟩)
     rw [upd_ne _ _ hne]
     exact hp.2 x (by simp [hx])

theorem lF_eq {K:Nat} {kn:Int→List Cell} (hK:∀ a,impl_TrmFree.f K (kn a)=some (frees (kn a))) (hr:∀ a,∀ y ∈ frees (kn a),0≤y∧y≤99999):∀ (k:Nat) (v:Int→Int) (a:Int),0≤a∧a≤99999→impl_SubOk.lF K kn k v a=loopsF kn k v a
 | 0,_,_,_=>rfl
 | k+1,v,a,ha=>by
  have hl:∀ (ns:List Int) (v:Int→Int),(∀ n ∈ ns,0≤n∧n≤99999)→loopsL (impl_SubOk.lF K kn k) v ns=loopsL (loopsF kn k) v ns:=by
   intro ns
   induction ns with
   | nil=>intro v _;rfl
   | cons n ns ih=>
    intro v hn
    rw [loopsL,loopsL,lF_eq hK hr k v n (hn n (by simp))]
    congr 1
    funext r
    rw [ih r.2 (fun m hm=>hn m (by simp [hm]))]
  rw [impl_SubOk.lF,loopsF,if_pos ha,hK a]
  simp only [Option.bind_some]
  rw [hl _ _ (hr a)]

theorem anyS_loops {f:(Int→Int)→Int→Option (Bool × (Int→Int))}:∀ (s:List Bind) (v:Int→Int),anyS (fun v (x:Bind)=>f v x.f0) v s=loopsL f v (s.map (·.f0))
 | [],v=>rfl
 | b :: s,v=>by
  rw [anyS,List.map_cons,loopsL]
  congr 1
  funext r
  rw [anyS_loops s r.2]
  split
  ·rename_i h
   cases r;simp only at h;subst h;rfl
  ·rfl

open Classical in
theorem isubok_ev (s:List Bind) (hw:∀ b ∈ s,(Lit.int .i64 b.f0).wf=true):Ev (fun k=>impl_SubOk.f k s) (decide (Oks s)):=by
 have hall:(s.all fun b=>(Lit.int .i64 b.f0).wf)=true:=List.all_eq_true.2 hw
 obtain ⟨g1,g2⟩:=go_spec s (fun _=>none)
 cases hg:impl_SubOk.go (fun _=>none) s with
 | none=>
  have hno:¬ Oks s:=fun h=>g2 hg ⟨(oks_iff.1 h).1,fun _ _=>rfl⟩
  rw [decide_eq_false hno]
  refine Ev.all (fun k=>?_)
  unfold impl_SubOk.f
  rw [if_pos hall,hg]
 | some kn'=>
  obtain ⟨hp,_,hkn⟩:=g1 kn' hg
  have ek:(fun z=>(kn' z).getD [])=known s:=by
   funext z
   rw [hkn z]
   unfold known
   cases Cat.get s z <;> rfl
  obtain ⟨k0,b,v',e,hb⟩:=loops_oks hp
  obtain ⟨K0,hK0⟩:=Ev_all (fun k l=>impl_TrmFree.f k l) frees ([] :: s.map (·.f1)) (fun l hl=>ifree_ev l (by
   rcases List.mem_cons.1 hl with rfl|hl
   ·simp
   ·obtain ⟨x,hx,rfl⟩:=List.mem_map.1 hl
    have:=(isTerm_iff'.1 (hp.2 x hx).2).2.1
    omega))
  have hmem:∀ a,known s a ∈ [] :: s.map (·.f1):=fun a=>by
   unfold known
   cases e:Cat.get s a with
   | none=>simp
   | some t=>
    obtain ⟨x,hx,_,rfl⟩:=get_mem e
    exact List.mem_cons_of_mem _ (List.mem_map_of_mem hx)
  have hr:∀ a,∀ y ∈ frees (known s a),0≤y∧y≤99999:=fun a y hy=>by
   obtain ⟨x,hx,_,e⟩:=known_some hy
   rw [e] at hy
   obtain ⟨c,hc,hv,rfl⟩:=mem_frees.1 hy
   exact var_range ((isTerm_iff'.1 (hp.2 x hx).2).2.2.1 c hc) hv
  have hd:decide (Oks s) = !b:=by
   cases b with
   | true=>rw [decide_eq_false (hb.1 rfl)];rfl
   | false=>rw [decide_eq_true (Decidable.byContradiction fun h=>absurd (hb.2 h) (by decide))];rfl
  rw [hd]
  refine ⟨max k0 K0,fun k hk=>?_⟩
  have hKk:=fun a=>hK0 k (by omega) (known s a) (hmem a)
  unfold impl_SubOk.f
  show (if (s.all fun b=>(Lit.int IntKind.i64 b.f0).wf)=true then _ else none)=_
  rw [if_pos hall,hg]
  show Option.map _ (anyS (fun v x=>impl_SubOk.lF k (fun z=>(kn' z).getD []) k v x.f0) (fun _=>0) s)=_
  rw [ek,anyS_loops]
  have h1:∀ (ns:List Int) (v:Int→Int),(∀ n ∈ ns,0≤n∧n≤99999)→loopsL (impl_SubOk.lF k (known s) k) v ns=loopsL (loopsF (known s) k) v ns:=by
   intro ns
   induction ns with
   | nil=>intro v _;rfl
   | cons n ns ih=>
    intro v hn
    rw [loopsL,loopsL,lF_eq hKk hr k v n (hn n (by simp))]
    congr 1
    funext r
    rw [ih r.2 (fun m hm=>hn m (by simp [hm]))]
  have h2:∀ (ns:List Int) (v:Int→Int) (r:Bool × (Int→Int)),loopsL (loopsF (known s) k0) v ns=some r→loopsL (loopsF (known s) k) v ns=some r:=by
   intro ns
   induction ns with
   | nil=>intro v r h;exact h
   | cons n ns ih=>
    intro v r h
    rw [loopsL] at h ⊢
    cases e:loopsF (known s) k0 v n with
    | none=>rw [e] at h;cases h
    | some q=>
     rw [e] at h
     rw [loopsF_le (known s) (show k0≤k by omega) e]
     simp only [Option.bind_some] at h ⊢
     split
     ·rw [if_pos ‹_›] at h;exact h
     ·rw [if_neg ‹_›] at h;exact ih _ _ h
  rw [h1 _ _ (fun n hn=>by obtain ⟨x,hx,rfl⟩:=List.mem_map.1 hn;exact (hp.2 x hx).1),h2 _ _ _ e]
  rfl
end Go.Proofs.YtlaicnoikeieeaaDoor.P
