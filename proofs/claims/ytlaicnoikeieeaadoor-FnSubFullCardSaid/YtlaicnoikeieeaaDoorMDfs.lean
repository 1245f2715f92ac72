/- Ways through bindings, gone depth first: whether a variable leads to itself, and whether a term leads to a variable. Plain Lean, no program. -/
import Derived.Test.YtlaicnoikeieeaaDoorMSub
namespace Go.Proofs.YtlaicnoikeieeaaDoor.Cat
set_option linter.unusedVariables false
set_option linter.unusedSimpArgs false

instance:DecidableEq Bind:=fun a b=>
 if h:a.f0=b.f0∧a.f1=b.f1 then isTrue (by cases a;cases b;simp only at h;obtain ⟨rfl,rfl⟩:=h;rfl) else isFalse (fun e=>h (by rw [e];exact ⟨rfl,rfl⟩))

def upd {α:Type} (v:Int→α) (a:Int) (x:α):Int→α:=fun y=>if y=a then x else v y
theorem upd_same {α:Type} (v:Int→α) (a:Int) (x:α):upd v a x a=x:=by simp [upd]
theorem upd_ne {α:Type} (v:Int→α) {a y:Int} (x:α) (h:y≠a):upd v a x y=v y:=by simp [upd,h]

/-- several, one behind the other, till one says yes -/
def loopsL {β:Type} (f:β→Int→Option (Bool × β)):β→List Int→Option (Bool × β)
 | v,[]=>some (false,v)
 | v,n :: ns=>(f v n).bind fun r=>if r.1=true then some r else loopsL f r.2 ns
/-- whether a variable leads to itself, or to one under way; and how far each was gone through -/
def loopsF (kn:Int→List Cell):Nat→(Int→Int)→Int→Option (Bool × (Int→Int))
 | 0,_,_=>none
 | k+1,v,a=>if v a=1 then some (true,v) else if v a=2 then some (false,v) else
   (loopsL (loopsF kn k) (upd v a 1) (frees (kn a))).bind fun r=>if r.1=true then some r else some (false,upd r.2 a 2)

inductive Path (kn:Int→List Cell):Int→Int→Prop
 | one {x y:Int}:y ∈ frees (kn x)→Path kn x y
 | step {x y z:Int}:y ∈ frees (kn x)→Path kn y z→Path kn x z
theorem Path.snoc {kn:Int→List Cell} {x y z:Int} (h:Path kn x y) (hz:z ∈ frees (kn y)):Path kn x z:=by
 induction h with
 | one h=>exact .step h (.one hz)
 | step h _ ih=>exact .step h (ih hz)

/-- what is done leads only to what is done, and lower -/
def DoneSet (kn:Int→List Cell) (v:Int→Int):Prop:=∃ rk:Int→Nat,∀ x,v x=2→∀ y ∈ frees (kn x),v y=2∧rk y<rk x

def Behind (kn:Int→List Cell) (v v':Int→Int):Prop:=DoneSet kn v'∧(∀ x,v' x=1↔v x=1)∧∀ x,v x=2→v' x=2

theorem loopsL_spec {kn:Int→List Cell} {f:(Int→Int)→Int→Option (Bool × (Int→Int))}
  (hf:∀ v a b v',f v a=some (b,v')→DoneSet kn v→(∀ x,v x=1→Path kn x a)→(b=true→∃ x,Path kn x x)∧(b=false→Behind kn v v'∧v' a=2)) :
  ∀ (ns:List Int) (v:Int→Int) (b:Bool) (v':Int→Int),loopsL f v ns=some (b,v')→DoneSet kn v→(∀ n ∈ ns,∀ x,v x=1→Path kn x n)→
   (b=true→∃ x,Path kn x x)∧(b=false→Behind kn v v'∧∀ n ∈ ns,v' n=2)
 | [],v,b,v',h,hd,_=>by
  simp only [loopsL,Option.some.injEq,Prod.mk.injEq] at h
  obtain ⟨rfl,rfl⟩:=h
  exact ⟨(fun e=>by cases e),fun _=>⟨⟨hd,fun _=>Iff.rfl,fun _ h=>h⟩,fun n hn=>by cases hn⟩⟩
 | n :: ns,v,b,v',h,hd,hp=>by
  simp only [loopsL] at h
  cases e:f v n with
  | none=>rw [e] at h;cases h
  | some r=>
   obtain ⟨b1,v1⟩:=r
   rw [e] at h
   simp only [Option.bind_some] at h
   obtain ⟨h1,h2⟩:=hf v n b1 v1 e hd (hp n (by simp))
   cases b1 with
   | true=>
    simp only [if_true,Option.some.injEq,Prod.mk.injEq] at h
    obtain ⟨rfl,rfl⟩:=h
    exact ⟨fun _=>h1 rfl,fun e=>by cases e⟩
   | false=>
    rw [if_neg (by simp)] at h
    obtain ⟨⟨d1,o1,t1⟩,a1⟩:=h2 rfl
    obtain ⟨k1,k2⟩:=loopsL_spec hf ns v1 b v' h d1 (fun m hm x hx=>hp m (by simp [hm]) x ((o1 x).1 hx))
    refine ⟨k1,fun e=>?_⟩
    obtain ⟨⟨d2,o2,t2⟩,a2⟩:=k2 e
    refine ⟨⟨d2,fun x=>(o2 x).trans (o1 x),fun x hx=>t2 x (t1 x hx)⟩,fun m hm=>?_⟩
    rcases List.mem_cons.1 hm with rfl|hm
    ·exact t2 _ a1
    ·exact a2 m hm

theorem loopsF_spec (kn:Int→List Cell):∀ (k:Nat) (v:Int→Int) (a:Int) (b:Bool) (v':Int→Int),loopsF kn k v a=some (b,v')→DoneSet kn v→(∀ x,v x=1→Path kn x a)→
  (b=true→∃ x,Path kn x x)∧(b=false→Behind kn v v'∧v' a=2)
 | 0,v,a,b,v',h,_,_=>by cases h
 | k+1,v,a,b,v',h,hd,hp=>by
  unfold loopsF at h
  by_cases h1:v a=1
  ·rw [if_pos h1] at h
   simp only [Option.some.injEq,Prod.mk.injEq] at h
   obtain ⟨rfl,rfl⟩:=h
   exact ⟨fun _=>⟨a,hp a h1⟩,fun e=>by cases e⟩
  ·rw [if_neg h1] at h
   by_cases h2:v a=2
   ·rw [if_pos h2] at h
    simp only [Option.some.injEq,Prod.mk.injEq] at h
    obtain ⟨rfl,rfl⟩:=h
    exact ⟨(fun e=>by cases e),fun _=>⟨⟨hd,fun _=>Iff.rfl,fun _ h=>h⟩,h2⟩⟩
   ·rw [if_neg h2] at h
    cases e:loopsL (loopsF kn k) (upd v a 1) (frees (kn a)) with
    | none=>rw [e] at h;cases h
    | some r=>
     obtain ⟨b1,v1⟩:=r
     rw [e] at h
     simp only [Option.bind_some] at h
     have hd0:DoneSet kn (upd v a 1):=by
      obtain ⟨rk,hr⟩:=hd
      refine ⟨rk,fun x hx y hy=>?_⟩
      have hxa:x≠a:=by rintro rfl;rw [upd_same] at hx;cases hx
      rw [upd_ne v _ hxa] at hx
      obtain ⟨q1,q2⟩:=hr x hx y hy
      have hya:y≠a:=by rintro rfl;exact h2 q1
      exact ⟨by rw [upd_ne v _ hya];exact q1,q2⟩
     obtain ⟨k1,k2⟩:=loopsL_spec (loopsF_spec kn k) (frees (kn a)) _ b1 v1 e hd0 (fun n hn x hx=>by
      by_cases hxa:x=a
      ·subst hxa;exact .one hn
      ·rw [upd_ne v _ hxa] at hx
       exact (hp x hx).snoc hn)
     cases b1 with
     | true=>
      simp only [if_true,Option.some.injEq,Prod.mk.injEq] at h
      obtain ⟨rfl,rfl⟩:=h
      exact ⟨fun _=>k1 rfl,fun e=>by cases e⟩
     | false=>
      rw [if_neg (by simp)] at h
      simp only [Option.some.injEq,Prod.mk.injEq] at h
      obtain ⟨rfl,rfl⟩:=h
      obtain ⟨⟨⟨rk,hr⟩,o1,t1⟩,a1⟩:=k2 rfl
      have ha1:v1 a=1:=(o1 a).2 (upd_same v a 1)
      have hM:∃ M,∀ y ∈ frees (kn a),rk y<M:=by
       clear a1 e hp k1 k2
       generalize frees (kn a)=l
       induction l with
       | nil=>exact ⟨0,by simp⟩
       | cons y l ih=>
        obtain ⟨M,hM⟩:=ih
        refine ⟨max M (rk y+1),fun z hz=>?_⟩
        rcases List.mem_cons.1 hz with rfl|hz
        ·omega
        ·have:=hM z hz;omega
      obtain ⟨M,hM⟩:=hM
      refine ⟨(fun e=>by cases e),fun _=>⟨⟨⟨fun x=>if x=a then M else rk x,fun x hx y hy=>?_⟩,fun x=>?_,fun x hx=>?_⟩,upd_same _ _ _⟩⟩
      ·by_cases hxa:x=a
       ·subst hxa
        have q:=a1 y hy
        have hya:y≠x:=by rintro rfl;rw [ha1] at q;cases q
        exact ⟨by rw [upd_ne v1 _ hya];exact q,by simp only [if_true,if_neg hya];exact hM y hy⟩
       ·rw [upd_ne v1 _ hxa] at hx
        obtain ⟨q1,q2⟩:=hr x hx y hy
        have hya:y≠a:=by rintro rfl;rw [ha1] at q1;cases q1
        exact ⟨by rw [upd_ne v1 _ hya];exact q1,by simp only [if_neg hya,if_neg hxa];exact q2⟩
      ·by_cases hxa:x=a
       ·subst hxa;rw [upd_same];exact ⟨(fun e=>by cases e),fun e=>absurd e h1⟩
       ·rw [upd_ne v1 _ hxa,o1 x,upd_ne v _ hxa]
      ·by_cases hxa:x=a
       ·subst hxa;exact upd_same _ _ _
       ·rw [upd_ne v1 _ hxa];exact t1 x (by rw [upd_ne v _ hxa];exact hx)

/-! ### it ends -/
def fresh (U:List Int) (v:Int→Int):Nat:=(U.filter fun x=>decide (v x≠1∧v x≠2)).length
def More (v v':Int→Int):Prop:=∀ x,v x=1∨v x=2→v' x=1∨v' x=2
theorem More.refl (v:Int→Int):More v v:=fun _ h=>h
theorem More.trans {a b c:Int→Int} (h:More a b) (k:More b c):More a c:=fun x hx=>k x (h x hx)
theorem More.fresh {U:List Int} {v v':Int→Int} (h:More v v'):Cat.fresh U v'≤Cat.fresh U v:=by
 unfold Cat.fresh
 induction U with
 | nil=>exact Nat.le_refl _
 | cons x U ih=>
  by_cases h1:v' x≠1∧v' x≠2
  ·have h2:v x≠1∧v x≠2:=⟨fun e=>(h x (.inl e)).elim h1.1 h1.2,fun e=>(h x (.inr e)).elim h1.1 h1.2⟩
   rw [List.filter_cons_of_pos (by exact decide_eq_true h1),List.filter_cons_of_pos (by exact decide_eq_true h2)]
   exact Nat.succ_le_succ ih
  ·rw [List.filter_cons_of_neg (by rw [decide_eq_true_eq];exact h1)]
   refine Nat.le_trans ih ?_
   rw [List.filter_cons]
   split
   ·exact Nat.le_succ _
   ·exact Nat.le_refl _
theorem fresh_upd {U:List Int} {v:Int→Int} {a:Int} (ha:a ∈ U) (h1:v a≠1) (h2:v a≠2):fresh U (upd v a 1)<fresh U v:=by
 unfold fresh
 induction U with
 | nil=>cases ha
 | cons x U ih=>
  have mono:(U.filter fun x=>decide (upd v a 1 x≠1∧upd v a 1 x≠2)).length≤(U.filter fun x=>decide (v x≠1∧v x≠2)).length:=by
   refine More.fresh (U:=U) (v:=v) (v':=upd v a 1) (fun y hy=>?_)
   by_cases e:y=a
   ·subst e;exact .inl (upd_same _ _ _)
   ·rw [upd_ne v _ e];exact hy
  by_cases e:x=a
  ·subst e
   rw [List.filter_cons_of_neg (by rw [decide_eq_true_eq,upd_same];exact fun e=>e.1 rfl),List.filter_cons_of_pos (by exact decide_eq_true ⟨h1,h2⟩)]
   exact Nat.lt_succ_of_le mono
  ·have:=ih ((List.mem_cons.1 ha).resolve_left (fun q=>e q.symm))
   rw [List.filter_cons,List.filter_cons,upd_ne v _ e]
   split
   ·exact Nat.succ_lt_succ this
   ·exact this

theorem loopsF_mono (kn:Int→List Cell):∀ (k:Nat) (v:Int→Int) (a:Int) (r:Bool × (Int→Int)),loopsF kn k v a=some r→loopsF kn (k+1) v a=some r
 | 0,v,a,r,h=>by cases h
 | k+1,v,a,r,h=>by
  have hl:∀ (ns:List Int) (v:Int→Int) (r:Bool × (Int→Int)),loopsL (loopsF kn k) v ns=some r→loopsL (loopsF kn (k+1)) v ns=some r:=by
   intro ns
   induction ns with
   | nil=>intro v r h;exact h
   | cons n ns ih=>
    intro v r h
    rw [loopsL] at h ⊢
    cases e:loopsF kn k v n with
    | none=>rw [e] at h;cases h
    | some q=>
     rw [e] at h
     rw [loopsF_mono kn k v n q e]
     simp only [Option.bind_some] at h ⊢
     split
     ·rw [if_pos ‹_›] at h;exact h
     ·rw [if_neg ‹_›] at h;exact ih _ _ h
  rw [loopsF] at h ⊢
  split
  ·rw [if_pos ‹_›] at h;exact h
  ·rw [if_neg ‹_›] at h
   split
   ·rw [if_pos ‹_›] at h;exact h
   ·rw [if_neg ‹_›] at h
    cases e:loopsL (loopsF kn k) (upd v a 1) (frees (kn a)) with
    | none=>rw [e] at h;cases h
    | some q=>rw [hl _ _ _ e];rw [e] at h;exact h
theorem loopsF_le (kn:Int→List Cell) {k j:Nat} (h:k≤j) {v:Int→Int} {a:Int} {r:Bool × (Int→Int)} (e:loopsF kn k v a=some r):loopsF kn j v a=some r:=by
 induction h with
 | refl=>exact e
 | step _ ih=>exact loopsF_mono kn _ v a r ih

theorem loopsL_ends {U:List Int} {kn:Int→List Cell} {k n:Nat} (hf:∀ v a,a ∈ U→fresh U v≤n→∃ r,loopsF kn k v a=some r∧More v r.2) :
  ∀ (ns:List Int) (v:Int→Int),(∀ m ∈ ns,m ∈ U)→fresh U v≤n→∃ r,loopsL (loopsF kn k) v ns=some r∧More v r.2
 | [],v,_,_=>⟨(false,v),rfl,More.refl v⟩
 | m :: ns,v,hU,hn=>by
  obtain ⟨r,e,hm⟩:=hf v m (hU m (by simp)) hn
  by_cases hr:r.1=true
  ·exact ⟨r,by rw [loopsL,e,Option.bind_some,if_pos hr],hm⟩
  ·obtain ⟨q,e2,hm2⟩:=loopsL_ends hf ns r.2 (fun x hx=>hU x (by simp [hx])) (Nat.le_trans hm.fresh hn)
   exact ⟨q,by rw [loopsL,e,Option.bind_some,if_neg hr];exact e2,hm.trans hm2⟩

theorem loopsF_ends {U:List Int} {kn:Int→List Cell} (hU:∀ x ∈ U,∀ y ∈ frees (kn x),y ∈ U):∀ (n:Nat) (v:Int→Int) (a:Int),a ∈ U→fresh U v≤n→∃ r,loopsF kn (n+1) v a=some r∧More v r.2:=by
 intro n
 induction n with
 | zero=>
  intro v a ha hn
  rw [loopsF]
  by_cases h1:v a=1
  ·exact ⟨_,if_pos h1,More.refl v⟩
  ·rw [if_neg h1]
   by_cases h2:v a=2
   ·exact ⟨_,if_pos h2,More.refl v⟩
   ·have:=fresh_upd ha h1 h2;omega
 | succ n ih=>
  intro v a ha hn
  rw [loopsF]
  by_cases h1:v a=1
  ·exact ⟨_,if_pos h1,More.refl v⟩
  ·rw [if_neg h1]
   by_cases h2:v a=2
   ·exact ⟨_,if_pos h2,More.refl v⟩
   ·rw [if_neg h2]
    have hm0:More v (upd v a 1):=fun x hx=>by
     by_cases e:x=a
     ·subst e;exact .inl (upd_same _ _ _)
     ·rw [upd_ne v _ e];exact hx
    obtain ⟨r,e,hm⟩:=loopsL_ends (fun v a ha hn=>ih v a ha hn) (frees (kn a)) (upd v a 1) (hU a ha) (by have:=fresh_upd ha h1 h2;omega)
    rw [e,Option.bind_some]
    by_cases hr:r.1=true
    ·exact ⟨r,if_pos hr,hm0.trans hm⟩
    ·refine ⟨_,if_neg hr,fun x hx=>?_⟩
     by_cases e:x=a
     ·subst e;exact .inr (upd_same _ _ _)
     ·show upd r.2 a 2 x=1∨upd r.2 a 2 x=2
      rw [upd_ne r.2 _ e];exact hm x (hm0 x hx)

/-! ### of bindings -/
def known (s:List Bind) (v:Int):List Cell:=(get s v).getD []
theorem known_mem {s:List Bind} (hn:(s.map (·.f0)).Nodup) {b:Bind} (hb:b ∈ s):known s b.f0=b.f1:=by unfold known;rw [get_of_mem hn hb];rfl
theorem known_some {s:List Bind} {x y:Int} (h:y ∈ frees (known s x)):∃ b ∈ s,b.f0=x∧known s x=b.f1:=by
 cases e:get s x with
 | none=>unfold known at h;rw [e] at h;cases h
 | some t=>
  obtain ⟨b,hb,h1,h2⟩:=get_mem e
  exact ⟨b,hb,h1,by unfold known;rw [e,h2];rfl⟩

/-- what is asked of bindings one by one -/
def plainOk (s:List Bind):Prop:=(s.map (·.f0)).Nodup∧∀ b ∈ s,(0≤b.f0∧b.f0≤99999)∧isTerm b.f1=true
theorem oks_iff {s:List Bind}:Oks s↔plainOk s∧∃ rk:Int→Nat,∀ b ∈ s,∀ c ∈ b.f1,c.f0=1→rk c.f1<rk b.f0:=by
 constructor
 ·intro h
  exact ⟨⟨h.good.nodup,fun b hb=>⟨h.good.range b hb,h.isTerm hb⟩⟩,h.good.acyc⟩
 ·rintro ⟨⟨h1,h2⟩,h3⟩
  refine ⟨⟨h1,fun b hb=>(h2 b hb).1,fun b hb=>?_,h3⟩,fun b hb=>(isTerm_iff'.1 (h2 b hb).2).2.1⟩
  have:=isTerm_iff'.1 (h2 b hb).2
  exact ⟨this.2.2.2,this.2.2.1⟩

theorem path_rank {s:List Bind} {rk:Int→Nat} (hr:∀ b ∈ s,∀ c ∈ b.f1,c.f0=1→rk c.f1<rk b.f0) {x y:Int} (h:Path (known s) x y):rk y<rk x:=by
 have one:∀ {x y:Int},y ∈ frees (known s x)→rk y<rk x:=fun {x y} h=>by
  obtain ⟨b,hb,rfl,e⟩:=known_some h
  rw [e] at h
  obtain ⟨c,hc,hv,rfl⟩:=mem_frees.1 h
  exact hr b hb c hc hv
 induction h with
 | one h=>exact one h
 | step h _ ih=>exact Nat.lt_trans ih (one h)

/-- the whole: of bindings that are ok one by one the way through all says whether one leads to itself -/
theorem loops_oks {s:List Bind} (hp:plainOk s):∃ k b v',loopsL (loopsF (known s) k) (fun _=>0) (s.map (·.f0))=some (b,v')∧(b=true↔¬ Oks s):=by
 have hU:∃ U:List Int,(∀ b ∈ s,b.f0 ∈ U)∧∀ x ∈ U,∀ y ∈ frees (known s x),y ∈ U:=by
  refine ⟨s.map (·.f0)++s.flatMap (fun b=>b.f1.map (·.f1)),fun b hb=>List.mem_append_left _ (List.mem_map_of_mem hb),fun x _ y hy=>?_⟩
  obtain ⟨b,hb,_,e⟩:=known_some hy
  rw [e] at hy
  obtain ⟨c,hc,_,rfl⟩:=mem_frees.1 hy
  exact List.mem_append_right _ (List.mem_flatMap.2 ⟨b,hb,List.mem_map_of_mem hc⟩)
 obtain ⟨U,hU1,hU2⟩:=hU
 obtain ⟨⟨b,v'⟩,e,_⟩:=loopsL_ends (U:=U) (kn:=known s) (k:=fresh U (fun _=>0)+1) (n:=fresh U (fun _=>0)) (fun v a ha hn=>loopsF_ends hU2 _ v a ha hn) (s.map (·.f0)) (fun _=>0)
  (fun m hm=>by obtain ⟨x,hx,rfl⟩:=List.mem_map.1 hm;exact hU1 x hx) (Nat.le_refl _)
 refine ⟨_,b,v',e,?_⟩
 obtain ⟨h1,h2⟩:=loopsL_spec (loopsF_spec (known s) _) _ _ b v' e ⟨fun _=>0,fun x hx=>by cases hx⟩ (fun n _ x hx=>by cases hx)
 constructor
 ·intro hb ho
  obtain ⟨x,hx⟩:=h1 hb
  obtain ⟨_,rk,hr⟩:=oks_iff.1 ho
  exact Nat.lt_irrefl _ (path_rank hr hx)
 ·intro hno
  cases b with
  | true=>rfl
  | false=>
   exfalso
   obtain ⟨⟨⟨rk,hr⟩,_,_⟩,ha⟩:=h2 rfl
   refine hno (oks_iff.2 ⟨hp,rk,fun b hb c hc hv=>?_⟩)
   refine (hr b.f0 (ha b.f0 (List.mem_map_of_mem hb)) c.f1 ?_).2
   rw [known_mem hp.1 hb]
   exact mem_frees.2 ⟨c,hc,hv,rfl⟩

theorem path_reach {s:List Bind} (hn:(s.map (·.f0)).Nodup) {x y:Int} (h:Path (known s) x y):∃ b ∈ s,b.f0=x∧Reach s b.f1 y:=by
 induction h with
 | @one x y h=>
  obtain ⟨b,hb,e1,e2⟩:=known_some h
  rw [e2] at h
  obtain ⟨c,hc,hv,rfl⟩:=mem_frees.1 h
  exact ⟨b,hb,e1,.here hc hv⟩
 | @step x y z h _ ih=>
  obtain ⟨b,hb,e1,e2⟩:=known_some h
  obtain ⟨b',hb',e1',h'⟩:=ih
  rw [e2] at h
  obtain ⟨c,hc,hv,rfl⟩:=mem_frees.1 h
  exact ⟨b,hb,e1,.step hc hv (by rw [← e1'];exact get_of_mem hn hb') h'⟩
theorem cycle_reach {s:List Bind} (hp:plainOk s) (ho:¬ Oks s):∃ b ∈ s,Reach s b.f1 b.f0:=by
 obtain ⟨k,b,v',e,hb⟩:=loops_oks hp
 obtain ⟨h1,_⟩:=loopsL_spec (loopsF_spec (known s) _) _ _ b v' e ⟨fun _=>0,fun x hx=>by cases hx⟩ (fun n _ x hx=>by cases hx)
 obtain ⟨x,hx⟩:=h1 (hb.2 ho)
 obtain ⟨b,hb,e1,h⟩:=path_reach hp.1 hx
 exact ⟨b,hb,by rw [e1];exact h⟩
theorem reach_rank {s:List Bind} {rk:Int→Nat} (hr:∀ b ∈ s,∀ c ∈ b.f1,c.f0=1→rk c.f1<rk b.f0) {l:List Cell} {v:Int} (h:Reach s l v):∀ N,(∀ c ∈ l,c.f0=1→rk c.f1<N)→rk v<N:=by
 induction h with
 | here h1 h2=>intro N hN;exact hN _ h1 h2
 | step h1 h2 h3 _ ih=>
  intro N hN
  obtain ⟨b,hb,e1,rfl⟩:=get_mem h3
  have:=ih (rk b.f0) (fun c hc hv=>hr b hb c hc hv)
  have h4:=hN _ h1 h2
  rw [← e1] at h4
  omega
theorem oks_reach {s:List Bind}:Oks s↔plainOk s∧∀ b ∈ s,¬ Reach s b.f1 b.f0:=by
 constructor
 ·intro h
  obtain ⟨hp,rk,hr⟩:=oks_iff.1 h
  exact ⟨hp,fun b hb h'=>Nat.lt_irrefl _ (reach_rank hr h' (rk b.f0) (fun c hc hv=>hr b hb c hc hv))⟩
 ·rintro ⟨hp,h⟩
  refine Decidable.byContradiction (dec:=Classical.propDecidable _) fun ho=>?_
  obtain ⟨b,hb,hr⟩:=cycle_reach hp ho
  exact h b hb hr

/-! ### all that can be come to -/
theorem Reach.snoc {s:List Bind} {l:List Cell} {x y:Int} (h:Reach s l x) (hy:y ∈ frees (known s x)):Reach s l y:=by
 induction h with
 | @here l c h1 h2=>
  cases e:get s c.f1 with
  | none=>unfold known at hy;rw [e] at hy;cases hy
  | some t=>
   unfold known at hy
   rw [e] at hy
   obtain ⟨d,hd,hv,rfl⟩:=mem_frees.1 hy
   exact .step h1 h2 e (.here hd hv)
 | step h1 h2 h3 _ ih=>exact .step h1 h2 h3 (ih hy)
theorem reach_closed {s:List Bind} {out:List Int} (hc:∀ x ∈ out,∀ y ∈ frees (known s x),y ∈ out) {l:List Cell} {v:Int} (h:Reach s l v):(∀ y ∈ frees l,y ∈ out)→v ∈ out:=by
 induction h with
 | here h1 h2=>intro hl;exact hl _ (mem_frees.2 ⟨_,h1,h2,rfl⟩)
 | @step l t c v h1 h2 h3 _ ih=>
  intro hl
  have hx:=hl _ (mem_frees.2 ⟨_,h1,h2,rfl⟩)
  refine ih (fun y hy=>hc _ hx y ?_)
  unfold known
  rw [h3];exact hy

/-! ### whether a term leads to a variable -/
/-- all that was seen since leads only to what was seen, and not to v -/
def ClosedTo (g:Int→Option (List Cell)) (v:Int) (sn sn':Int→Bool):Prop:=(∀ x,sn x=true→sn' x=true)∧∀ x,sn' x=true→sn x=false→∀ t,g x=some t→∀ y ∈ frees t,y≠v∧sn' y=true
theorem ClosedTo.trans {g:Int→Option (List Cell)} {v:Int} {a b c:Int→Bool} (h:ClosedTo g v a b) (k:ClosedTo g v b c):ClosedTo g v a c:=
 ⟨fun x hx=>k.1 x (h.1 x hx),fun x hx ha t ht y hy=>by
  by_cases hb:b x=true
  ·obtain ⟨q1,q2⟩:=h.2 x hb ha t ht y hy
   exact ⟨q1,k.1 y q2⟩
  ·exact k.2 x hx (by simpa using hb) t ht y hy⟩

end Go.Proofs.YtlaicnoikeieeaaDoor.Cat
