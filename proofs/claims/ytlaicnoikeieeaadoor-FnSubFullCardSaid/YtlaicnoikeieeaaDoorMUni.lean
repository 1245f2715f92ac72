/- Unification of flat terms by bindings: what is bound makes both the same, and no more than must be. Plain Lean, no program. -/
import Derived.Test.YtlaicnoikeieeaaDoorMOk
namespace Go.Proofs.YtlaicnoikeieeaaDoor.Cat
set_option linter.unusedVariables false
set_option linter.unusedSimpArgs false

def get (s:List Bind) (v:Int):Option (List Cell):=(s.find? (fun b=>b.f0 == v)).map (·.f1)

theorem get_mem {s:List Bind} {v:Int} {t:List Cell} (h:get s v=some t):∃ b ∈ s,b.f0=v∧b.f1=t:=by
 unfold get at h
 obtain ⟨b,hb,rfl⟩:=Option.map_eq_some_iff.1 h
 exact ⟨b,List.mem_of_find?_eq_some hb,by simpa using List.find?_some hb,rfl⟩
theorem get_none {s:List Bind} {v:Int} (h:get s v=none):∀ b ∈ s,b.f0≠v:=by
 unfold get at h
 intro b hb e
 have:=(Option.map_eq_none_iff.1 h)
 rw [List.find?_eq_none] at this
 exact this b hb (by simpa using e)
theorem get_append (s e:List Bind) (v:Int):get (s++e) v=(get s v).or (get e v):=by
 unfold get
 rw [List.find?_append]
 cases List.find? (fun b=>b.f0 == v) s <;> rfl
theorem get_snoc (s:List Bind) (x:Int) (t:List Cell) (v:Int):get (s++[⟨x,t⟩]) v=(get s v).or (if x=v then some t else none):=by
 rw [get_append]
 congr 1
 unfold get
 by_cases h:x=v
 ·simp [h]
 ·simp [h]
theorem get_of_mem {s:List Bind} (hn:(s.map (·.f0)).Nodup) {b:Bind} (hb:b ∈ s):get s b.f0=some b.f1:=by
 induction s with
 | nil=>cases hb
 | cons x s ih=>
  unfold get
  rw [List.find?_cons]
  rw [List.map_cons,List.nodup_cons] at hn
  rcases List.mem_cons.1 hb with rfl|hb
  ·simp
  ·have hne:x.f0≠b.f0:=fun e=>hn.1 (by rw [e];exact List.mem_map_of_mem hb)
   have:(x.f0 == b.f0)=false:=by simpa using hne
   rw [this]
   exact ih hn.2 hb

/-- bindings that are ok -/
structure Good (s:List Bind):Prop where
 nodup:(s.map (·.f0)).Nodup
 range:∀ b ∈ s,0≤b.f0∧b.f0≤99999
 term:∀ b ∈ s,Forest 1 b.f1∧okl b.f1
 acyc:∃ rk:Int→Nat,∀ b ∈ s,∀ c ∈ b.f1,c.f0=1→rk c.f1<rk b.f0

theorem Good.nil:Good []:=⟨by simp,by simp,by simp,⟨fun _=>0,by simp⟩⟩
theorem Good.get {s:List Bind} (h:Good s) {v:Int} {t:List Cell} (hg:Cat.get s v=some t):Forest 1 t∧okl t:=by
 obtain ⟨b,hb,rfl,rfl⟩:=get_mem hg
 exact h.term b hb
theorem Good.pre {s e:List Bind} (h:Good (s++e)):Good s:=by
 refine ⟨?_,fun b hb=>h.range b (by simp [hb]),fun b hb=>h.term b (by simp [hb]),?_⟩
 ·have:=h.nodup
  rw [List.map_append] at this
  exact (List.nodup_append.1 this).1
 ·obtain ⟨rk,hr⟩:=h.acyc
  exact ⟨rk,fun b hb=>hr b (by simp [hb])⟩

/-! ### what is full -/
inductive Full (s:List Bind):List Cell→List Cell→Prop
 | nil:Full s [] []
 | keep {c:Cell} {l u:List Cell}:(c.f0=1→get s c.f1=none)→Full s l u→Full s (c :: l) (c :: u)
 | sub {c:Cell} {l t u1 u2:List Cell}:c.f0=1→get s c.f1=some t→Full s t u1→Full s l u2→Full s (c :: l) (u1++u2)

theorem Full.det {s:List Bind} {l u:List Cell} (h:Full s l u):∀ {v},Full s l v→u=v:=by
 induction h with
 | nil=>intro v h;cases h;rfl
 | keep hc _ ih=>
  intro v h
  cases h with
  | keep _ h2=>rw [ih h2]
  | sub h1 h2 _ _=>rw [hc h1] at h2;cases h2
 | sub h1 h2 _ _ ih1 ih2=>
  intro v h
  cases h with
  | keep hc _=>rw [hc h1] at h2;cases h2
  | sub _ h2' h3 h4=>
   rw [h2] at h2'
   obtain rfl:=Option.some.inj h2'
   rw [ih1 h3,ih2 h4]

theorem Full.append {s:List Bind} {a u:List Cell} (h:Full s a u) {b v:List Cell} (h':Full s b v):Full s (a++b) (u++v):=by
 induction h with
 | nil=>exact h'
 | keep hc _ ih=>exact .keep hc ih
 | sub h1 h2 h3 _ _ ih2=>rw [List.cons_append,List.append_assoc];exact .sub h1 h2 h3 ih2

theorem Full.total_aux {s:List Bind} (rk:Int→Nat) (hr:∀ b ∈ s,∀ c ∈ b.f1,c.f0=1→rk c.f1<rk b.f0) :
  ∀ (N:Nat) (l:List Cell),(∀ c ∈ l,c.f0=1→rk c.f1<N)→∃ u,Full s l u:=by
 intro N
 induction N using Nat.strongRecOn with
 | ind N ihN=>
  intro l
  induction l with
  | nil=>intro _;exact ⟨[],.nil⟩
  | cons c l ih=>
   intro hl
   obtain ⟨u2,h2⟩:=ih (fun d hd=>hl d (by simp [hd]))
   by_cases hc:c.f0=1
   ·cases hg:Cat.get s c.f1 with
    | none=>exact ⟨c :: u2,.keep (fun _=>hg) h2⟩
    | some t=>
     obtain ⟨b,hb,hbv,rfl⟩:=get_mem hg
     obtain ⟨u1,h1⟩:=ihN (rk c.f1) (hl c (by simp) hc) b.f1 (fun d hd hdv=>by have:=hr b hb d hd hdv;rw [hbv] at this;exact this)
     exact ⟨u1++u2,.sub hc hg h1 h2⟩
   ·exact ⟨c :: u2,.keep (fun h=>absurd h hc) h2⟩

theorem Full.total {s:List Bind} (h:Good s) (l:List Cell):∃ u,Full s l u:=by
 obtain ⟨rk,hr⟩:=h.acyc
 have:∃ N,∀ c ∈ l,c.f0=1→rk c.f1<N:=by
  induction l with
  | nil=>exact ⟨0,by simp⟩
  | cons c l ih=>
   obtain ⟨N,hN⟩:=ih
   refine ⟨max N (rk c.f1+1),fun d hd hdv=>?_⟩
   rcases List.mem_cons.1 hd with rfl|hd
   ·omega
   ·have:=hN d hd hdv;omega
 obtain ⟨N,hN⟩:=this
 exact Full.total_aux rk hr N l hN

theorem Full.forest {s:List Bind} (hs:Good s) {l u:List Cell} (h:Full s l u):∀ {n},Forest n l→Forest n u:=by
 induction h with
 | nil=>intro n h;exact h
 | @keep c l u hc _ ih=>
  intro n h
  cases n with
  | zero=>exact absurd h.zero (by simp)
  | succ n=>exact Forest.cons_iff.2 (ih (Forest.cons_iff.1 h))
 | @sub c l t u1 u2 h1 h2 _ _ ih1 ih2=>
  intro n h
  cases n with
  | zero=>exact absurd h.zero (by simp)
  | succ n=>
   have h':=ih2 (Forest.cons_iff.1 h)
   rw [ar_var h1] at h'
   rw [Nat.add_comm]
   exact (ih1 (hs.get h2).1).app h'

theorem Full.okl {s:List Bind} (hs:Good s) {l u:List Cell} (h:Full s l u):Cat.okl l→Cat.okl u:=by
 induction h with
 | nil=>exact id
 | keep hc _ ih=>intro h;rw [okl_cons] at h ⊢;exact ⟨h.1,ih h.2⟩
 | sub h1 h2 _ _ ih1 ih2=>intro h;rw [okl_cons] at h;rw [okl_append];exact ⟨ih1 (hs.get h2).2,ih2 h.2⟩

theorem Full.free {s:List Bind} {l u:List Cell} (h:Full s l u):∀ c ∈ u,c.f0=1→Cat.get s c.f1=none:=by
 induction h with
 | nil=>intro c hc;cases hc
 | keep hc _ ih=>
  intro d hd hv
  rcases List.mem_cons.1 hd with rfl|hd
  ·exact hc hv
  ·exact ih d hd hv
 | sub h1 h2 _ _ ih1 ih2=>
  intro d hd hv
  rcases List.mem_append.1 hd with hd|hd
  ·exact ih1 d hd hv
  ·exact ih2 d hd hv

theorem Full.same {s:List Bind} {l:List Cell} (h:∀ c ∈ l,c.f0=1→Cat.get s c.f1=none):Full s l l:=by
 induction l with
 | nil=>exact .nil
 | cons c l ih=>exact .keep (h c (by simp)) (ih (fun d hd=>h d (by simp [hd])))

/-- θ makes all that is bound what it is bound to -/
def Solves (θ:Int→List Cell) (s:List Bind):Prop:=∀ b ∈ s,θ b.f0=app θ b.f1

theorem Solves.get {θ:Int→List Cell} {s:List Bind} (h:Solves θ s) {v:Int} {t:List Cell} (hg:Cat.get s v=some t):θ v=app θ t:=by
 obtain ⟨b,hb,rfl,rfl⟩:=get_mem hg
 exact h b hb

open Classical in
/-- what each variable is in the end -/
noncomputable def sig (s:List Bind) (v:Int):List Cell:=if h:∃ u,Full s [varc v] u then h.choose else [varc v]

theorem sig_full {s:List Bind} (h:Good s) (v:Int):Full s [varc v] (sig s v):=by
 have:=Full.total h [varc v]
 unfold sig
 rw [dif_pos this]
 exact this.choose_spec

noncomputable def full (s:List Bind) (l:List Cell):List Cell:=app (sig s) l

theorem Full.eq {s:List Bind} (hs:Good s) {l u:List Cell} (h:Full s l u) (hl:Cat.okl l):full s l=u:=by
 unfold full
 induction h with
 | nil=>rfl
 | @keep c l u hc hf ih=>
  rw [okl_cons] at hl
  rw [app_cons,ih hl.2]
  by_cases hv:c.f0=1
  ·rw [if_pos hv]
   have e:Full s [varc c.f1] [varc c.f1]:=Full.same (by intro d hd _;rw [List.mem_singleton.1 hd];exact hc hv)
   rw [(sig_full hs c.f1).det e,← varc_of_ok hl.1 hv]
   rfl
  ·rw [if_neg hv];rfl
 | @sub c l t u1 u2 h1 h2 h3 h4 ih1 ih2=>
  rw [okl_cons] at hl
  rw [app_cons,if_pos h1,ih2 hl.2]
  have e:Full s [varc c.f1] (u1++[]):=.sub rfl h2 h3 .nil
  rw [(sig_full hs c.f1).det e,List.append_nil]

theorem full_full {s:List Bind} (hs:Good s) {l:List Cell} (hl:okl l):Full s l (full s l):=by
 obtain ⟨u,hu⟩:=Full.total hs l
 rw [hu.eq hs hl]
 exact hu

theorem sig_solves {s:List Bind} (hs:Good s):Solves (sig s) s:=by
 intro b hb
 have hg:=get_of_mem hs.nodup hb
 obtain ⟨u,hu⟩:=Full.total hs b.f1
 have e:Full s [varc b.f0] (u++[]):=.sub rfl hg hu .nil
 rw [(sig_full hs b.f0).det e,List.append_nil]
 exact (hu.eq hs (hs.term b hb).2).symm

theorem sig_wf {s:List Bind} (hs:Good s):Wf (sig s):=fun v=>
 (sig_full hs v).forest hs (Forest.cons_iff.2 (by rw [ar_var (show (varc v).f0=1 from rfl)];exact Forest.nil))

theorem full_append (s:List Bind) (a b:List Cell):full s (a++b)=full s a++full s b:=app_append _ _ _
theorem full_nil' (s:List Bind):full s []=[]:=rfl
theorem full_fun {s:List Bind} {c:Cell} (h:c.f0≠1) (l:List Cell):full s (c :: l)=c :: full s l:=by
 unfold full;rw [app_cons,if_neg h];rfl
theorem full_forest {s:List Bind} (hs:Good s) {n:Nat} {l:List Cell} (h:Forest n l):Forest n (full s l):=Forest.app_subst (sig_wf hs) h
theorem full_okl {s:List Bind} (hs:Good s) {l:List Cell} (h:okl l):okl (full s l):=(full_full hs h).okl hs h
/-! ### what a variable is come to from -/
inductive Reach (s:List Bind):List Cell→Int→Prop
 | here {l:List Cell} {c:Cell}:c ∈ l→c.f0=1→Reach s l c.f1
 | step {l t:List Cell} {c:Cell} {v:Int}:c ∈ l→c.f0=1→get s c.f1=some t→Reach s t v→Reach s l v

theorem Reach.mono {s:List Bind} {l l':List Cell} {v:Int} (h:Reach s l v) (hl:∀ c ∈ l,c ∈ l'):Reach s l' v:=by
 cases h with
 | here h1 h2=>exact .here (hl _ h1) h2
 | step h1 h2 h3 h4=>exact .step (hl _ h1) h2 h3 h4

theorem mem_len {θ:Int→List Cell} {l:List Cell} {c:Cell} (h:c ∈ l) (hv:c.f0=1):(θ c.f1).length≤(app θ l).length:=by
 induction l with
 | nil=>cases h
 | cons d l ih=>
  rw [app_cons,List.length_append]
  rcases List.mem_cons.1 h with rfl|h
  ·rw [if_pos hv];omega
  ·have:=ih h;omega

theorem Reach.len {s:List Bind} {l:List Cell} {v:Int} (h:Reach s l v) {θ:Int→List Cell} (hθ:Solves θ s):(θ v).length≤(app θ l).length:=by
 induction h with
 | here h1 h2=>exact mem_len h1 h2
 | step h1 h2 h3 _ ih=>
  have:=mem_len (θ:=θ) h1 h2
  rw [hθ.get h3] at this
  omega

/-- what leads to a variable can't be it -/
theorem Reach.occurs {s:List Bind} {c:Cell} {l:List Cell} {v:Int} (h:Reach s (c :: l) v) (hc:c.f0≠1) {θ:Int→List Cell} (hθ:Solves θ s):θ v≠app θ (c :: l):=by
 intro e
 have hl:Reach s l v:=by
  cases h with
  | here h1 h2=>
   rcases List.mem_cons.1 h1 with rfl|h1
   ·exact absurd h2 hc
   ·exact .here h1 h2
  | step h1 h2 h3 h4=>
   rcases List.mem_cons.1 h1 with rfl|h1
   ·exact absurd h2 hc
   ·exact .step h1 h2 h3 h4
 have:=hl.len hθ
 rw [e,app_cons,if_neg hc,List.length_append] at this
 simp at this
 omega

theorem Good.bind {s:List Bind} (hs:Good s) {v:Int} {t:List Cell} (hv:0≤v∧v≤99999) (hg:Cat.get s v=none) (ht:Forest 1 t) (hok:okl t) (hr:¬ Reach s t v) :
  Good (s++[⟨v,t⟩]):=by
 classical
 obtain ⟨rk,hrk⟩:=hs.acyc
 have hM:∃ M,∀ c ∈ t,rk c.f1<M:=by
  clear hr hok ht
  induction t with
  | nil=>exact ⟨0,by simp⟩
  | cons c l ih=>
   obtain ⟨N,hN⟩:=ih
   refine ⟨max N (rk c.f1+1),fun d hd=>?_⟩
   rcases List.mem_cons.1 hd with rfl|hd
   ·omega
   ·have:=hN d hd;omega
 obtain ⟨M,hM⟩:=hM
 refine ⟨?_,?_,?_,?_⟩
 ·rw [List.map_append,List.nodup_append]
  refine ⟨hs.nodup,by simp,?_⟩
  intro a ha b hb
  obtain ⟨x,hx,rfl⟩:=List.mem_map.1 ha
  simp only [List.map_cons,List.map_nil,List.mem_singleton] at hb
  subst hb
  exact get_none hg x hx
 ·intro b hb
  rcases List.mem_append.1 hb with hb|hb
  ·exact hs.range b hb
  ·rw [List.mem_singleton.1 hb];exact hv
 ·intro b hb
  rcases List.mem_append.1 hb with hb|hb
  ·exact hs.term b hb
  ·rw [List.mem_singleton.1 hb];exact ⟨ht,hok⟩
 ·refine ⟨fun x=>if Reach s [varc x] v then rk x+M else rk x,fun b hb c hc hcv=>?_⟩
  rcases List.mem_append.1 hb with hb|hb
  ·have h1:=hrk b hb c hc hcv
   by_cases hcr:Reach s [varc c.f1] v
   ·have hbr:Reach s [varc b.f0] v:=by
     refine .step (List.mem_singleton.2 rfl) rfl (get_of_mem hs.nodup hb) ?_
     cases hcr with
     | here h1 h2=>rw [List.mem_singleton.1 h1];exact (show Reach s b.f1 c.f1 from .here hc hcv)
     | step h1 h2 h3 h4=>rw [List.mem_singleton.1 h1] at h3;exact .step hc hcv h3 h4
    simp only [if_pos hcr,if_pos hbr]
    omega
   ·simp only [if_neg hcr]
    split <;> omega
  ·have hb':=List.mem_singleton.1 hb
   subst hb'
   have hcr:¬ Reach s [varc c.f1] v:=fun h=>hr (by
    cases h with
    | here h1 h2=>rw [List.mem_singleton.1 h1];exact (show Reach s t c.f1 from .here hc hcv)
    | step h1 h2 h3 h4=>rw [List.mem_singleton.1 h1] at h3;exact .step hc hcv h3 h4)
   have hvr:Reach s [varc v] v:=.here (c:=varc v) (List.mem_singleton.2 rfl) rfl
   simp only [if_neg hcr,if_pos hvr]
   have:=hM c hc
   omega

/-! ### what a term is at its beginning -/
inductive Walk (s:List Bind):List Cell→List Cell→Prop
 | stop {c:Cell} {l:List Cell}:(c.f0=1→get s c.f1=none)→Walk s (c :: l) (c :: l)
 | go {c:Cell} {l t u:List Cell}:c.f0=1→get s c.f1=some t→Walk s t u→Walk s (c :: l) u

theorem Walk.det {s:List Bind} {l u:List Cell} (h:Walk s l u):∀ {v},Walk s l v→u=v:=by
 induction h with
 | stop hc=>
  intro v h
  cases h with
  | stop _=>rfl
  | go h1 h2 _=>rw [hc h1] at h2;cases h2
 | go h1 h2 _ ih=>
  intro v h
  cases h with
  | stop hc=>rw [hc h1] at h2;cases h2
  | go _ h2' h3=>
   rw [h2] at h2'
   obtain rfl:=Option.some.inj h2'
   exact ih h3

theorem Walk.total {s:List Bind} (hs:Good s) {l:List Cell} (h:Forest 1 l):∃ u,Walk s l u:=by
 obtain ⟨rk,hr⟩:=hs.acyc
 have key:∀ (N:Nat) (l:List Cell),Forest 1 l→(∀ c ∈ l,c.f0=1→rk c.f1<N)→∃ u,Walk s l u:=by
  intro N
  induction N using Nat.strongRecOn with
  | ind N ihN=>
   intro l hl hN
   obtain ⟨c,r,rfl,_⟩:=hl.one
   by_cases hc:c.f0=1
   ·cases hg:Cat.get s c.f1 with
    | none=>exact ⟨_,.stop (fun _=>hg)⟩
    | some t=>
     obtain ⟨b,hb,hbv,rfl⟩:=get_mem hg
     obtain ⟨u,hu⟩:=ihN (rk c.f1) (hN c (by simp) hc) b.f1 (hs.term b hb).1 (fun d hd hdv=>by have:=hr b hb d hd hdv;rw [hbv] at this;exact this)
     exact ⟨u,.go hc hg hu⟩
   ·exact ⟨_,.stop (fun h=>absurd h hc)⟩
 have:∃ N,∀ c ∈ l,c.f0=1→rk c.f1<N:=by
  clear h
  induction l with
  | nil=>exact ⟨0,by simp⟩
  | cons c l ih=>
   obtain ⟨N,hN⟩:=ih
   refine ⟨max N (rk c.f1+1),fun d hd hdv=>?_⟩
   rcases List.mem_cons.1 hd with rfl|hd
   ·omega
   ·have:=hN d hd hdv;omega
 obtain ⟨N,hN⟩:=this
 exact key N l h hN

theorem Walk.spec {s:List Bind} (hs:Good s) {l u:List Cell} (h:Walk s l u) (hl:Forest 1 l) (hok:okl l) :
  Forest 1 u∧okl u∧full s l=full s u∧(∀ θ,Solves θ s→app θ l=app θ u)∧(∀ c r,u=c :: r→c.f0=1→Cat.get s c.f1=none):=by
 induction h with
 | stop hc=>exact ⟨hl,hok,rfl,fun _ _=>rfl,fun d r e hv=>by cases e;exact hc hv⟩
 | @go c l t u h1 h2 h3 ih=>
  obtain ⟨d,r,e,hr⟩:=hl.one
  cases e
  rw [ar_var h1] at hr
  obtain rfl:=hr.zero
  obtain ⟨i1,i2,i3,i4,i5⟩:=ih (hs.get h2).1 (hs.get h2).2
  have hθ:∀ θ,Solves θ s→app θ [c]=app θ t:=fun θ hθ=>by rw [app_cons,if_pos h1,app_nil,List.append_nil,hθ.get h2]
  refine ⟨i1,i2,?_,fun θ h=>(hθ θ h).trans (i4 θ h),i5⟩
  rw [← i3]
  exact hθ _ (sig_solves hs)

/-! ### the same -/
abbrev Pairs:=List (List Cell × List Cell)

inductive Uni:List Bind→Pairs→Option (List Bind)→Prop
 | done {s:List Bind}:Uni s [] (some s)
 | same {s:List Bind} {a b:List Cell} {c:Cell} {x y:List Cell} {ps:Pairs} {r:Option (List Bind)}:Walk s a (c :: x)→Walk s b (c :: y)→c.f0=1→Uni s ps r→Uni s ((a,b) :: ps) r
 | bindL {s:List Bind} {a b:List Cell} {c d:Cell} {x y:List Cell} {ps:Pairs} {r:Option (List Bind)}:Walk s a (c :: x)→Walk s b (d :: y)→c.f0=1→c≠d→¬ Reach s (d :: y) c.f1→Uni (s++[⟨c.f1,d :: y⟩]) ps r→Uni s ((a,b) :: ps) r
 | occL {s:List Bind} {a b:List Cell} {c d:Cell} {x y:List Cell} {ps:Pairs}:Walk s a (c :: x)→Walk s b (d :: y)→c.f0=1→c≠d→Reach s (d :: y) c.f1→Uni s ((a,b) :: ps) none
 | bindR {s:List Bind} {a b:List Cell} {c d:Cell} {x y:List Cell} {ps:Pairs} {r:Option (List Bind)}:Walk s a (c :: x)→Walk s b (d :: y)→c.f0≠1→d.f0=1→¬ Reach s (c :: x) d.f1→Uni (s++[⟨d.f1,c :: x⟩]) ps r→Uni s ((a,b) :: ps) r
 | occR {s:List Bind} {a b:List Cell} {c d:Cell} {x y:List Cell} {ps:Pairs}:Walk s a (c :: x)→Walk s b (d :: y)→c.f0≠1→d.f0=1→Reach s (c :: x) d.f1→Uni s ((a,b) :: ps) none
 | clash {s:List Bind} {a b:List Cell} {c d:Cell} {x y:List Cell} {ps:Pairs}:Walk s a (c :: x)→Walk s b (d :: y)→c.f0≠1→d.f0≠1→c≠d→Uni s ((a,b) :: ps) none
 | args {s:List Bind} {a b:List Cell} {c:Cell} {x y:List Cell} {ps:Pairs} {r:Option (List Bind)}:Walk s a (c :: x)→Walk s b (c :: y)→c.f0≠1→Uni s ((cut (ar c) x).zip (cut (ar c) y)++ps) r→Uni s ((a,b) :: ps) r

def OkP (ps:Pairs):Prop:=∀ p ∈ ps,Forest 1 p.1∧okl p.1∧Forest 1 p.2∧okl p.2

theorem okP_nil:OkP []:=by intro p h;cases h
theorem okP_cons {p:List Cell × List Cell} {ps:Pairs}:OkP (p :: ps)↔(Forest 1 p.1∧okl p.1∧Forest 1 p.2∧okl p.2)∧OkP ps:=by simp [OkP]
theorem okP_append {ps qs:Pairs}:OkP (ps++qs)↔OkP ps∧OkP qs:=by
 simp only [OkP,List.mem_append]
 exact ⟨fun h=>⟨fun c hc=>h c (.inl hc),fun c hc=>h c (.inr hc)⟩,fun h c hc=>hc.elim (h.1 c) (h.2 c)⟩

theorem okl_flatten {ls:List (List Cell)}:okl ls.flatten↔∀ l ∈ ls,okl l:=by
 simp only [okl,List.mem_flatten]
 exact ⟨fun h l hl c hc=>h c ⟨l,hl,hc⟩,fun h c ⟨l,hl,hc⟩=>h l hl c hc⟩

theorem okP_zip {n:Nat} {x y:List Cell} (hx:Forest n x) (hy:Forest n y) (ox:okl x) (oy:okl y):OkP ((cut n x).zip (cut n y)):=by
 intro p hp
 have h1:=(List.of_mem_zip hp)
 obtain ⟨x1,_,x3⟩:=cut_spec hx
 obtain ⟨y1,_,y3⟩:=cut_spec hy
 rw [← x1,okl_flatten] at ox
 rw [← y1,okl_flatten] at oy
 exact ⟨x3 _ h1.1,ox _ h1.1,y3 _ h1.2,oy _ h1.2⟩

/-- of as many terms, one behind the other, all together are the same if each pair is -/
theorem zip_same {θ:Int→List Cell} (hθ:Wf θ):∀ {n:Nat} {x y:List Cell},Forest n x→Forest n y→
  (app θ x=app θ y↔∀ p ∈ (cut n x).zip (cut n y),app θ p.1=app θ p.2):=by
 intro n
 induction n with
 | zero=>intro x y hx hy;rw [hx.zero,hy.zero];simp [cut_zero]
 | succ n ih=>
  intro x y hx hy
  obtain ⟨a,x,rfl,ha,hx⟩:=hx.succ
  obtain ⟨b,y,rfl,hb,hy⟩:=hy.succ
  rw [cut_app ha,cut_app hb,app_append,app_append,List.zip_cons_cons]
  constructor
  ·intro h
   obtain ⟨h1,h2⟩:=(Forest.app_subst hθ ha).uniq (Forest.app_subst hθ hb) h
   intro p hp
   rcases List.mem_cons.1 hp with rfl|hp
   ·exact h1
   ·exact (ih hx hy).1 h2 p hp
  ·intro h
   rw [h (a,b) (by simp),(ih hx hy).2 (fun p hp=>h p (by simp [hp]))]

theorem app_head {θ:Int→List Cell} {c:Cell} (h:c.f0≠1) (x:List Cell):app θ (c :: x)=c :: app θ x:=by rw [app_cons,if_neg h];rfl

theorem app_one {θ:Int→List Cell} {c:Cell} (h:c.f0=1):app θ [c]=θ c.f1:=by rw [app_cons,if_pos h,app_nil,List.append_nil]

/-- a term that begins with a variable is it -/
theorem Forest.var {c:Cell} {x:List Cell} (h:Forest 1 (c :: x)) (hv:c.f0=1):x=[]:=by
 obtain ⟨d,r,e,hr⟩:=h.one
 cases e
 rw [ar_var hv] at hr
 exact hr.zero

theorem Forest.rest {c:Cell} {x:List Cell} (h:Forest 1 (c :: x)):Forest (ar c) x:=by
 obtain ⟨d,r,e,hr⟩:=h.one
 cases e
 exact hr

def Result (s:List Bind) (ps:Pairs):Option (List Bind)→Prop
 | none=>∀ θ,Wf θ→Solves θ s→¬ ∀ p ∈ ps,app θ p.1=app θ p.2
 | some s'=>Good s'∧(∃ e,s'=s++e)∧∀ θ,Wf θ→(Solves θ s'↔Solves θ s∧∀ p ∈ ps,app θ p.1=app θ p.2)

theorem Solves.snoc {θ:Int→List Cell} {s:List Bind} {v:Int} {t:List Cell}:Solves θ (s++[⟨v,t⟩])↔Solves θ s∧θ v=app θ t:=by
 unfold Solves
 constructor
 ·intro h;exact ⟨fun b hb=>h b (by simp [hb]),h ⟨v,t⟩ (by simp)⟩
 ·rintro ⟨h1,h2⟩ b hb
  rcases List.mem_append.1 hb with hb|hb
  ·exact h1 b hb
  ·rw [List.mem_singleton.1 hb];exact h2

theorem Uni.sound {s:List Bind} {ps:Pairs} {r:Option (List Bind)} (h:Uni s ps r):Good s→OkP ps→Result s ps r:=by
 induction h with
 | done=>intro hs _;exact ⟨hs,⟨[],by simp⟩,fun θ _=>⟨fun h=>⟨h,by simp⟩,fun h=>h.1⟩⟩
 | @same s a b c x y ps r ha hb hc _ ih=>
  intro hs ho
  rw [okP_cons] at ho
  obtain ⟨⟨a1,a2,b1,b2⟩,ho⟩:=ho
  obtain ⟨w1,w2,_,w4,w5⟩:=ha.spec hs a1 a2
  obtain ⟨z1,z2,_,z4,z5⟩:=hb.spec hs b1 b2
  obtain rfl:=w1.var hc
  obtain rfl:=z1.var hc
  have e:∀ θ,Solves θ s→app θ a=app θ b:=fun θ h=>(w4 θ h).trans (z4 θ h).symm
  have i:=ih hs ho
  cases r with
  | none=>intro θ hw h1 h2;exact i θ hw h1 (fun p hp=>h2 p (by simp [hp]))
  | some s'=>
   refine ⟨i.1,i.2.1,fun θ hw=>⟨fun h=>?_,fun h=>(i.2.2 θ hw).2 ⟨h.1,fun p hp=>h.2 p (by simp [hp])⟩⟩⟩
   obtain ⟨h1,h2⟩:=(i.2.2 θ hw).1 h
   refine ⟨h1,fun p hp=>?_⟩
   rcases List.mem_cons.1 hp with rfl|hp
   ·exact e θ h1
   ·exact h2 p hp
 | @bindL s a b c d x y ps r ha hb hc hcd hr _ ih=>
  intro hs ho
  rw [okP_cons] at ho
  obtain ⟨⟨a1,a2,b1,b2⟩,ho⟩:=ho
  obtain ⟨w1,w2,_,w4,w5⟩:=ha.spec hs a1 a2
  obtain ⟨z1,z2,_,z4,z5⟩:=hb.spec hs b1 b2
  obtain rfl:=w1.var hc
  have hck:=(okl_cons.1 w2).1
  have hv:0≤c.f1∧c.f1≤99999:=by
   unfold cellOk at hck
   rw [if_pos hc] at hck
   simp only [Bool.and_eq_true,decide_eq_true_eq] at hck
   exact hck.1
  have hg:=hs.bind hv (w5 c [] rfl hc) z1 z2 hr
  have i:=ih hg ho
  have e:∀ θ,Solves θ s→(app θ a=app θ b↔θ c.f1=app θ (d :: y)):=fun θ h=>by rw [w4 θ h,z4 θ h,app_one hc]
  cases r with
  | none=>
   intro θ hw h1 h2
   refine i θ hw (Solves.snoc.2 ⟨h1,(e θ h1).1 (h2 (a,b) (by simp))⟩) (fun p hp=>h2 p (by simp [hp]))
  | some s'=>
   obtain ⟨i1,⟨t,i2⟩,i3⟩:=i
   refine ⟨i1,⟨_,by rw [i2,List.append_assoc]⟩,fun θ hw=>⟨fun h=>?_,fun h=>?_⟩⟩
   ·obtain ⟨h1,h2⟩:=(i3 θ hw).1 h
    obtain ⟨h1,h3⟩:=Solves.snoc.1 h1
    refine ⟨h1,fun p hp=>?_⟩
    rcases List.mem_cons.1 hp with rfl|hp
    ·exact (e θ h1).2 h3
    ·exact h2 p hp
   ·exact (i3 θ hw).2 ⟨Solves.snoc.2 ⟨h.1,(e θ h.1).1 (h.2 (a,b) (by simp))⟩,fun p hp=>h.2 p (by simp [hp])⟩
 | @occL s a b c d x y ps ha hb hc hcd hr=>
  intro hs ho
  rw [okP_cons] at ho
  obtain ⟨⟨a1,a2,b1,b2⟩,ho⟩:=ho
  obtain ⟨w1,w2,_,w4,w5⟩:=ha.spec hs a1 a2
  obtain ⟨z1,z2,_,z4,z5⟩:=hb.spec hs b1 b2
  obtain rfl:=w1.var hc
  intro θ hw h1 h2
  have e:=h2 (a,b) (by simp)
  rw [w4 θ h1,z4 θ h1,app_one hc] at e
  have hd:d.f0≠1:=by
   intro hd
   obtain rfl:=z1.var hd
   have hg:=z5 d [] rfl hd
   have:c.f1=d.f1:=by
    generalize hv:c.f1=v at hr
    cases hr with
    | here h1 h2=>rw [List.mem_singleton.1 h1]
    | step h1 h2 h3 h4=>rw [List.mem_singleton.1 h1,hg] at h3;cases h3
   exact hcd (by rw [varc_of_ok (okl_cons.1 w2).1 hc,varc_of_ok (okl_cons.1 z2).1 hd,this])
  exact hr.occurs hd h1 e
 | @bindR s a b c d x y ps r ha hb hc hd hr _ ih=>
  intro hs ho
  rw [okP_cons] at ho
  obtain ⟨⟨a1,a2,b1,b2⟩,ho⟩:=ho
  obtain ⟨w1,w2,_,w4,w5⟩:=ha.spec hs a1 a2
  obtain ⟨z1,z2,_,z4,z5⟩:=hb.spec hs b1 b2
  obtain rfl:=z1.var hd
  have hck:=(okl_cons.1 z2).1
  have hv:0≤d.f1∧d.f1≤99999:=by
   unfold cellOk at hck
   rw [if_pos hd] at hck
   simp only [Bool.and_eq_true,decide_eq_true_eq] at hck
   exact hck.1
  have hg:=hs.bind hv (z5 d [] rfl hd) w1 w2 hr
  have i:=ih hg ho
  have e:∀ θ,Solves θ s→(app θ a=app θ b↔θ d.f1=app θ (c :: x)):=fun θ h=>by
   rw [w4 θ h,z4 θ h,app_one hd];exact eq_comm
  cases r with
  | none=>
   intro θ hw h1 h2
   refine i θ hw (Solves.snoc.2 ⟨h1,(e θ h1).1 (h2 (a,b) (by simp))⟩) (fun p hp=>h2 p (by simp [hp]))
  | some s'=>
   obtain ⟨i1,⟨t,i2⟩,i3⟩:=i
   refine ⟨i1,⟨_,by rw [i2,List.append_assoc]⟩,fun θ hw=>⟨fun h=>?_,fun h=>?_⟩⟩
   ·obtain ⟨h1,h2⟩:=(i3 θ hw).1 h
    obtain ⟨h1,h3⟩:=Solves.snoc.1 h1
    refine ⟨h1,fun p hp=>?_⟩
    rcases List.mem_cons.1 hp with rfl|hp
    ·exact (e θ h1).2 h3
    ·exact h2 p hp
   ·exact (i3 θ hw).2 ⟨Solves.snoc.2 ⟨h.1,(e θ h.1).1 (h.2 (a,b) (by simp))⟩,fun p hp=>h.2 p (by simp [hp])⟩
 | @occR s a b c d x y ps ha hb hc hd hr=>
  intro hs ho
  rw [okP_cons] at ho
  obtain ⟨⟨a1,a2,b1,b2⟩,ho⟩:=ho
  obtain ⟨w1,w2,_,w4,w5⟩:=ha.spec hs a1 a2
  obtain ⟨z1,z2,_,z4,z5⟩:=hb.spec hs b1 b2
  obtain rfl:=z1.var hd
  intro θ hw h1 h2
  have e:=h2 (a,b) (by simp)
  rw [w4 θ h1,z4 θ h1,app_one hd] at e
  exact hr.occurs hc h1 e.symm
 | @clash s a b c d x y ps ha hb hc hd hcd=>
  intro hs ho
  rw [okP_cons] at ho
  obtain ⟨⟨a1,a2,b1,b2⟩,ho⟩:=ho
  obtain ⟨w1,w2,_,w4,w5⟩:=ha.spec hs a1 a2
  obtain ⟨z1,z2,_,z4,z5⟩:=hb.spec hs b1 b2
  intro θ hw h1 h2
  have e:=h2 (a,b) (by simp)
  rw [w4 θ h1,z4 θ h1,app_head hc,app_head hd] at e
  exact hcd (List.cons.inj e).1
 | @args s a b c x y ps r ha hb hc _ ih=>
  intro hs ho
  rw [okP_cons] at ho
  obtain ⟨⟨a1,a2,b1,b2⟩,ho⟩:=ho
  obtain ⟨w1,w2,_,w4,w5⟩:=ha.spec hs a1 a2
  obtain ⟨z1,z2,_,z4,z5⟩:=hb.spec hs b1 b2
  have i:=ih hs (okP_append.2 ⟨okP_zip w1.rest z1.rest (okl_cons.1 w2).2 (okl_cons.1 z2).2,ho⟩)
  have e:∀ θ,Wf θ→Solves θ s→(app θ a=app θ b↔∀ p ∈ (cut (ar c) x).zip (cut (ar c) y),app θ p.1=app θ p.2):=fun θ hw h=>by
   rw [w4 θ h,z4 θ h,app_head hc,app_head hc,← zip_same hw w1.rest z1.rest]
   simp
  cases r with
  | none=>
   intro θ hw h1 h2
   refine i θ hw h1 (fun p hp=>?_)
   rcases List.mem_append.1 hp with hp|hp
   ·exact (e θ hw h1).1 (h2 (a,b) (by simp)) p hp
   ·exact h2 p (by simp [hp])
  | some s'=>
   refine ⟨i.1,i.2.1,fun θ hw=>⟨fun h=>?_,fun h=>(i.2.2 θ hw).2 ⟨h.1,fun p hp=>?_⟩⟩⟩
   ·obtain ⟨h1,h2⟩:=(i.2.2 θ hw).1 h
    refine ⟨h1,fun p hp=>?_⟩
    rcases List.mem_cons.1 hp with rfl|hp
    ·exact (e θ hw h1).2 (fun p hp=>h2 p (by simp [hp]))
    ·exact h2 p (by simp [hp])
   ·rcases List.mem_append.1 hp with hp|hp
    ·exact (e θ hw h.1).1 (h.2 (a,b) (by simp)) p hp
    ·exact h.2 p (by simp [hp])

/-! ### it comes to an end -/
noncomputable def lenP (s:List Bind) (ps:Pairs):Nat:=(ps.map fun p=>(full s p.1).length+(full s p.2).length).sum

theorem lenP_cons (s:List Bind) (p:List Cell × List Cell) (ps:Pairs):lenP s (p :: ps)=(full s p.1).length+(full s p.2).length+lenP s ps:=by
 simp [lenP]
theorem lenP_append (s:List Bind) (ps qs:Pairs):lenP s (ps++qs)=lenP s ps+lenP s qs:=by
 simp [lenP]
theorem lenP_zip (s:List Bind):∀ {n:Nat} {x y:List Cell},Forest n x→Forest n y→lenP s ((cut n x).zip (cut n y))=(full s x).length+(full s y).length:=by
 intro n
 induction n with
 | zero=>intro x y hx hy;rw [hx.zero,hy.zero];simp [cut_zero,lenP,full_nil']
 | succ n ih=>
  intro x y hx hy
  obtain ⟨a,x,rfl,ha,hx⟩:=hx.succ
  obtain ⟨b,y,rfl,hb,hy⟩:=hy.succ
  rw [cut_app ha,cut_app hb,List.zip_cons_cons,lenP_cons,ih hx hy,full_append,full_append,List.length_append,List.length_append]
  show (full s a).length+(full s b).length+_=_
  omega

/-- all variables of places are among some -/
def In (V:List Int) (l:List Cell):Prop:=∀ c ∈ l,c.f0=1→c.f1 ∈ V
def unb (V:List Int) (s:List Bind):Nat:=(V.filter fun v=>(get s v).isNone).length

theorem unb_snoc {V:List Int} {s:List Bind} {v:Int} {t:List Cell} (hv:v ∈ V) (hg:get s v=none):unb V (s++[⟨v,t⟩])<unb V s:=by
 unfold unb
 have hsub:∀ (W:List Int),(W.filter fun v'=>(get (s++[⟨v,t⟩]) v').isNone).length≤(W.filter fun v'=>(get s v').isNone).length:=by
  intro W
  induction W with
  | nil=>simp
  | cons w W ih=>
   rw [List.filter_cons,List.filter_cons,get_snoc]
   cases h:get s w with
   | some t'=>simpa using ih
   | none=>
    by_cases hw:v=w
    ·subst hw;simp;omega
    ·simpa [hw] using ih
 induction V with
 | nil=>cases hv
 | cons w W ih=>
  rw [List.filter_cons,List.filter_cons,get_snoc]
  by_cases hw:v=w
  ·subst hw
   rw [hg]
   have:=hsub W
   simp
   omega
  ·have hv':v ∈ W:=by simpa [hw] using hv
   have:=ih hv'
   cases h:get s w with
   | some t'=>simpa using this
   | none=>simpa [hw] using this

theorem In.append {V:List Int} {a b:List Cell}:In V (a++b)↔In V a∧In V b:=by
 simp only [In,List.mem_append]
 exact ⟨fun h=>⟨fun c hc=>h c (.inl hc),fun c hc=>h c (.inr hc)⟩,fun h c hc=>hc.elim (h.1 c) (h.2 c)⟩

theorem Walk.inn {V:List Int} {s:List Bind} (hV:∀ b ∈ s,In V b.f1) {l u:List Cell} (h:Walk s l u) (hl:In V l):In V u:=by
 induction h with
 | stop _=>exact hl
 | go h1 h2 _ ih=>
  obtain ⟨b,hb,_,rfl⟩:=get_mem h2
  exact ih (hV b hb)

theorem In.zip {V:List Int} {n:Nat} {x y:List Cell} (hx:Forest n x) (hy:Forest n y) (ix:In V x) (iy:In V y):∀ p ∈ (cut n x).zip (cut n y),In V p.1∧In V p.2:=by
 intro p hp
 have h1:=(List.of_mem_zip hp)
 have x1:=(cut_spec hx).1
 have y1:=(cut_spec hy).1
 exact ⟨fun c hc=>ix c (by rw [← x1];exact List.mem_flatten.2 ⟨_,h1.1,hc⟩),fun c hc=>iy c (by rw [← y1];exact List.mem_flatten.2 ⟨_,h1.2,hc⟩)⟩

theorem Uni.total_aux (V:List Int):∀ (n m:Nat) (s:List Bind) (ps:Pairs),unb V s=n→lenP s ps=m→Good s→OkP ps→(∀ b ∈ s,In V b.f1)→(∀ p ∈ ps,In V p.1∧In V p.2)→∃ r,Uni s ps r:=by
 intro n
 induction n using Nat.strongRecOn with
 | ind n ihn=>
  intro m
  induction m using Nat.strongRecOn with
  | ind m ihm=>
   intro s ps hn hm hs ho hV hP
   cases ps with
   | nil=>exact ⟨_,.done⟩
   | cons p ps=>
    obtain ⟨a,b⟩:=p
    obtain ⟨⟨a1,a2,b1,b2⟩,ho'⟩:=okP_cons.1 ho
    obtain ⟨u,ha⟩:=Walk.total hs a1
    obtain ⟨v,hb⟩:=Walk.total hs b1
    obtain ⟨w1,w2,w3,w4,w5⟩:=ha.spec hs a1 a2
    obtain ⟨z1,z2,z3,z4,z5⟩:=hb.spec hs b1 b2
    have hua:=ha.inn hV (hP (a,b) (by simp)).1
    have hvb:=hb.inn hV (hP (a,b) (by simp)).2
    obtain ⟨c,x,rfl,hx⟩:=w1.one
    obtain ⟨d,y,rfl,hy⟩:=z1.one
    rw [lenP_cons] at hm
    have hla:1≤(full s a).length:=(full_forest hs a1).len
    by_cases hc:c.f0=1
    ·by_cases hcd:c=d
     ·subst hcd
      obtain ⟨r,hr⟩:=ihm (lenP s ps) (by simp only at hm;omega) s ps hn rfl hs ho' hV (fun p hp=>hP p (by simp [hp]))
      exact ⟨r,.same ha hb hc hr⟩
     ·by_cases hr:Reach s (d :: y) c.f1
      ·exact ⟨none,.occL ha hb hc hcd hr⟩
      ·have hg:=w5 c x rfl hc
       have hck:=(okl_cons.1 w2).1
       have hv:0≤c.f1∧c.f1≤99999:=by
        unfold cellOk at hck
        rw [if_pos hc] at hck
        simp only [Bool.and_eq_true,decide_eq_true_eq] at hck
        exact hck.1
       have hlt:=unb_snoc (s:=s) (t:=d :: y) (hua c (by simp) hc) hg
       rw [hn] at hlt
       obtain ⟨r,hu⟩:=ihn _ hlt _ _ ps rfl rfl (hs.bind hv hg z1 z2 hr) ho' (fun b hb=>by
        rcases List.mem_append.1 hb with hb|hb
        ·exact hV b hb
        ·rw [List.mem_singleton.1 hb];exact hvb) (fun p hp=>hP p (by simp [hp]))
       exact ⟨r,.bindL ha hb hc hcd hr hu⟩
    ·by_cases hd:d.f0=1
     ·by_cases hr:Reach s (c :: x) d.f1
      ·exact ⟨none,.occR ha hb hc hd hr⟩
      ·have hg:=z5 d y rfl hd
       have hck:=(okl_cons.1 z2).1
       have hv:0≤d.f1∧d.f1≤99999:=by
        unfold cellOk at hck
        rw [if_pos hd] at hck
        simp only [Bool.and_eq_true,decide_eq_true_eq] at hck
        exact hck.1
       have hlt:=unb_snoc (s:=s) (t:=c :: x) (hvb d (by simp) hd) hg
       rw [hn] at hlt
       obtain ⟨r,hu⟩:=ihn _ hlt _ _ ps rfl rfl (hs.bind hv hg w1 w2 hr) ho' (fun b hb=>by
        rcases List.mem_append.1 hb with hb|hb
        ·exact hV b hb
        ·rw [List.mem_singleton.1 hb];exact hua) (fun p hp=>hP p (by simp [hp]))
       exact ⟨r,.bindR ha hb hc hd hr hu⟩
     ·by_cases hcd:c=d
      ·subst hcd
       have hl:=lenP_zip s hx hy
       have e1:(full s a).length=1+(full s x).length:=by rw [w3,full_fun hc,List.length_cons];omega
       have e2:(full s b).length=1+(full s y).length:=by rw [z3,full_fun hd,List.length_cons];omega
       obtain ⟨r,hr⟩:=ihm _ (by rw [lenP_append,hl];simp only at hm;omega) s ((cut (ar c) x).zip (cut (ar c) y)++ps) hn rfl hs
        (okP_append.2 ⟨okP_zip hx hy (okl_cons.1 w2).2 (okl_cons.1 z2).2,ho'⟩) hV (fun p hp=>by
         rcases List.mem_append.1 hp with hp|hp
         ·exact In.zip hx hy (fun e he=>hua e (by simp [he])) (fun e he=>hvb e (by simp [he])) p hp
         ·exact hP p (by simp [hp]))
       exact ⟨r,.args ha hb hc hr⟩
      ·exact ⟨none,.clash ha hb hc hd hcd⟩

/-- all variables that are in play -/
def allVars (s:List Bind) (ps:Pairs):List Int:=(s.flatMap fun b=>b.f1.map (·.f1))++ps.flatMap fun p=>p.1.map (·.f1)++p.2.map (·.f1)

theorem Uni.total {s:List Bind} {ps:Pairs} (hs:Good s) (ho:OkP ps):∃ r,Uni s ps r:=by
 refine Uni.total_aux (allVars s ps) _ _ s ps rfl rfl hs ho ?_ ?_
 ·intro b hb c hc _
  exact List.mem_append_left _ (List.mem_flatMap.2 ⟨b,hb,List.mem_map_of_mem hc⟩)
 ·intro p hp
  refine ⟨fun c hc _=>List.mem_append_right _ (List.mem_flatMap.2 ⟨p,hp,List.mem_append_left _ (List.mem_map_of_mem hc)⟩),fun c hc _=>List.mem_append_right _ (List.mem_flatMap.2 ⟨p,hp,List.mem_append_right _ (List.mem_map_of_mem hc)⟩)⟩

theorem Uni.det {s:List Bind} {ps:Pairs} {r:Option (List Bind)} (h:Uni s ps r):∀ {r'},Uni s ps r'→r=r':=by
 induction h with
 | done=>intro r' h;cases h;rfl
 | same ha hb hc _ ih=>
  intro r' h
  cases h with
  | same ha' hb' _ h=>exact ih h
  | bindL ha' hb' h1 h2 h3 _=>cases ha.det ha';cases hb.det hb';exact absurd rfl h2
  | occL ha' hb' h1 h2 h3=>cases ha.det ha';cases hb.det hb';exact absurd rfl h2
  | bindR ha' hb' h1 h2 h3 _=>cases ha.det ha';exact absurd hc h1
  | occR ha' hb' h1 h2 h3=>cases ha.det ha';exact absurd hc h1
  | clash ha' hb' h1 h2 h3=>cases ha.det ha';exact absurd hc h1
  | args ha' hb' h1 _=>cases ha.det ha';exact absurd hc h1
 | bindL ha hb hc hcd hr _ ih=>
  intro r' h
  cases h with
  | same ha' hb' _ h=>cases ha.det ha';cases hb.det hb';exact absurd rfl hcd
  | bindL ha' hb' h1 h2 h3 h=>cases ha.det ha';cases hb.det hb';exact ih h
  | occL ha' hb' h1 h2 h3=>cases ha.det ha';cases hb.det hb';exact absurd h3 hr
  | bindR ha' hb' h1 h2 h3 _=>cases ha.det ha';exact absurd hc h1
  | occR ha' hb' h1 h2 h3=>cases ha.det ha';exact absurd hc h1
  | clash ha' hb' h1 h2 h3=>cases ha.det ha';exact absurd hc h1
  | args ha' hb' h1 _=>cases ha.det ha';exact absurd hc h1
 | occL ha hb hc hcd hr=>
  intro r' h
  cases h with
  | same ha' hb' _ h=>cases ha.det ha';cases hb.det hb';exact absurd rfl hcd
  | bindL ha' hb' h1 h2 h3 h=>cases ha.det ha';cases hb.det hb';exact absurd hr h3
  | occL ha' hb' h1 h2 h3=>rfl
  | bindR ha' hb' h1 h2 h3 _=>cases ha.det ha';exact absurd hc h1
  | occR ha' hb' h1 h2 h3=>rfl
  | clash ha' hb' h1 h2 h3=>rfl
  | args ha' hb' h1 _=>cases ha.det ha';exact absurd hc h1
 | bindR ha hb hc hd hr _ ih=>
  intro r' h
  cases h with
  | same ha' hb' h1 h=>cases ha.det ha';exact absurd h1 hc
  | bindL ha' hb' h1 h2 h3 h=>cases ha.det ha';exact absurd h1 hc
  | occL ha' hb' h1 h2 h3=>cases ha.det ha';exact absurd h1 hc
  | bindR ha' hb' h1 h2 h3 h=>cases ha.det ha';cases hb.det hb';exact ih h
  | occR ha' hb' h1 h2 h3=>cases ha.det ha';cases hb.det hb';exact absurd h3 hr
  | clash ha' hb' h1 h2 h3=>cases hb.det hb';exact absurd hd h2
  | args ha' hb' h1 _=>cases ha.det ha';cases hb.det hb';exact absurd hd h1
 | occR ha hb hc hd hr=>
  intro r' h
  cases h with
  | same ha' hb' h1 h=>cases ha.det ha';exact absurd h1 hc
  | bindL ha' hb' h1 h2 h3 h=>cases ha.det ha';exact absurd h1 hc
  | occL ha' hb' h1 h2 h3=>rfl
  | bindR ha' hb' h1 h2 h3 h=>cases ha.det ha';cases hb.det hb';exact absurd hr h3
  | occR ha' hb' h1 h2 h3=>rfl
  | clash ha' hb' h1 h2 h3=>rfl
  | args ha' hb' h1 _=>cases ha.det ha';cases hb.det hb';exact absurd hd h1
 | clash ha hb hc hd hcd=>
  intro r' h
  cases h with
  | same ha' hb' h1 h=>cases ha.det ha';exact absurd h1 hc
  | bindL ha' hb' h1 h2 h3 h=>cases ha.det ha';exact absurd h1 hc
  | occL ha' hb' h1 h2 h3=>rfl
  | bindR ha' hb' h1 h2 h3 h=>cases hb.det hb';exact absurd h2 hd
  | occR ha' hb' h1 h2 h3=>rfl
  | clash ha' hb' h1 h2 h3=>rfl
  | args ha' hb' h1 _=>cases ha.det ha';cases hb.det hb';exact absurd rfl hcd
 | args ha hb hc _ ih=>
  intro r' h
  cases h with
  | same ha' hb' h1 h=>cases ha.det ha';exact absurd h1 hc
  | bindL ha' hb' h1 h2 h3 h=>cases ha.det ha';exact absurd h1 hc
  | occL ha' hb' h1 h2 h3=>cases ha.det ha';exact absurd h1 hc
  | bindR ha' hb' h1 h2 h3 h=>cases ha.det ha';cases hb.det hb';exact absurd h2 hc
  | occR ha' hb' h1 h2 h3=>cases ha.det ha';cases hb.det hb';exact absurd h2 hc
  | clash ha' hb' h1 h2 h3=>cases ha.det ha';cases hb.det hb';exact absurd rfl h3
  | args ha' hb' h1 h=>cases ha.det ha';cases hb.det hb';exact ih h

end Go.Proofs.YtlaicnoikeieeaaDoor.Cat
