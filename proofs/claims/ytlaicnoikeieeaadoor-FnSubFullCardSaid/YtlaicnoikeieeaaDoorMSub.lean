/- What SubUnify, SubFull and SubGet answer, and the laws of bindings: plain Lean, no program. -/
import Derived.Test.YtlaicnoikeieeaaDoorMUni
import Derived.Test.YtlaicnoikeieeaaDoorMCan
namespace Go.Proofs.YtlaicnoikeieeaaDoor.Cat
set_option linter.unusedVariables false
set_option linter.unusedSimpArgs false

theorem isTerm_iff' {l:List Cell}:isTerm l=true↔1≤l.length∧l.length≤40∧okl l∧Forest 1 l:=by
 unfold isTerm Forest okl
 simp only [Bool.and_eq_true,decide_eq_true_eq,List.all_eq_true]
 constructor
 ·rintro ⟨⟨h1,h2⟩,h3,h4⟩;exact ⟨h1,h2,h3,h4⟩
 ·rintro ⟨h1,h2,h3,h4⟩;exact ⟨⟨h1,h2⟩,h3,h4⟩

/-- bindings that are ok, and small -/
structure Oks (s:List Bind):Prop where
 good:Good s
 small:∀ b ∈ s,b.f1.length≤40

theorem Oks.nil:Oks []:=⟨Good.nil,by simp⟩
theorem Oks.pre {s e:List Bind} (h:Oks (s++e)):Oks s:=⟨h.good.pre,fun b hb=>h.small b (by simp [hb])⟩
theorem Oks.isTerm {s:List Bind} (h:Oks s) {b:Bind} (hb:b ∈ s):isTerm b.f1=true:=by
 have:=h.good.term b hb
 exact isTerm_iff'.2 ⟨this.1.len,h.small b hb,this.2,this.1⟩
theorem cellOk_var {v:Int} (h:0≤v∧v≤99999):cellOk (varc v)=true:=by
 unfold cellOk varc
 rw [if_pos rfl,decide_eq_true h]
 rfl
theorem var_range {c:Cell} (h:cellOk c=true) (hv:c.f0=1):0≤c.f1∧c.f1≤99999:=by
 unfold cellOk at h
 rw [if_pos hv,Bool.and_eq_true] at h
 exact of_decide_eq_true h.1
theorem isTerm_var {v:Int} (h:0≤v∧v≤99999):isTerm [varc v]=true:=by
 refine isTerm_iff'.2 ⟨by simp,by simp,?_,?_⟩
 ·intro c hc
  rw [List.mem_singleton.1 hc]
  exact cellOk_var h
 ·exact Forest.cons_iff.2 (by rw [ar_var (show (varc v).f0=1 from rfl)];exact Forest.nil)

open Classical in
noncomputable def uni (s:List Bind) (ps:Pairs):Option (List Bind):=if h:∃ r,Uni s ps r then h.choose else none
theorem uni_spec {s:List Bind} {ps:Pairs} (hs:Good s) (ho:OkP ps):Uni s ps (uni s ps):=by
 have h:=Uni.total hs ho
 unfold uni
 rw [dif_pos h]
 exact h.choose_spec
/-- the code and the bindings, of what is ok -/
noncomputable def meet (s:List Bind) (a b:List Cell):List Bind × Int:=
 if 40<(full s a).length∨40<(full s b).length then ([],3)
 else match uni s [(a,b)] with
  | none=>([],2)
  | some x=>if 40<(full x a).length then ([],3) else (x,1)
open Classical in
noncomputable def subUnify (s:List Bind) (a b:List Cell):List Bind × Int:=if Oks s∧isTerm a=true∧isTerm b=true then meet s a b else ([],4)
open Classical in
noncomputable def subFull (s:List Bind) (t:List Cell):List Cell × Bool:=if Oks s∧isTerm t=true then (if 40<(full s t).length then ([],false) else (full s t,true)) else ([],false)
def subGet (s:List Bind) (v:Int):List Cell:=(get s v).getD []

/-! ### sizes -/
theorem Walk.small {s:List Bind} (hs:∀ b ∈ s,b.f1.length≤40) {l u:List Cell} (h:Walk s l u):l.length≤40→u.length≤40:=by
 induction h with
 | stop _=>exact id
 | go _ hg _ ih=>
  intro _
  obtain ⟨b,hb,_,rfl⟩:=get_mem hg
  exact ih (hs b hb)

theorem cut_small {n:Nat} {l:List Cell} (h:Forest n l) {x:List Cell} (hx:x ∈ cut n l):x.length≤l.length:=by
 have h1:=(cut_spec h).1
 have:x.length≤(cut n l).flatten.length:=(List.sublist_flatten_of_mem hx).length_le
 rwa [h1] at this

theorem Uni.small {s:List Bind} {ps:Pairs} {r:Option (List Bind)} (h:Uni s ps r):Good s→OkP ps→(∀ b ∈ s,b.f1.length≤40)→(∀ p ∈ ps,p.1.length≤40∧p.2.length≤40)→∀ x,r=some x→∀ b ∈ x,b.f1.length≤40:=by
 induction h with
 | done=>intro _ _ hs _ x e;cases e;exact hs
 | same _ _ _ _ ih=>intro g ho hs hp;exact ih g (okP_cons.1 ho).2 hs (fun p h=>hp p (by simp [h]))
 | @bindL s a b c d x y ps r ha hb hc hcd hr _ ih=>
  intro g ho hs hp
  obtain ⟨⟨a1,a2,b1,b2⟩,ho⟩:=okP_cons.1 ho
  obtain ⟨w1,w2,_,_,w5⟩:=ha.spec g a1 a2
  obtain ⟨z1,z2,_,_,_⟩:=hb.spec g b1 b2
  have hok:=(okl_cons.1 w2).1
  obtain rfl:=w1.var hc
  refine ih (g.bind ?_ (w5 c [] rfl hc) z1 z2 hr) ho ?_ (fun p h=>hp p (by simp [h]))
  ·exact var_range hok hc
  ·intro e he
   rcases List.mem_append.1 he with he|he
   ·exact hs e he
   ·rw [List.mem_singleton.1 he];exact hb.small hs (hp (a,b) (by simp)).2
 | occL=>intro _ _ _ _ x e;cases e
 | @bindR s a b c d x y ps r ha hb hc hd hr _ ih=>
  intro g ho hs hp
  obtain ⟨⟨a1,a2,b1,b2⟩,ho⟩:=okP_cons.1 ho
  obtain ⟨w1,w2,_,_,_⟩:=ha.spec g a1 a2
  obtain ⟨z1,z2,_,_,z5⟩:=hb.spec g b1 b2
  have hok:=(okl_cons.1 z2).1
  obtain rfl:=z1.var hd
  refine ih (g.bind ?_ (z5 d [] rfl hd) w1 w2 hr) ho ?_ (fun p h=>hp p (by simp [h]))
  ·exact var_range hok hd
  ·intro e he
   rcases List.mem_append.1 he with he|he
   ·exact hs e he
   ·rw [List.mem_singleton.1 he];exact ha.small hs (hp (a,b) (by simp)).1
 | occR=>intro _ _ _ _ x e;cases e
 | clash=>intro _ _ _ _ x e;cases e
 | @args s a b c x y ps r ha hb hc _ ih=>
  intro g ho hs hp
  obtain ⟨⟨a1,a2,b1,b2⟩,ho⟩:=okP_cons.1 ho
  obtain ⟨w1,w2,_,_,_⟩:=ha.spec g a1 a2
  obtain ⟨z1,z2,_,_,_⟩:=hb.spec g b1 b2
  have hx:=w1.rest
  have hy:=z1.rest
  have lx:=ha.small hs (hp (a,b) (by simp)).1
  have ly:=hb.small hs (hp (a,b) (by simp)).2
  simp only [List.length_cons] at lx ly
  refine ih g (okP_append.2 ⟨okP_zip hx hy (okl_cons.1 w2).2 (okl_cons.1 z2).2,ho⟩) hs (fun p h=>?_)
  rcases List.mem_append.1 h with h|h
  ·have:=List.of_mem_zip h
   have q1:=cut_small hx this.1
   have q2:=cut_small hy this.2
   exact ⟨by omega,by omega⟩
  ·exact hp p (by simp [h])

/-! ### what is told of a pair -/
theorem okP_one {a b:List Cell} (ha:isTerm a=true) (hb:isTerm b=true):OkP [(a,b)]:=by
 obtain ⟨_,_,a1,a2⟩:=isTerm_iff'.1 ha
 obtain ⟨_,_,b1,b2⟩:=isTerm_iff'.1 hb
 exact okP_cons.2 ⟨⟨a2,a1,b2,b1⟩,okP_nil⟩

/-- θ makes a and b the same, and all that is bound -/
def Both (θ:Int→List Cell) (s:List Bind) (a b:List Cell):Prop:=Solves θ s∧app θ a=app θ b

structure Met (s:List Bind) (a b:List Cell) (x:List Bind):Prop where
 oks:Oks x
 ext:∃ e,x=s++e
 iff:∀ θ,Wf θ→(Solves θ x↔Both θ s a b)
 fits:(full x a).length≤40

theorem meet_cases {s:List Bind} {a b:List Cell} (hs:Oks s) (ha:isTerm a=true) (hb:isTerm b=true) :
  (meet s a b=([],3))∨(meet s a b=([],2)∧(full s a).length≤40∧(full s b).length≤40∧∀ θ,Wf θ→¬ Both θ s a b)∨(∃ x,meet s a b=(x,1)∧Met s a b x∧(full s a).length≤40∧(full s b).length≤40):=by
 have hu:=uni_spec hs.good (okP_one ha hb)
 have hr:=hu.sound hs.good (okP_one ha hb)
 have hsm:=hu.small hs.good (okP_one ha hb) hs.small (by
  intro p hp
  rw [List.mem_singleton.1 hp]
  exact ⟨(isTerm_iff'.1 ha).2.1,(isTerm_iff'.1 hb).2.1⟩)
 unfold meet
 by_cases hbig:40<(full s a).length∨40<(full s b).length
 ·rw [if_pos hbig];exact .inl rfl
 ·rw [if_neg hbig]
  cases he:uni s [(a,b)] with
  | none=>
   rw [he] at hr
   refine .inr (.inl ⟨rfl,by omega,by omega,fun θ hw h=>hr θ hw h.1 (fun p hp=>?_)⟩)
   rw [List.mem_singleton.1 hp];exact h.2
  | some x=>
   rw [he] at hr hsm
   obtain ⟨h1,h2,h3⟩:=hr
   by_cases hf:40<(full x a).length
   ·left;simp only [if_pos hf]
   ·simp only [if_neg hf]
    refine .inr (.inr ⟨x,rfl,⟨⟨h1,hsm x rfl⟩,h2,fun θ hw=>(h3 θ hw).trans ?_,by omega⟩,by omega,by omega⟩)
    simp [Both]

theorem Met.same {s x:List Bind} {a b:List Cell} (h:Met s a b x):full x a=full x b:=
 ((h.iff (sig x) (sig_wf h.oks.good)).1 (sig_solves h.oks.good)).2
theorem Met.old {s x:List Bind} {a b:List Cell} (h:Met s a b x):Solves (sig x) s:=
 ((h.iff (sig x) (sig_wf h.oks.good)).1 (sig_solves h.oks.good)).1

theorem full_term {s:List Bind} (hs:Good s) {t:List Cell} (ht:isTerm t=true) (h:(full s t).length≤40):isTerm (full s t)=true:=by
 obtain ⟨_,_,h3,h4⟩:=isTerm_iff'.1 ht
 have:=full_forest hs h4
 exact isTerm_iff'.2 ⟨this.len,h,full_okl hs h3,this⟩

theorem subUnify_ok {s:List Bind} {a b:List Cell} (h:Oks s∧isTerm a=true∧isTerm b=true):subUnify s a b=meet s a b:=if_pos h
theorem subUnify_no {s:List Bind} {a b:List Cell} (h:¬ (Oks s∧isTerm a=true∧isTerm b=true)):subUnify s a b=([],4):=if_neg h

/-- what SubUnify tells: wrong, too big, apart, or done -/
theorem subUnify_cases (s:List Bind) (a b:List Cell) :
  (¬ (Oks s∧isTerm a=true∧isTerm b=true)∧subUnify s a b=([],4))∨
  ((Oks s∧isTerm a=true∧isTerm b=true)∧(subUnify s a b=([],3)∨(subUnify s a b=([],2)∧(full s a).length≤40∧(full s b).length≤40∧∀ θ,Wf θ→¬ Both θ s a b)∨
   ∃ x,subUnify s a b=(x,1)∧Met s a b x∧(full s a).length≤40∧(full s b).length≤40)):=by
 by_cases h:Oks s∧isTerm a=true∧isTerm b=true
 ·rw [subUnify_ok h];exact .inr ⟨h,meet_cases h.1 h.2.1 h.2.2⟩
 ·exact .inl ⟨h,subUnify_no h⟩

theorem subUnify_done {s x:List Bind} {a b:List Cell} (h:subUnify s a b=(x,1)):(Oks s∧isTerm a=true∧isTerm b=true)∧Met s a b x∧(full s a).length≤40∧(full s b).length≤40:=by
 rcases subUnify_cases s a b with ⟨_,e⟩|⟨h0,e|⟨e,_⟩|⟨y,e,m,f⟩⟩
 ·rw [e] at h;exact absurd (show (_:Int)=_ from congrArg Prod.snd h) (by simp)
 ·rw [e] at h;exact absurd (show (_:Int)=_ from congrArg Prod.snd h) (by simp)
 ·rw [e] at h;exact absurd (show (_:Int)=_ from congrArg Prod.snd h) (by simp)
 ·rw [e] at h;obtain rfl:=congrArg Prod.fst h;exact ⟨h0,m,f⟩
theorem subFull_ok {s:List Bind} {t:List Cell} (h:Oks s∧isTerm t=true) (hl:(full s t).length≤40):subFull s t=(full s t,true):=by
 unfold subFull;rw [if_pos h,if_neg (by omega)]
theorem subFull_cases (s:List Bind) (t:List Cell):(subFull s t=([],false)∧(¬ (Oks s∧isTerm t=true)∨40<(full s t).length))∨(subFull s t=(full s t,true)∧Oks s∧isTerm t=true∧(full s t).length≤40):=by
 unfold subFull
 by_cases h:Oks s∧isTerm t=true
 ·rw [if_pos h]
  by_cases hl:40<(full s t).length
  ·rw [if_pos hl];exact .inl ⟨rfl,.inr hl⟩
  ·rw [if_neg hl];exact .inr ⟨rfl,h.1,h.2,by omega⟩
 ·rw [if_neg h];exact .inl ⟨rfl,.inl h⟩

/-! ### the laws -/
theorem law_full {s:List Bind} {t x:List Cell} (h:subFull s t=(x,true)):subFull s x=(x,true)∧isTerm x=true∧(∀ v ∈ frees x,subGet s v=[])∧
  ∀ b ∈ s,subFull s [varc b.f0]=subFull s b.f1∧subGet s b.f0=b.f1:=by
 rcases subFull_cases s t with ⟨e,_⟩|⟨e,hs,ht,hl⟩
 ·rw [e] at h;exact absurd (show false=true from congrArg Prod.snd h) (by decide)
 ·rw [e] at h
  obtain rfl:=congrArg Prod.fst h
  have ot:=(isTerm_iff'.1 ht).2.2.1
  have hx:=full_term hs.good ht hl
  have free:=(full_full hs.good ot).free
  have e2:full s (full s t)=full s t:=(Full.same free).eq hs.good (full_okl hs.good ot)
  refine ⟨by rw [subFull_ok ⟨hs,hx⟩ (by rw [e2];exact hl),e2],hx,fun v hv=>?_,fun b hb=>?_⟩
  ·obtain ⟨c,hc,h1,rfl⟩:=mem_frees.1 hv
   unfold subGet
   rw [free c hc h1];rfl
  ·have hg:=get_of_mem hs.good.nodup hb
   have hv:=isTerm_var (hs.good.range b hb)
   have hbt:=hs.isTerm hb
   have e3:full s [varc b.f0]=full s b.f1:=by
    have h1:Full s [varc b.f0] (full s b.f1++[]):=.sub rfl hg (full_full hs.good (hs.good.term b hb).2) .nil
    rw [List.append_nil] at h1
    exact h1.eq hs.good (isTerm_iff'.1 hv).2.2.1
   refine ⟨?_,by unfold subGet;rw [hg];rfl⟩
   have q:∀ u,isTerm u=true→subFull s u=if 40<(full s u).length then ([],false) else (full s u,true):=fun u hu=>by unfold subFull;rw [if_pos ⟨hs,hu⟩]
   rw [q _ hv,q _ hbt,e3]

/-- pairs that are done one behind the other -/
inductive Chain (s:List Bind):Pairs→List Bind→Prop
 | nil:Chain s [] s
 | snoc {ps:Pairs} {y z:List Bind} {p:List Cell × List Cell}:Chain s ps y→subUnify y p.1 p.2=(z,1)→Chain s (ps++[p]) z

theorem Chain.spec {s:List Bind} (hs:Oks s) {ps:Pairs} {y:List Bind} (h:Chain s ps y):Oks y∧∀ θ,Wf θ→(Solves θ y↔Solves θ s∧∀ p ∈ ps,app θ p.1=app θ p.2):=by
 induction h with
 | nil=>exact ⟨hs,fun θ _=>by simp⟩
 | @snoc ps y z p _ e ih=>
  obtain ⟨_,m,_⟩:=subUnify_done e
  refine ⟨m.oks,fun θ hw=>?_⟩
  rw [m.iff θ hw]
  unfold Both
  rw [ih.2 θ hw]
  constructor
  ·rintro ⟨⟨h1,h2⟩,h3⟩
   refine ⟨h1,fun q hq=>?_⟩
   rcases List.mem_append.1 hq with hq|hq
   ·exact h2 q hq
   ·rw [List.mem_singleton.1 hq];exact h3
  ·rintro ⟨h1,h2⟩
   exact ⟨⟨h1,fun q hq=>h2 q (by simp [hq])⟩,h2 p (by simp)⟩

end Go.Proofs.YtlaicnoikeieeaaDoor.Cat
