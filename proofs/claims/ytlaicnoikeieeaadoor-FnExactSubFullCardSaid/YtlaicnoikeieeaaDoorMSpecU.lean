/- What the reference's l2Walk, l2Bind and l2Unify answer, in the words of the plain theory. -/
import Derived.Test.YtlaicnoikeieeaaDoorMSub
import Derived.Test.YtlaicnoikeieeaaDoorMUniF
namespace Go.Proofs.YtlaicnoikeieeaaDoor.Cat
set_option linter.unusedVariables false
set_option linter.unusedSimpArgs false

theorem filter_lt {α:Type} {p q:α→Bool}:∀ {l:List α},(∀ x ∈ l,p x=true→q x=true)→(∃ x ∈ l,q x=true∧p x=false)→(l.filter p).length<(l.filter q).length
 | [],_,h=>by obtain ⟨x,hx,_⟩:=h;cases hx
 | a :: l,hs,h=>by
  have hle:(l.filter p).length≤(l.filter q).length:=by
   clear h
   induction l with
   | nil=>simp
   | cons b l ih=>
    have:=ih (fun x hx=>hs x (by simp at hx ⊢;rcases hx with h|h <;> simp [h]))
    have hb:=hs b (by simp)
    rw [List.filter_cons,List.filter_cons]
    cases hp:p b with
    | true=>rw [hb hp];simp;omega
    | false=>cases q b <;> simp <;> omega
  obtain ⟨x,hx,h1,h2⟩:=h
  have ha:=hs a (by simp)
  rw [List.filter_cons,List.filter_cons]
  rcases List.mem_cons.1 hx with rfl|hx
  ·rw [h1,h2];simp;omega
  ·have:=filter_lt (l:=l) (fun y hy=>hs y (by simp [hy])) ⟨x,hx,h1,h2⟩
   cases hp:p a with
   | true=>rw [ha hp];simp;omega
   | false=>cases q a <;> simp <;> omega

/-- ranks that are no greater than there are bindings -/
theorem bounded_rank {s:List Bind} (h:Good s):∃ rk:Int→Nat,(∀ v,rk v≤s.length)∧∀ b ∈ s,∀ c ∈ b.f1,c.f0=1→rk c.f1<rk b.f0:=by
 obtain ⟨rk,hr⟩:=h.acyc
 refine ⟨fun v=>(s.filter fun b=>decide (rk b.f0≤rk v)).length,fun v=>List.length_filter_le _ _,fun b hb c hc hv=>?_⟩
 have hlt:=hr b hb c hc hv
 refine filter_lt (fun x _ hx=>?_) ⟨b,hb,by simp,by simpa using hlt⟩
 simp only [decide_eq_true_eq] at hx ⊢
 omega

/-- the greatest rank of a variable in places, and one more; 0, if there is none -/
def mrk (rk:Int→Nat):List Cell→Nat
 | []=>0
 | c :: l=>max (if c.f0=1 then rk c.f1+1 else 0) (mrk rk l)
theorem mrk_le {rk:Int→Nat} {n:Nat}:∀ {l:List Cell},mrk rk l≤n↔∀ c ∈ l,c.f0=1→rk c.f1+1≤n
 | []=>by simp [mrk]
 | c :: l=>by
  rw [mrk,Nat.max_le,mrk_le]
  constructor
  ·rintro ⟨h1,h2⟩ d hd hv
   rcases List.mem_cons.1 hd with rfl|hd
   ·rwa [if_pos hv] at h1
   ·exact h2 d hd hv
  ·intro h
   refine ⟨?_,fun d hd hv=>h d (by simp [hd]) hv⟩
   split
   ·rename_i hv;exact h c (by simp) hv
   ·omega
def hgt (rk:Int→Nat) (l:List Cell):Nat:=42 * mrk rk l+l.length
/-- a part of places -/
def Sub1 (x A:List Cell):Prop:=x.length<A.length∧∀ c ∈ x,c ∈ A
theorem Sub1.hgt {rk:Int→Nat} {x A:List Cell} (h:Sub1 x A):Cat.hgt rk x<Cat.hgt rk A:=by
 have h1:mrk rk x≤mrk rk A:=mrk_le.2 (fun c hc hv=>mrk_le.1 (Nat.le_refl (mrk rk A)) c (h.2 c hc) hv)
 have:=h.1
 unfold Cat.hgt
 omega
theorem walk_hgt {s:List Bind} {rk:Int→Nat} (hr:∀ b ∈ s,∀ c ∈ b.f1,c.f0=1→rk c.f1<rk b.f0) (hs:∀ b ∈ s,b.f1.length≤40) {a u:List Cell} (h:Walk s a u):hgt rk u≤hgt rk a:=by
 induction h with
 | stop _=>exact Nat.le_refl _
 | @go c l t u hv hg _ ih=>
  obtain ⟨b,hb,e1,rfl⟩:=get_mem hg
  have h1:mrk rk b.f1≤rk c.f1:=mrk_le.2 (fun d hd hd1=>by have:=hr b hb d hd hd1;rw [e1] at this;omega)
  have h2:rk c.f1+1≤mrk rk (c :: l):=mrk_le.1 (Nat.le_refl (mrk rk (c :: l))) c (by simp) hv
  have h3:=hs b hb
  unfold hgt at ih ⊢
  omega
theorem walk_ext {s e:List Bind} {x u:List Cell} (h:Walk s x u):(∀ c y,u=c :: y→c.f0≠1)→Walk (s++e) x u:=by
 induction h with
 | @stop c l hc=>intro hn;exact .stop (fun hv=>absurd hv (hn c l rfl))
 | @go c l t u hv hg _ ih=>intro hn;exact .go hv (by rw [get_append,hg];rfl) (ih hn)

/-- the pairs that wait, level by level: the top ones are of arguments of A -/
inductive Lev (s:List Bind):Nat→List Cell→Pairs→Prop
 | root (A:List Cell):Lev s 0 A []
 | lev {m:Nat} {A A':List Cell} {g ps:Pairs} (hg:g.length≤3) (ha:∀ p ∈ g,Sub1 p.1 A) (hl:A.length≤41) (hn:∃ c y,A=c :: y∧c.f0≠1) (hA:m=0∨∃ x,Sub1 x A'∧Walk s x A) (h:Lev s m A' ps):Lev s (m+1) A (g++ps)
theorem Lev.count {s:List Bind} {m:Nat} {A:List Cell} {ps:Pairs} (h:Lev s m A ps):ps.length≤3 * m:=by
 induction h with
 | root=>simp
 | lev hg _ _ _ _ _ ih=>rw [List.length_append];omega
theorem Lev.high {s:List Bind} {rk:Int→Nat} (hr:∀ b ∈ s,∀ c ∈ b.f1,c.f0=1→rk c.f1<rk b.f0) (hs:∀ b ∈ s,b.f1.length≤40) {R:Nat} (hR:∀ v,rk v≤R) {m:Nat} {A:List Cell} {ps:Pairs} (h:Lev s m A ps):m=0∨m+hgt rk A≤42 * (R+1)+42:=by
 induction h with
 | root=>exact .inl rfl
 | @lev m A A' g ps hg ha hl hn hA h ih=>
  right
  rcases ih with rfl|ih
  ·have:mrk rk A≤R+1:=mrk_le.2 (fun c _ _=>by have:=hR c.f1;omega)
   unfold hgt
   omega
  ·rcases hA with rfl|⟨x,hx,hw⟩
   ·have:mrk rk A≤R+1:=mrk_le.2 (fun c _ _=>by have:=hR c.f1;omega)
    unfold hgt
    omega
   ·have h1:=walk_hgt hr hs hw
    have h2:=hx.hgt (rk:=rk)
    omega
theorem Lev.bound {s:List Bind} (hs:Good s) (hsm:∀ b ∈ s,b.f1.length≤40) {m:Nat} {A:List Cell} {ps:Pairs} (h:Lev s m A ps):ps.length≤3 * (42 * (s.length+1)+42):=by
 obtain ⟨rk,hR,hr⟩:=bounded_rank hs
 have h1:=h.count
 rcases h.high hr hsm hR with rfl|h2
 ·omega
 ·omega
theorem Lev.ext {s e:List Bind} {m:Nat} {A:List Cell} {ps:Pairs} (h:Lev s m A ps):Lev (s++e) m A ps:=by
 induction h with
 | root A=>exact .root A
 | lev hg ha hl hn hA _ ih=>
  refine .lev hg ha hl hn ?_ ih
  rcases hA with h|⟨x,hx,hw⟩
  ·exact .inl h
  ·refine .inr ⟨x,hx,walk_ext hw (fun c y e=>?_)⟩
   obtain ⟨d,z,e',hd⟩:=hn
   rw [e] at e'
   injection e' with e' _
   rw [e'];exact hd
theorem Lev.one {s:List Bind} (a b:List Cell) (h:a.length≤40):Lev s 1 (⟨3,1,⟨#[]⟩⟩ :: a) [(a,b)]:=by
 have:=Lev.lev (s:=s) (m:=0) (A:=⟨3,1,⟨#[]⟩⟩ :: a) (A':=[]) (g:=[(a,b)]) (ps:=[]) (by simp) (fun p hp=>by
  rw [List.mem_singleton.1 hp]
  exact ⟨by simp,fun c hc=>List.mem_cons_of_mem _ hc⟩) (by simp;omega) ⟨_,a,rfl,by decide⟩ (.inl rfl) (.root _)
 exact this
end Go.Proofs.YtlaicnoikeieeaaDoor.Cat

namespace Go.Proofs.YtlaicnoikeieeaaDoor.P
set_option linter.unusedVariables false
set_option linter.unusedSimpArgs false
open Go.RowKit Go.Proofs.YtlaicnoikeieeaaDoor.Cat Go.Proofs.YtlaicnoikeieeaaDoorW.PrintWords Go.Proofs.YtlaicnoikeieeaaDoorW.PrintLast

theorem known_of {s:List Bind} {v:Int} {t:List Cell} (h:Cat.get s v=some t):known s v=t:=by unfold known;rw [h];rfl
theorem known_no {s:List Bind} {v:Int} (h:Cat.get s v=none):known s v=[]:=by unfold known;rw [h];rfl
end Go.Proofs.YtlaicnoikeieeaaDoor.P
