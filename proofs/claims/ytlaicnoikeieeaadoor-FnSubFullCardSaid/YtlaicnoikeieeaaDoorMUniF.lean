/- What the program's get, walk, fill, holds, bind and unify answer, in the words of the plain theory. -/
import Derived.Test.YtlaicnoikeieeaaDoorMFree
import Derived.Test.YtlaicnoikeieeaaDoorMArg
import Derived.Test.YtlaicnoikeieeaaDoorMSubOk
import Derived.Test.YtlaicnoikeieeaaDoorMLeads
import Derived.Test.YtlaicnoikeieeaaDoorP10
import Derived.Test.YtlaicnoikeieeaaDoorP10
import Derived.Test.YtlaicnoikeieeaaDoorP11
namespace Go.Proofs.YtlaicnoikeieeaaDoor.P
set_option linter.unusedVariables false
set_option linter.unusedSimpArgs false
open Go.RowKit Go.Proofs.YtlaicnoikeieeaaDoor.Cat Go.Proofs.YtlaicnoikeieeaaDoorW.PrintWords Go.Proofs.YtlaicnoikeieeaaDoorW.PrintLast

theorem getL_get {s:List Bind} (hs:Cat.Good s) (v:Int):getL s v=Cat.get s v:=by
 cases h:Cat.get s v with
 | none=>exact getL_none s v (get_none h)
 | some t=>
  obtain ⟨b,hb,rfl,rfl⟩:=get_mem h
  obtain ⟨j,hj,rfl⟩:=List.getElem_of_mem hb
  refine getL_at s _ j hj rfl (fun i hi hji e=>?_)
  have hn:=hs.nodup
  have:=List.getElem_inj (h₀:=by simpa using hi) (h₁:=by simpa using hj) hn |>.1 (by simpa using e)
  omega

theorem term_pos {s:List Bind} (hs:Cat.Good s) {v:Int} {t:List Cell} (h:Cat.get s v=some t):t≠[]:=(hs.get h).1.pos

theorem fillF_ev {s:List Bind} (hs:Cat.Good s) {t u:List Cell} (h:Full s t u):∃ N,∀ k,N≤k→∀ out,∃ o,fillF s k out t=some o∧(out.length+u.length≤40→o=out++u)∧(40<out.length+u.length→40<o.length):=by
 induction h with
 | nil=>
  refine ⟨1,fun k hk out=>?_⟩
  obtain ⟨k,rfl⟩:∃ m,k=m+1:=⟨k - 1,by omega⟩
  refine ⟨out,by rw [fillF,fillL],fun _=>by simp,fun h=>by simpa using h⟩
 | @keep c l u hc _ ih=>
  obtain ⟨N,ih⟩:=ih
  refine ⟨N+1,fun k hk out=>?_⟩
  obtain ⟨k,rfl⟩:∃ m,k=m+1:=⟨k - 1,by omega⟩
  by_cases h40:40<out.length
  ·exact ⟨out,by rw [fillF,fillL,if_pos h40],fun h=>by simp at h;omega,fun _=>h40⟩
  ·obtain ⟨o,h1,h2,h3⟩:=ih (k+1) (by omega) (out++[c])
   refine ⟨o,?_,fun h=>?_,fun h=>?_⟩
   ·rw [fillF] at h1
    rw [fillF,fillL,if_neg h40]
    by_cases hv:c.f0=1
    ·rw [if_pos hv,getL_get hs,hc hv];exact h1
    ·rw [if_neg hv];exact h1
   ·rw [h2 (by simp at h ⊢;omega)];simp
   ·exact h3 (by simp at h ⊢;omega)
 | @sub c l t u1 u2 hv hg _ _ ih1 ih2=>
  obtain ⟨N1,ih1⟩:=ih1
  obtain ⟨N2,ih2⟩:=ih2
  refine ⟨max N1 N2+1,fun k hk out=>?_⟩
  obtain ⟨k,rfl⟩:∃ m,k=m+1:=⟨k - 1,by omega⟩
  by_cases h40:40<out.length
  ·exact ⟨out,by rw [fillF,fillL,if_pos h40],fun h=>by simp at h;omega,fun _=>h40⟩
  ·obtain ⟨o1,h1,h2,h3⟩:=ih1 k (by omega) out
   obtain ⟨o,g1,g2,g3⟩:=ih2 (k+1) (by omega) o1
   refine ⟨o,?_,fun h=>?_,fun h=>?_⟩
   ·rw [fillF] at g1
    rw [fillF,fillL,if_neg h40,if_pos hv,getL_get hs,hg]
    show (if t=[] then none else (fillF s k out t).bind fun o=>fillL (fillF s k) (getL s) o l)=some o
    rw [if_neg (term_pos hs hg),h1]
    exact g1
   ·rw [List.length_append] at h
    have e:=h2 (by omega)
    rw [g2 (by rw [e,List.length_append];omega),e,List.append_assoc]
   ·rw [List.length_append] at h
    by_cases hb:40<out.length+u1.length
    ·have:=h3 hb
     exact g3 (by omega)
    ·have e:=h2 (by omega)
     exact g3 (by rw [e,List.length_append];omega)

theorem ifull_ev {s:List Bind} (hs:Cat.Good s) {t:List Cell} (ht:okl t):Ev (fun k=>impl_bindings_full.f k s t) (if 40<(full s t).length then ([],false) else (full s t,true)):=by
 obtain ⟨N,h⟩:=fillF_ev hs (full_full hs ht)
 refine ⟨N,fun k hk=>?_⟩
 obtain ⟨o,h1,h2,h3⟩:=h k hk []
 show ((fillF s k [] t).bind fun o=>if 40<o.length then some ([],false) else some (o,true))=_
 rw [h1]
 simp only [Option.bind_some]
 simp only [List.length_nil,Nat.zero_add] at h2 h3
 by_cases hb:40<(full s t).length
 ·rw [if_pos hb,if_pos (h3 hb)]
 ·rw [if_neg hb,h2 (by omega)]
  rw [List.nil_append,if_neg hb]

theorem good_len {s:List Bind} (hs:Cat.Good s):s.length≤100000:=by
 have h:=nodup_len (U:=(List.range 100000).map Int.ofNat) hs.nodup (fun x hx=>by
  obtain ⟨b,hb,rfl⟩:=List.mem_map.1 hx
  have:=hs.range b hb
  refine List.mem_map.2 ⟨b.f0.toNat,List.mem_range.2 (by omega),?_⟩
  show ((b.f0.toNat:Nat):Int)=b.f0
  omega)
 simpa using h

end Go.Proofs.YtlaicnoikeieeaaDoor.P
