/- Texts of terms: what a term is written as, told twice: part by part (as the program does), and from left to right over a stack (as the reference does). Plain mathematics. Conditions: none. -/
import Derived.Test.YtlhniagacegbeaaDoorMOk
import Derived.Lib.ItoaMem
namespace Go.Proofs.YtlhniagacegbeaaDoor.Cat
set_option linter.unusedVariables false
set_option linter.unusedSimpArgs false
open Go.Lib
def word (c:Cell):List UInt8:=if c.f0=1 then 88 :: itoa c.f1 else if c.f0=2 then itoa c.f1 else c.f2.data.toList
def joined:List (List UInt8)→List UInt8
 | []=>[]
 | t :: ts=>40 :: t++ts.flatMap (fun u=>44 :: u)++[41]
def txt:Nat→List Cell→List UInt8
 | 0,_=>[]
 | _+1,[]=>[]
 | k+1,c :: r=>word c++joined ((cut (ar c) r).map (txt k))
def close:List Nat→List UInt8 × List Nat
 | []=>([],[])
 | 0 :: st=>([44],0 :: st)
 | 1 :: st=>(41 :: (close st).1,(close st).2)
 | (n+2) :: st=>([44],(n+1) :: st)
def out:List Nat→List Cell→List UInt8
 | _,[]=>[]
 | st,c :: l=>word c++(if 0<ar c then 40 :: out (ar c :: st) l else (close st).1++out (close st).2 l)
theorem out_args {k:Nat} (ih:∀ (u v:List Cell) (st:List Nat),Forest 1 u→u.length≤k→out st (u++v)=txt k u++((close st).1++out (close st).2 v)) :
  ∀ (gs:List (List Cell)) (g v:List Cell) (st:List Nat),(∀ x ∈ g :: gs,Forest 1 x∧x.length≤k)→
   out ((gs.length+1) :: st) ((g :: gs).flatten++v)=txt k g++(gs.flatMap (fun x=>44 :: txt k x)++(41 :: ((close st).1++out (close st).2 v)))
 | [],g,v,st,h=>by
  have hg:=h g (by simp)
  rw [show ([g]:List (List Cell)).flatten=g by simp,ih g v _ hg.1 hg.2]
  simp [close]
 | g2 :: gs,g,v,st,h=>by
  have hg:=h g (by simp)
  have IH:=out_args ih gs g2 v st (fun x hx=>h x (by simp at hx ⊢;exact .inr hx))
  rw [List.flatten_cons,List.append_assoc,ih g _ _ hg.1 hg.2]
  simp only [List.length_cons,close]
  rw [IH]
  simp
theorem out_app:∀ (k:Nat) (u v:List Cell) (st:List Nat),Forest 1 u→u.length≤k→out st (u++v)=txt k u++((close st).1++out (close st).2 v)
 | 0,u,v,st,h,hl=>by
  have:=h.len
  omega
 | k+1,u,v,st,h,hl=>by
  obtain ⟨c,r,rfl,hr⟩:=h.one
  simp only [List.length_cons] at hl
  have ih:=fun u v st h hl=>out_app k u v st h hl
  obtain ⟨h1,h2,h3⟩:=cut_spec hr
  rw [List.cons_append,out,txt]
  by_cases ha:0<ar c
  ·rw [if_pos ha]
   cases hc:cut (ar c) r with
   | nil=>rw [hc] at h2;simp at h2;omega
   | cons g gs=>
    rw [hc] at h1 h2 h3
    have hlen:∀ x ∈ g :: gs,Forest 1 x∧x.length≤k:=fun x hx=>by
     refine ⟨h3 x hx,?_⟩
     have:x.length≤(g :: gs).flatten.length:=(List.sublist_flatten_of_mem hx).length_le
     rw [h1] at this
     omega
    have:=out_args ih gs g v st hlen
    rw [h1,show gs.length+1=ar c by simpa using h2] at this
    rw [this]
    simp [joined,List.flatMap_map]
  ·have h0:ar c=0:=by omega
   rw [h0] at hr
   have:=hr.zero
   subst this
   rw [if_neg ha,h0,cut_zero]
   simp [joined]
theorem out_txt {t:List Cell} (h:Forest 1 t):out [] t=txt t.length t:=by
 have:=out_app t.length t [] [] h (Nat.le_refl _)
 simpa [close,out] using this
def text (t:List Cell):List UInt8:=txt t.length t
end Go.Proofs.YtlhniagacegbeaaDoor.Cat
