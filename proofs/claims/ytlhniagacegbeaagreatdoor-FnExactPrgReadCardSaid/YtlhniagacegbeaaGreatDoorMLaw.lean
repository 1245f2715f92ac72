/- What the laws' own helpers do to cells: sizes, copies, equality, marks. -/
import Derived.Test.YtlhniagacegbeaaGreatDoorP6
import Derived.Test.YtlhniagacegbeaaGreatDoorP6
import Derived.Test.YtlhniagacegbeaaGreatDoorP6
import Derived.Test.YtlhniagacegbeaaGreatDoorMBase
namespace Go.Proofs.YtlhniagacegbeaaGreatDoor.P
set_option linter.unusedVariables false
set_option linter.unusedSimpArgs false
open Go.RowKit Go.Proofs.YtlhniagacegbeaaGreatDoor.Cat Go.Proofs.YtlhniagacegbeaaGreatDoorW.PrintWords Go.Proofs.YtlhniagacegbeaaGreatDoorW.PrintLast

theorem eq_one (c d:Cell):laws_eqTrmCell.f c.f0 c.f1 c.f2 d.f0 d.f1 d.f2=some (decide (c=d)):=by
 unfold laws_eqTrmCell.f
 by_cases h0:c.f0=d.f0
 ·rw [if_pos h0]
  by_cases h1:c.f1=d.f1
  ·rw [if_pos h1]
   by_cases h2:c.f2.toList=d.f2.toList
   ·rw [if_pos h2]
    have:c.f2=d.f2:=ba_ext (by simpa [Lib.toList_data] using h2)
    rw [Cell.ext' h0 h1 this];simp
   ·rw [if_neg h2]
    have:c≠d:=fun e=>h2 (by rw [e])
    simp [this]
  ·rw [if_neg h1]
   have:c≠d:=fun e=>h1 (by rw [e])
   simp [this]
 ·rw [if_neg h0]
  have:c≠d:=fun e=>h0 (by rw [e])
  simp [this]

theorem eq_loop:∀ (r s a b:List Cell),a.length=b.length→r.length=s.length→a.length+r.length≤9223372036854775806→
  Ev (fun k=>laws_eqTrmCellS.l0 k (a++r) (b++s) ((a.length:Nat):Int)) (decide (r=s))
 | [],s,a,b,hab,hrs,hl=>by
  have:s=[]:=by cases s with
   | nil=>rfl
   | cons=>simp at hrs
  subst this
  refine Ev.step (f:=fun _=>some true) (fun k=>?_) (by simpa using Ev.now true)
  simp only [laws_eqTrmCellS.l0]
  rw [if_neg (not_lt_app a)]
 | c :: r,[],a,b,hab,hrs,hl=>by simp at hrs
 | c :: r,d :: s,a,b,hab,hrs,hl=>by
  have e:∀ k,laws_eqTrmCellS.l0 (k+1) (a++c :: r) (b++d :: s) ((a.length:Nat):Int)=if c=d then laws_eqTrmCellS.l0 k (a++c :: r) (b++d :: s) ((a.length+1:Nat):Int) else some false:=by
   intro k
   simp only [laws_eqTrmCellS.l0]
   rw [if_pos (lt_app a r c),if_pos (by omega),if_pos (by rw [hab];exact lt_app b s d),rdC]
   conv=>lhs;rw [show ((a.length:Nat):Int)=((b.length:Nat):Int) by rw [hab]]
   rw [rdC,eq_one]
   simp only [Option.bind_some,decide_eq_true_eq]
   rw [wnext (by simp at hl;omega),hab]
  by_cases h:c=d
  ·subst h
   have ih:=eq_loop r s (a++[c]) (b++[c]) (by simp [hab]) (by simpa using hrs) (by simp at hl ⊢;omega)
   rw [snoc_len] at ih
   simp only [List.append_assoc,List.singleton_append] at ih
   have e2:decide (c :: r=c :: s)=decide (r=s):=by simp
   rw [e2]
   refine Ev.step (fun k=>?_) ih
   rw [e,if_pos rfl]
  ·refine Ev.step (f:=fun _=>some false) (fun k=>?_) (by simpa [h] using Ev.now false)
   rw [e,if_neg h]

theorem eq_ev (l m:List Cell) (h:l.length≤1048576):Ev (fun k=>laws_eqTrmCellS.f k l m) (decide (l=m)):=by
 by_cases hl:l.length=m.length
 ·refine Ev.congr (fun k=>?_) (eq_loop l m [] [] rfl hl (by simp;omega))
  unfold laws_eqTrmCellS.f
  rw [if_pos (by omega)]
  rfl
 ·have:l≠m:=fun e=>hl (by rw [e])
  refine Ev.all (fun k=>?_)
  unfold laws_eqTrmCellS.f
  rw [if_neg (by omega)]
  simp [this]

/-! ### marks -/
theorem mt_loop:∀ (n:Nat) (m:Int) (s:ByteArray),m.toNat≤n→0≤m→m≤4611686018427387904→s.size+n≤9223372036854775800→∃ t,Ev (fun k=>laws_markText.l0 k m s) t:=by
 intro n
 induction n using Nat.strongRecOn with
 | ind n ih=>
  intro m s hm h0 h1 hs
  by_cases hp:m > 0
  ·have hd:wrap64 (Int.tdiv m 10)=m / 10:=by rw [Int.tdiv_eq_ediv_of_nonneg h0];exact w64 (by omega) (by omega)
   have hz:∀ y:List Int,y.length=1→(strOfNums y).size=1:=fun y hy=>by
    simp [strOfNums,ByteArray.size,hy]
   obtain ⟨t,ht⟩:=ih (m / 10).toNat (by omega) (m / 10) (strOfNums [(wrap64 (48+(Int.tmod m 10))) % 256]++s) (Nat.le_refl _) (by omega) (by omega) (by rw [ByteArray.size_append,hz _ rfl];omega)
   refine ⟨t,Ev.step (fun k=>?_) ht⟩
   simp only [laws_markText.l0]
   rw [if_pos hp]
   simp only [Option.bind_some]
   rw [if_pos (by rw [hz _ rfl];omega),hd]
  ·refine ⟨_,Ev.step (f:=fun _=>some ((⟨#[109]⟩:ByteArray)++s)) (fun k=>?_) (Ev.now _)⟩
   simp only [laws_markText.l0]
   rw [if_neg hp,if_pos (by omega)]

theorem mt_ex (m:Int) (h1:m≤1000000000):∃ t,Ev (fun k=>laws_markText.f k m) t:=by
 by_cases h:m≤0
 ·exact ⟨_,Ev.all (fun k=>by unfold laws_markText.f;rw [if_pos h])⟩
 ·obtain ⟨t,ht⟩:=mt_loop m.toNat m ⟨#[]⟩ (Nat.le_refl _) (by omega) (by omega) (by simp [ByteArray.size];omega)
  exact ⟨t,Ev.congr (fun k=>by unfold laws_markText.f;rw [if_neg h]) ht⟩

open Classical in
noncomputable def mt (m:Int):ByteArray:=if h:∃ t,Ev (fun k=>laws_markText.f k m) t then h.choose else ⟨#[]⟩
theorem mt_ev (m:Int) (h1:m≤1000000000):Ev (fun k=>laws_markText.f k m) (mt m):=by
 have:=mt_ex m h1
 unfold mt
 rw [dif_pos this]
 exact this.choose_spec

noncomputable def marked (m:Int):Nat→List Cell
 | 0=>[]
 | n+1=>⟨m,m+1,mt (m+2)⟩ :: marked (m+3) n
theorem mark_loop:∀ (r a:List Cell) (m:Int),0≤m→m+3 * r.length≤900000000→a.length+r.length≤9223372036854775806→
  Ev (fun k=>laws_markTrmCellS.l0 k (a++r) m ((a.length:Nat):Int)) (m+3 * r.length,a++marked m r.length)
 | [],a,m,h0,h1,hl=>by
  refine Ev.step (f:=fun _=>some (m+3 * (([]:List Cell).length:Int),a++marked m 0)) (fun k=>?_) (Ev.now _)
  simp only [laws_markTrmCellS.l0]
  rw [if_neg (not_lt_app a)]
  simp [marked]
 | c :: r,a,m,h0,h1,hl=>by
  have hr:((c :: r).length:Int)=r.length+1:=by simp
  rw [hr] at h1
  have ih:=mark_loop r (a++[⟨m,m+1,mt (m+2)⟩]) (m+3) (by omega) (by omega) (by simp at hl ⊢;omega)
  rw [snoc_len] at ih
  simp only [List.append_assoc,List.singleton_append] at ih
  have e3:(m+3+3 * (r.length:Int))=m+3 * ((c :: r).length:Int):=by rw [hr];omega
  rw [e3] at ih
  refine Ev.step (f:=fun k=>(laws_markText.f k (m+2)).bind fun t=>laws_markTrmCellS.l0 k (a ++ ⟨m,m+1,t⟩ :: r) (m+3) ((a.length+1:Nat):Int)) (fun k=>?_) (Ev.bind (mt_ev (m+2) (by omega)) ih)
  simp only [laws_markTrmCellS.l0]
  rw [if_pos (lt_app a r c),if_pos (by omega)]
  simp only [Option.bind_some]
  rw [w64 (x:=m+1) (by omega) (by omega),w64 (x:=m+1+1) (by omega) (by omega),w64 (x:=m+1+1+1) (by omega) (by omega),show m+1+1=m+2 by omega,show m+2+1=m+3 by omega,
   wnext (by simp at hl;omega),rdC,setC,rdC,setC,rdC]
  simp only [setC]

theorem mark_ev (l:List Cell) (m:Int) (h0:0≤m) (h:m+3 * l.length≤900000000):Ev (fun k=>laws_markTrmCellS.f k l m) (m+3 * l.length,marked m l.length):=by
 refine Ev.congr (fun k=>?_) (mark_loop l [] m h0 h (by simp;omega))
 rfl

theorem held_loop:∀ (n:Nat) (a:List Cell) (m:Int),0≤m→m+3 * n≤900000000→a.length+n≤9223372036854775806→
  Ev (fun k=>laws_heldTrmCellS.l0 k (a++marked m n) m ((a.length:Nat):Int)) (m+3 * n)
 | 0,a,m,h0,h1,hl=>by
  rw [show marked m 0=[] from rfl]
  refine Ev.step (f:=fun _=>some (m+3 * ((0:Nat):Int))) (fun k=>?_) (Ev.now _)
  simp only [laws_heldTrmCellS.l0]
  rw [if_neg (not_lt_app a)]
  simp
 | n+1,a,m,h0,h1,hl=>by
  rw [show marked m (n+1)=⟨m,m+1,mt (m+2)⟩ :: marked (m+3) n from rfl]
  have ih:=held_loop n (a++[⟨m,m+1,mt (m+2)⟩]) (m+3) (by omega) (by omega) (by simp;omega)
  rw [snoc_len] at ih
  simp only [List.append_assoc,List.singleton_append] at ih
  rw [show (m+3+3 * (n:Int))=m+3 * ((n+1:Nat):Int) by omega] at ih
  refine Ev.step (f:=fun k=>(laws_markText.f k (m+2)).bind fun t=>if (mt (m+2)).toList=t.toList then laws_heldTrmCellS.l0 k (a ++ ⟨m,m+1,mt (m+2)⟩ :: marked (m+3) n) (m+3) ((a.length+1:Nat):Int) else some (-1)) (fun k=>?_)
   (Ev.bind (mt_ev (m+2) (by omega)) (Ev.congr (fun k=>by rw [if_pos rfl]) ih))
  simp only [laws_heldTrmCellS.l0]
  rw [if_pos (lt_app a _ _),if_pos (by omega),rdC]
  simp only
  rw [w64 (x:=m+1) (by omega) (by omega),w64 (x:=m+1+1) (by omega) (by omega),w64 (x:=m+1+1+1) (by omega) (by omega),show m+1+1=m+2 by omega,show m+2+1=m+3 by omega,
   wnext (by omega),if_pos rfl,if_pos trivial]

theorem held_ev (m:Int) (n:Nat) (h0:0≤m) (h:m+3 * n≤900000000):Ev (fun k=>laws_heldTrmCellS.f k (marked m n) m) (m+3 * n):=by
 refine Ev.congr (fun k=>?_) (held_loop n [] m h0 h (by simp;omega))
 rfl

end Go.Proofs.YtlhniagacegbeaaGreatDoor.P
