/- What the reference and the program read: of a text the term that has it, or nothing. -/
import Derived.Test.YtibencknfheplaaDoorMTxtI
import Derived.Test.YtibencknfheplaaDoorMRead
import Derived.Test.YtibencknfheplaaDoorP6
namespace Go.Proofs.YtibencknfheplaaDoor.P
set_option linter.unusedVariables false
set_option linter.unusedSimpArgs false
open Go.RowKit Go.Proofs.YtibencknfheplaaDoor.Cat Go.Proofs.YtibencknfheplaaDoorW.PrintWords Go.Proofs.YtibencknfheplaaDoorW.PrintLast Go.Lib
/-- what may stand behind a place's word -/
def Stop2 (v:List UInt8):Prop:=v=[]∨v.head?=some 40∨v.head?=some 44∨v.head?=some 41
theorem Stop2.at_ {v:List UInt8} (h:Stop2 v):∀ x,v.head?=some x→isDig x=false∧isLet x=false:=by
 intro x hx
 rcases h with rfl|h|h|h
 ·cases hx
 ·rw [h] at hx;cases hx;decide
 ·rw [h] at hx;cases hx;decide
 ·rw [h] at hx;cases hx;decide
def bare (c:Cell):Cell:=if c.f0=3 then ⟨3,0,c.f2⟩ else c
/-! ### the end -/
def fin (s:ByteArray) (O:List Cell):List Cell × Bool:=if (textB O).data.toList=s.data.toList then (if s.data.toList=[] then ([],false) else (O,true)) else ([],false)
def bumpTop:List Nat→List Cell→List Cell
 | [],O=>O
 | i :: _,O=>bump i O
/-! ### of a term's text -/
def popc:List Nat→List Nat→List Nat
 | _ :: op,1 :: st=>popc op st
 | op,_=>op
def fill:List Cell→List Nat→List Nat→List Cell→List Cell
 | O,_,_,[]=>O
 | O,op,st,c :: r=>if 0<ar c then fill (bumpTop op O++[bare c]) (O.length :: op) (ar c :: st) r else fill (bumpTop op O++[bare c]) (popc op st) (close st).2 r
/-! ### what both readers answer -/
def readP (s:ByteArray):List Cell × Bool:=match Cat.readF (s.size+1) [] s.data.toList with
 | none=>([],false)
 | some q=>if s.data.toList=[] then ([],false) else if (textB q.1).data.toList=s.data.toList then (q.1,true) else ([],false)
theorem textB_term {t:List Cell} {l:List UInt8} (h:(textB t).data.toList=l) (hl:l≠[]):isTerm t=true∧Cat.text t=l:=by
 unfold textB at h
 by_cases ht:isTerm t=true
 ·rw [if_pos ht,ba_data] at h;exact ⟨ht,h⟩
 ·rw [if_neg ht] at h;exact absurd h.symm hl
theorem readP_none {s:ByteArray} (h:∀ t,isTerm t=true→Cat.text t≠s.data.toList):readP s=([],false):=by
 unfold readP
 cases Cat.readF (s.size+1) [] s.data.toList with
 | none=>rfl
 | some q=>
  simp only
  by_cases h0:s.data.toList=[]
  ·rw [if_pos h0]
  ·rw [if_neg h0]
   by_cases h1:(textB q.1).data.toList=s.data.toList
   ·obtain ⟨a,b⟩:=textB_term h1 h0
    exact absurd b (h _ a)
   ·rw [if_neg h1]
theorem iread_ev (s:ByteArray) (hs:s.size≤1099511627776):Ev (fun k=>impl_TrmRead.f k s) (readP s):=by
 obtain ⟨o,r,hr,_⟩:=readF_some (s.size+1) [] s.data.toList (by rw [← Lib.size_eq];omega)
 unfold impl_TrmRead.f readP
 refine Ev.ifp hs ?_
 rw [hr]
 simp only [Option.bind_some]
 by_cases h0:s.data.toList=[]
 ·rw [if_pos h0];exact Ev.ifp h0 (Ev.now _)
 ·rw [if_neg h0]
  refine Ev.ifn h0 (Ev.bind (itext_ev o) ?_)
  by_cases h1:(textB o).data.toList=s.data.toList
  ·have e:(if (textB o).data.toList=s.data.toList then (o,true) else (([]:List Cell),false))=(o,true):=if_pos h1
   rw [e]
   exact Ev.ifp h1 (Ev.now _)
  ·have e:(if (textB o).data.toList=s.data.toList then (o,true) else (([]:List Cell),false))=([],false):=if_neg h1
   rw [e]
   exact Ev.ifn h1 (Ev.now _)
end Go.Proofs.YtibencknfheplaaDoor.P
