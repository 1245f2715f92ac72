/- Reading of terms: what the program's reader makes of a text; that a term's text is read as the term. Plain mathematics. Conditions: none. -/
import Derived.Test.YtlhniagacegbeaaDoorMText
import Derived.Lib.AtoiTie
import Derived.Lib.AtoiAllCases
import Derived.RowKit
namespace Go.Proofs.YtlhniagacegbeaaDoor.Cat
set_option linter.unusedVariables false
set_option linter.unusedSimpArgs false
open Go.Lib Go.RowKit
def isDig (b:UInt8):Bool:=decide (48≤b.toNat∧b.toNat≤57)
def isLet (b:UInt8):Bool:=decide (97≤b.toNat∧b.toNat≤122)
def bump (i:Nat) (o:List Cell):List Cell:=o.modify i fun c=>⟨c.f0,wrap64 (c.f1+1),c.f2⟩
theorem takeW {p:UInt8→Bool} {a v:List UInt8} (ha:∀ b ∈ a,p b=true) (hv:∀ x,v.head?=some x→p x=false):(a++v).takeWhile p=a∧(a++v).dropWhile p=v:=by
 induction a with
 | nil=>
  cases v with
  | nil=>simp
  | cons x v=>have:=hv x rfl;simp [this]
 | cons x a ih=>
  have hx:=ha x (by simp)
  obtain ⟨h1,h2⟩:=ih (fun b hb=>ha b (by simp [hb]))
  simp only [List.cons_append,List.takeWhile_cons,List.dropWhile_cons,hx,if_true]
  exact ⟨by rw [h1],h2⟩
theorem bump_len (i:Nat) (o:List Cell):(bump i o).length=o.length:=by simp [bump]
def Stop (v:List UInt8):Prop:=v=[]∨v.head?=some 44∨v.head?=some 41
end Go.Proofs.YtlhniagacegbeaaDoor.Cat
