/- Variables in the order in which they come first; places with variables renumbered so; two terms that come from each other are one but for numbers. Plain Lean, no program. -/
import Derived.Test.YtlhniagacegbeaaDoorMOk
namespace Go.Proofs.YtlhniagacegbeaaDoor.Cat
set_option linter.unusedVariables false
set_option linter.unusedSimpArgs false
def freesOn:List Int→List Cell→List Int
 | acc,[]=>acc
 | acc,c :: l=>if c.f0=1∧c.f1 ∉ acc then freesOn (acc++[c.f1]) l else freesOn acc l
def frees (l:List Cell):List Int:=freesOn [] l
def idx (l:List Int) (v:Int):Nat:=l.idxOf v
def canonBy (fs:List Int) (l:List Cell):List Cell:=l.map fun c=>if c.f0=1 then ⟨c.f0,(idx fs c.f1:Int),c.f2⟩ else c
def canon (l:List Cell):List Cell:=canonBy (frees l) l
end Go.Proofs.YtlhniagacegbeaaDoor.Cat
