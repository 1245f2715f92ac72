/- Variables in the order in which they come first; places with variables renumbered so; two terms that come from each other are one but for numbers. Plain Lean, no program. -/
import Derived.Test.YtlaicnoikeieeaaDoorMOk
namespace Go.Proofs.YtlaicnoikeieeaaDoor.Cat
set_option linter.unusedVariables false
set_option linter.unusedSimpArgs false

/-- the variables, each once, behind some -/
def freesOn:List Int→List Cell→List Int
 | acc,[]=>acc
 | acc,c :: l=>if c.f0=1∧c.f1 ∉ acc then freesOn (acc++[c.f1]) l else freesOn acc l
def frees (l:List Cell):List Int:=freesOn [] l

def idx (l:List Int) (v:Int):Nat:=l.idxOf v
def canonBy (fs:List Int) (l:List Cell):List Cell:=l.map fun c=>if c.f0=1 then ⟨c.f0,(idx fs c.f1:Int),c.f2⟩ else c
def canon (l:List Cell):List Cell:=canonBy (frees l) l

theorem freesOn_nodup:∀ (l:List Cell) (acc:List Int),acc.Nodup→(freesOn acc l).Nodup
 | [],acc,h=>h
 | c :: l,acc,h=>by
  unfold freesOn
  split
  ·rename_i hc
   refine freesOn_nodup l _ ?_
   rw [List.nodup_append]
   refine ⟨h,by simp,?_⟩
   intro a ha b hb e
   rw [List.mem_singleton.1 hb] at e
   exact hc.2 (e ▸ ha)
  ·exact freesOn_nodup l acc h
theorem frees_nodup (l:List Cell):(frees l).Nodup:=freesOn_nodup l [] (by simp)

theorem mem_freesOn:∀ (l:List Cell) (acc:List Int) (v:Int),v ∈ freesOn acc l↔v ∈ acc∨∃ c ∈ l,c.f0=1∧c.f1=v
 | [],acc,v=>by simp [freesOn]
 | c :: l,acc,v=>by
  unfold freesOn
  split
  ·rename_i hc
   rw [mem_freesOn l]
   simp only [List.mem_append,List.mem_cons,List.not_mem_nil,or_false,exists_eq_or_imp]
   constructor
   ·rintro ((h|h)|h)
    ·exact .inl h
    ·exact .inr (.inl ⟨hc.1,h.symm⟩)
    ·exact .inr (.inr h)
   ·rintro (h|⟨_,h⟩|h)
    ·exact .inl (.inl h)
    ·exact .inl (.inr h.symm)
    ·exact .inr h
  ·rename_i hc
   rw [mem_freesOn l]
   simp only [List.mem_cons,exists_eq_or_imp]
   constructor
   ·rintro (h|h)
    ·exact .inl h
    ·exact .inr (.inr h)
   ·rintro (h|⟨h1,h2⟩|h)
    ·exact .inl h
    ·left
     by_cases hm:c.f1 ∈ acc
     ·exact h2 ▸ hm
     ·exact absurd ⟨h1,hm⟩ hc
    ·exact .inr h
theorem mem_frees {l:List Cell} {v:Int}:v ∈ frees l↔∃ c ∈ l,c.f0=1∧c.f1=v:=by
 unfold frees;rw [mem_freesOn];simp

end Go.Proofs.YtlaicnoikeieeaaDoor.Cat
