/- What the program writes for a term is its text. -/
import Derived.Test.YtlhniagacegbeaaDoorMTxtS
import Derived.Test.YtlhniagacegbeaaDoorMArg
namespace Go.Proofs.YtlhniagacegbeaaDoor.P
set_option linter.unusedVariables false
set_option linter.unusedSimpArgs false
open Go.RowKit Go.Proofs.YtlhniagacegbeaaDoor.Cat Go.Proofs.YtlhniagacegbeaaDoorW.PrintWords Go.Proofs.YtlhniagacegbeaaDoorW.PrintLast Go.Lib
theorem close_sum:∀ st:List Nat,(close st).1.length+(close st).2.length≤st.length+1
 | []=>by simp [close]
 | 0 :: st=>by simp [close];omega
 | 1 :: st=>by have:=close_sum st;simp [close];omega
 | (n+2) :: st=>by simp [close];omega
theorem out_len:∀ (l:List Cell) (st:List Nat),okl l→(Cat.out st l).length≤10 * l.length+st.length
 | [],st,_=>by simp [Cat.out]
 | c :: l,st,h=>by
  obtain ⟨hc,hl⟩:=okl_cons.1 h
  have h1:=word_len hc
  rw [Cat.out]
  by_cases ha:0<ar c
  ·rw [if_pos ha]
   have:=out_len l (ar c :: st) hl
   simp at this ⊢;omega
  ·rw [if_neg ha]
   have:=out_len l (close st).2 hl
   have:=close_sum st
   simp at this ⊢;omega
theorem text_len {t:List Cell} (h:isTerm t=true):(Cat.text t).length≤400:=by
 obtain ⟨h1,h2,h3,h4⟩:=isTerm_iff.1 h
 have:=out_len t [] h3
 rw [out_txt h4] at this
 have e:Cat.text t=txt t.length t:=rfl
 rw [e]
 simp at this;omega
theorem textB_size (l:List Cell):(textB l).size≤400:=by
 unfold textB
 split
 ·rename_i h;rw [ba_size];exact text_len h
 ·decide
end Go.Proofs.YtlhniagacegbeaaDoor.P
