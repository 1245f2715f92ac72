/- What the program writes for a term is its text. -/
import Derived.Test.YtlhniagacegbeaaGreatDoorMTxtS
import Derived.Test.YtlhniagacegbeaaGreatDoorMArg
import Derived.Test.YtlhniagacegbeaaGreatDoorP4
namespace Go.Proofs.YtlhniagacegbeaaGreatDoor.P
set_option linter.unusedVariables false
set_option linter.unusedSimpArgs false
open Go.RowKit Go.Proofs.YtlhniagacegbeaaGreatDoor.Cat Go.Proofs.YtlhniagacegbeaaGreatDoorW.PrintWords Go.Proofs.YtlhniagacegbeaaGreatDoorW.PrintLast Go.Lib
theorem close_sum:∀ st:List Nat,(close st).1.length+(close st).2.length≤st.length+1
 | []=>by simp [close]
 | 0 :: st=>by simp [close];omega
 | 1 :: st=>by have:=close_sum st;simp [close];omega
 | (n+2) :: st=>by simp [close];omega
theorem out_len:∀ (l:List Cell) (st:List Nat),okl l→(Cat.out st l).length≤10 * l.length+st.length
 | [],st,_=>by simp [Cat.out]
 | c :: l,st,h=>by
  obtain ⟨hc,hl⟩:=okl_cons.1 h
  have h1:=word_len hc
  rw [Cat.out]
  by_cases ha:0<ar c
  ·rw [if_pos ha]
   have:=out_len l (ar c :: st) hl
   simp at this ⊢;omega
  ·rw [if_neg ha]
   have:=out_len l (close st).2 hl
   have:=close_sum st
   simp at this ⊢;omega
theorem text_len {t:List Cell} (h:isTerm t=true):(Cat.text t).length≤400:=by
 obtain ⟨h1,h2,h3,h4⟩:=isTerm_iff.1 h
 have:=out_len t [] h3
 rw [out_txt h4] at this
 have e:Cat.text t=txt t.length t:=rfl
 rw [e]
 simp at this;omega
theorem all_from {α:Type} {P:Nat→α→Prop}:∀ (l:List α),(∀ x ∈ l,∃ N,∀ K,N≤K→P K x)→∃ N,∀ K,N≤K→∀ x ∈ l,P K x
 | [],_=>⟨0,fun K _ x hx=>by cases hx⟩
 | a :: l,h=>by
  obtain ⟨N1,h1⟩:=h a (by simp)
  obtain ⟨N2,h2⟩:=all_from l (fun x hx=>h x (by simp [hx]))
  refine ⟨max N1 N2,fun K hK x hx=>?_⟩
  rcases List.mem_cons.1 hx with rfl|hx
  ·exact h1 K (by omega)
  ·exact h2 K (by omega) x hx
theorem textL_rest {f:List Cell→Option (List UInt8)}:∀ (gs:List (List Cell)),(∀ g ∈ gs,f g=some (Cat.text g))→textL f false gs=some (gs.flatMap fun g=>44 :: Cat.text g)
 | [],_=>rfl
 | g :: gs,h=>by
  rw [textL,h g (by simp),textL_rest gs (fun x hx=>h x (by simp [hx]))]
  simp
theorem textF_from:∀ (n:Nat) (t:List Cell),isTerm t=true→t.length≤n→∃ N,∀ K,N≤K→∀ j,n≤j→textF K j t=some (Cat.text t)
 | 0,t,h,hl=>by have:=(isTerm_iff.1 h).1;omega
 | n+1,t,h,hl=>by
  obtain ⟨N1,h1⟩:=args_ev h
  obtain ⟨c,gs,e,ha,hg,hf,hok,hlen⟩:=args_spec h
  have hmem:∀ x ∈ gs,isTerm x=true∧x.length≤n:=fun x hx=>by
   refine ⟨arg_term h (by rw [ha];exact hx),?_⟩
   have:=(List.sublist_flatten_of_mem hx).length_le
   rw [e,List.length_cons] at hl
   omega
  obtain ⟨N2,h2⟩:=all_from (P:=fun K x=>∀ j,n≤j→textF K j x=some (Cat.text x)) gs (fun x hx=>textF_from n x (hmem x hx).1 (hmem x hx).2)
  refine ⟨max N1 N2,fun K hK j hj=>?_⟩
  obtain ⟨j,rfl⟩:∃ m,j=m+1:=⟨j - 1,by omega⟩
  have hF:=(isTerm_iff.1 h).2.2.2
  have h1':impl_args.f K t=some (argsOf t):=h1 K (by omega)
  rw [ha] at h1'
  rw [e] at h1' hok hF ⊢
  have hc:=(okl_cons.1 hok).1
  have hb:(-9223372036854775808≤c.f1∧c.f1≤9223372036854775807)∧(c.f0=1∨c.f0=2∨c.f0=3):=by
   have hcc:=hc
   unfold cellOk at hcc
   by_cases q1:c.f0=1
   ·rw [if_pos q1] at hcc;simp only [Bool.and_eq_true,decide_eq_true_eq] at hcc;exact ⟨⟨by omega,by omega⟩,.inl q1⟩
   rw [if_neg q1] at hcc
   by_cases q2:c.f0=2
   ·rw [if_pos q2] at hcc;simp only [Bool.and_eq_true,decide_eq_true_eq] at hcc;exact ⟨⟨by omega,by omega⟩,.inr (.inl q2)⟩
   rw [if_neg q2] at hcc
   by_cases q3:c.f0=3
   ·rw [if_pos q3] at hcc;simp only [Bool.and_eq_true,decide_eq_true_eq] at hcc;exact ⟨⟨by omega,by omega⟩,.inr (.inr q3)⟩
   ·rw [if_neg q3] at hcc;cases hcc
  have hcut:cut (ar c) gs.flatten=gs:=by rw [← hg];exact cut_flatten hf
  rw [textF,if_pos hb,h1',Option.bind_some,arity_ok hc,text_cons hF,hcut]
  have h2':∀ g ∈ gs,textF K j g=some (Cat.text g):=fun g hx=>h2 K (by omega) g hx j (by omega)
  cases gs with
  | nil=>
   simp only [List.length_nil] at hg
   simp [textL,joined,← hg]
  | cons g gs=>
   simp only [List.length_cons] at hg
   rw [textL,h2' g (by simp),textL_rest gs (fun x hx=>h2' x (by simp [hx]))]
   simp [joined,← hg,List.flatMap_map]
theorem itext_ev (l:List Cell):Ev (fun k=>impl_TrmText.f k l) (textB l):=by
 unfold impl_TrmText.f textB
 by_cases h:isTerm l=true
 ·refine Ev.ifp h ?_
  rw [if_pos h]
  obtain ⟨N,hN⟩:=textF_from l.length l h (Nat.le_refl _)
  have ht:=text_len h
  refine Ev.bind (a:=Cat.text l) ⟨max N l.length,fun k hk=>hN k (by omega) k (by omega)⟩ (Ev.ifp (by omega) (Ev.now _))
 ·refine Ev.ifn h ?_
  rw [if_neg h]
  exact Ev.now _
theorem textB_size (l:List Cell):(textB l).size≤400:=by
 unfold textB
 split
 ·rename_i h;rw [ba_size];exact text_len h
 ·decide
end Go.Proofs.YtlhniagacegbeaaGreatDoor.P
