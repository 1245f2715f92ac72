/- A goal's text is read as it. -/
import Derived.Test.YtlhniagacegbeaaGreatDoorMGoalD
import Derived.Test.YtlhniagacegbeaaGreatDoorMGRs
import Derived.Test.YtlhniagacegbeaaGreatDoorMBent
import Derived.Test.YtlhniagacegbeaaGreatDoorMCa
import Derived.Test.YtlhniagacegbeaaGreatDoorP9
import Derived.Test.YtlhniagacegbeaaGreatDoorP9
import Derived.Test.YtlhniagacegbeaaGreatDoorP10
namespace Go.Proofs.YtlhniagacegbeaaGreatDoor.Pu
open Go.RowKit Go.Proofs.YtlhniagacegbeaaGreatDoor.Cat Go.Proofs.YtlhniagacegbeaaGreatDoor.P Go.Proofs.YtlhniagacegbeaaGreatDoorW.PrintWords Go.Proofs.YtlhniagacegbeaaGreatDoorW.PrintLast
set_option linter.unusedVariables false
set_option linter.unusedSimpArgs false
theorem draw_gtext {l:List Int} (h:IsCode l):∃ k a b c,Ev (fun n=>spec_DrawGoalText.f n l) (k,a,b,c)∧a.length≤41∧b.length≤41∧c.length≤41:=by
  obtain ⟨b,hb,hc⟩:=code_of h
  obtain ⟨⟨g,x,y,z,q⟩,hr,⟨hx,hy,hz,_⟩,_⟩:=goalOr_ev hc 6 (by omega) (p:=0) (by omega) (by omega)
  refine ⟨g,x,y,z,?_,hx,hy,hz⟩
  unfold spec_DrawGoalText.f
  exact Ev.bindv hb (Ev.bind hr (Ev.now _))
theorem draw_gread {l:List Int} (h:IsCode l):∃ s,Ev (fun n=>spec_DrawGoalRead.f n l) s∧s.size≤6000:=by
  obtain ⟨b,hb,hc⟩:=code_of h
  obtain ⟨⟨g,x,y,z,q⟩,hr,⟨hx,hy,hz,hq⟩,hq2⟩:=goalOr_ev hc 99999 (by omega) (p:=0) (by omega) (by omega)
  replace hx:x.length≤41:=hx
  replace hy:y.length≤41:=hy
  replace hz:z.length≤41:=hz
  replace hq:0≤q:=hq
  replace hq2:q≤0+5000:=hq2
  obtain ⟨v,hv,v0,v1,_⟩:=pick_ev hc hq (by omega) 4 (by omega)
  have hts:=gtext_size g x y z
  have ht:=sgtext_ev g x y z (by omega) (by omega) (by omega)
  unfold spec_DrawGoalRead.f
  by_cases c0:v=0
  · obtain ⟨u,hu,u0,u1,_⟩:=pick_ev hc (p:=q+1) (by omega) (by omega) 12 (by omega)
    have u1:=u1 (by omega)
    refine ⟨_,Ev.bindv hb (Ev.bind hr (Ev.bind ht (Ev.bind hv (Ev.ifp c0 (Ev.bindv rfl (Ev.bind hu (Ev.ifp u0 (Ev.ifp (by simpa using u1) (Ev.now _))))))))),?_⟩
    obtain ⟨n,rfl⟩:=Int.eq_ofNat_of_zero_le u0
    show (rdOf ByteArray.empty _ (n:Int)).size≤6000
    unfold rdOf
    rw [Int.toNat_natCast]
    have hall:∀ (L:List ByteArray),(∀ e ∈ L,e.size≤6000)→(L.getD n ByteArray.empty).size≤6000:=fun L hL=>by
      by_cases hlt:n<L.length
      · rw [List.getD_eq_getElem?_getD,List.getElem?_eq_getElem hlt];exact hL _ (List.getElem_mem hlt)
      · rw [List.getD_eq_getElem?_getD,List.getElem?_eq_none (by omega)];decide
    refine hall _ ?_
    simp only [List.mem_cons,List.not_mem_nil,or_false]
    rintro e (rfl|rfl|rfl|rfl|rfl|rfl|rfl|rfl|rfl|rfl|rfl|rfl) <;> decide
  by_cases c1:v=1
  · obtain ⟨r,q2,hr2,hrs⟩:=bent_ev hc (p:=q+1) (by omega) (by omega) (gtext g x y z) (by omega)
    exact ⟨r,Ev.bindv hb (Ev.bind hr (Ev.bind ht (Ev.bind hv (Ev.ifn c0 (Ev.ifp c1 (Ev.bind hr2 (Ev.now _))))))),hrs⟩
  · exact ⟨_,Ev.bindv hb (Ev.bind hr (Ev.bind ht (Ev.bind hv (Ev.ifn c0 (Ev.ifn c1 (Ev.now _)))))),by omega⟩
theorem caGoal_ev (k:Int) (a b c:List Cell) (ha:a.length≤1000) (hb:b.length≤1000) (hc:c.length≤1000):Ev (fun n=>laws_caGoal.f n k a b c k a b c) true:=by
  have e:∀ x:List Cell,x.length≤1000→Ev (fun n=>laws_caTerm.f n x x) true:=fun x hx=>by
    have:=caTerm_ev x x (by omega)
    rwa [decide_eq_true rfl] at this
  unfold laws_caGoal.f
  exact Ev.ifp rfl (Ev.bind (e a ha) (Ev.ifp rfl (Ev.bind (e b hb) (Ev.ifp rfl (Ev.bind (e c hc) (Ev.now _))))))
theorem gtext_none {k:Int} {a b c:List Cell} (h:¬ goalB k a b c=true):gtext k a b c=⟨#[]⟩:=by unfold gtext;rw [if_neg h]
theorem FnGoalText (l:List Int) (h:IsCode l) (l1:List Int) (h1:IsCode l1):∃ k,laws_FnGoalText.f k l l1=some true:=by
  refine Ev.rounds ?_
  unfold laws_FnGoalText.f
  have hj:∀ b:Bool,Ev (fun k=>laws_FnGoalText.j0 k l l1 b) true:=by
    intro b
    refine Ev.step (fun k=>rfl) ?_
    simp only [laws_FnGoalText.j0]
    cases b with
    | true=>exact Ev.ifp rfl (Ev.now _)
    | false=>
      refine Ev.ifn (by simp) ?_
      obtain ⟨k,a,b,c,hd,ha,hb,hc⟩:=draw_gtext h
      obtain ⟨s,hs,hsz⟩:=draw_gread h1
      have hi:=igr_ev s (by omega)
      have hr:=sgr_ev s (by omega)
      obtain ⟨hl1,hl2,hl3⟩:=goalR_len s
      have hok:=goalR_ok (s:=s)
      generalize hq:goalR s=q at hi hr hl1 hl2 hl3 hok
      obtain ⟨⟨k',a',b',c'⟩,ok⟩:=q
      simp only at hl1 hl2 hl3
      have hsg:=sgoal_ev k a b c (by omega) (by omega) (by omega)
      refine Ev.bind hd (Ev.bind hs (Ev.bind hi (Ev.bind hr (Ev.bind (igtext_ev k a b c) (Ev.bind (sgtext_ev k a b c (by omega) (by omega) (by omega)) (Ev.ifp rfl (Ev.bind (caGoal_ev k' a' b' c' (by omega) (by omega) (by omega)) (Ev.ifp rfl (Ev.ifn (by simp [flat]) (Ev.bindv (igoal k a b c) (Ev.bind hsg ?_)))))))))))
      rw [show (goalB k a b c != goalB k a b c)=false by simp]
      show Ev (fun n=>laws_FnGoalText.j1 n s ok false k a b c k' a' b' c') true
      refine Ev.step (fun k=>rfl) ?_
      simp only [laws_FnGoalText.j1]
      refine Ev.ifn (by simp) ?_
      have h2:Ev (fun n=>laws_FnGoalText.j2 n false k a b c) true:=by
        refine Ev.step (fun k=>rfl) ?_
        simp only [laws_FnGoalText.j2]
        refine Ev.ifn (by simp) (Ev.bind hsg ?_)
        by_cases hg:goalB k a b c=true
        · have hrr:=igr_ev (gtext k a b c) (by have:=gtext_size k a b c;omega)
          rw [goalR_of hg] at hrr
          exact Ev.ifp hg (Ev.bind (igtext_ev k a b c) (Ev.bind hrr (Ev.ifp rfl (Ev.bind (caGoal_ev k a b c (by omega) (by omega) (by omega)) (Ev.now _)))))
        · refine Ev.ifn hg (Ev.bind (igtext_ev k a b c) ?_)
          rw [gtext_none hg]
          exact Ev.ifp (by rw [ByteArray.toList_eq]) (Ev.bindv caOk_ok (Ev.now _))
      cases ok with
      | false=>exact Ev.ifn (by simp) h2
      | true=>
        obtain ⟨g1,g2⟩:=hok rfl
        refine Ev.ifp rfl (Ev.bindv (igoal k' a' b' c') (Ev.ifp g1 (Ev.bind (igtext_ev k' a' b' c') ?_)))
        rw [show ((gtext k' a' b' c').toList != s.toList)=false by rw [show gtext k' a' b' c'=s from g2];simp]
        exact h2
  by_cases hn:(l.length:Int) > 1048576
  · exact Ev.ifp hn (hj _)
  · exact Ev.ifn hn (hj _)
end Go.Proofs.YtlhniagacegbeaaGreatDoor.Pu
