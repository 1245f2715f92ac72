/- A goal has just what its kind has. -/
import Derived.Test.YtepkgjcobocbpaaDoorMGoalD
import Derived.Test.YtepkgjcobocbpaaDoorMGoal
import Derived.Test.YtepkgjcobocbpaaDoorMCa
import Derived.Test.YtepkgjcobocbpaaDoorP11
import Derived.Test.YtepkgjcobocbpaaDoorP12
namespace Go.Proofs.YtepkgjcobocbpaaDoor.Pu
open Go.RowKit Go.Proofs.YtepkgjcobocbpaaDoor.Cat Go.Proofs.YtepkgjcobocbpaaDoor.P Go.Proofs.YtepkgjcobocbpaaDoorW.PrintWords
set_option linter.unusedVariables false
set_option linter.unusedSimpArgs false
theorem more_c {g:Int} {x y z:List Cell} (h:goalB g x y z=true):(g == 5)=goalB g x y [⟨2,0,⟨#[]⟩⟩]:=by
  have h1:isTerm [(⟨2,0,⟨#[]⟩⟩:Cell)]=true:=by decide
  have h2:inCl [(⟨2,0,⟨#[]⟩⟩:Cell)]=true:=by decide
  unfold goalB shapeOk at h ⊢
  by_cases g6:g=6
  · rw [if_pos g6] at h;cases h
  rw [if_neg g6] at h ⊢
  by_cases g5:g=5
  · subst g5
    simp at h ⊢
    simp [h,h1,h2]
  · have e:(g == 5)=false:=beq_eq_false_iff_ne.2 g5
    rw [e]
    by_cases g3:g=3
    · subst g3;simp
    by_cases g1:g=1
    · subst g1;simp
    by_cases g2:g=2
    · subst g2;simp
    by_cases g4:g=4
    · subst g4;simp
    · simp [g1,g2,g3,g4,g5] at h ⊢
theorem less_a {g:Int} {x y z:List Cell} (h:goalB g x y z=true):(g == 3)=goalB g [] y z:=by
  have h1:isTerm []=false:=by decide
  unfold goalB shapeOk called at h ⊢
  by_cases g6:g=6
  · rw [if_pos g6] at h;cases h
  rw [if_neg g6] at h ⊢
  by_cases g3:g=3
  · subst g3
    simp at h ⊢
    simp [h]
  · have e:(g == 3)=false:=beq_eq_false_iff_ne.2 g3
    rw [e]
    by_cases g5:g=5
    · subst g5;simp [h1]
    by_cases g1:g=1
    · subst g1;simp [h1]
    by_cases g2:g=2
    · subst g2;simp [h1]
    by_cases g4:g=4
    · subst g4;simp [h1]
    · simp [g1,g2,g3,g4,g5,g6] at h
theorem FnGoalOk (l:List Int) (h:IsCode l):∃ k,laws_FnGoalOk.f k l=some true:=by
  refine Ev.rounds ?_
  unfold laws_FnGoalOk.f
  by_cases hl:(l.length:Int) > 1048576
  · exact Ev.ifp hl (Ev.now _)
  refine Ev.ifn hl ?_
  obtain ⟨b,hb,hc⟩:=code_of h
  obtain ⟨⟨g,x,y,z,q⟩,hr,⟨hx,hy,hz,_⟩,_⟩:=goalOr_ev hc 2 (by omega) (p:=0) (by omega) (by omega)
  replace hx:x.length≤41:=hx
  replace hy:y.length≤41:=hy
  replace hz:z.length≤41:=hz
  have hd:Ev (fun k=>spec_DrawGoalOk.f k l) (g,x,y,z):=by
    unfold spec_DrawGoalOk.f
    exact Ev.bindv hb (Ev.bind hr (Ev.now _))
  refine Ev.bind hd (Ev.bindv (igoal _ _ _ _) (Ev.bind (sgoal_ev g x y z (by omega) (by omega) (by omega)) (Ev.ifn (by simp) ?_)))
  by_cases hk:goalB g x y z=true
  · refine Ev.ifp hk (Ev.bindv (igoal _ _ _ _) (Ev.ifp ?_ (Ev.bindv (igoal _ _ _ _) (Ev.pure ?_))))
    · show ((g == 5) == goalB g x y [⟨2,0,⟨#[]⟩⟩])=true
      rw [more_c hk];exact beq_iff_eq.2 rfl
    · show ((g == 3) == goalB g [] y z)=true
      rw [less_a hk];exact beq_iff_eq.2 rfl
  · exact Ev.ifn hk (Ev.bindv caOk_ok (Ev.now _))
end Go.Proofs.YtepkgjcobocbpaaDoor.Pu
