/- Arguments, shifts, names with arguments: what both answer. -/
import Derived.Test.YtlaicnoikeieeaaDoorMTrm
import Derived.Test.YtlaicnoikeieeaaDoorP13
import Derived.Test.YtlaicnoikeieeaaDoorP2
import Derived.Test.YtlaicnoikeieeaaDoorP10
import Derived.Test.YtlaicnoikeieeaaDoorP2
import Derived.Test.YtlaicnoikeieeaaDoorP2
namespace Go.Proofs.YtlaicnoikeieeaaDoor.P
set_option linter.unusedVariables false
set_option linter.unusedSimpArgs false
open Go.RowKit Go.Proofs.YtlaicnoikeieeaaDoor.Cat Go.Proofs.YtlaicnoikeieeaaDoorW.PrintWords Go.Proofs.YtlaicnoikeieeaaDoorW.PrintLast

/-- the arguments of a term -/
def argsOf (l:List Cell):List (List Cell):=cut (ar (l.headD ⟨0,0,⟨#[]⟩⟩)) l.tail
/-- one of them -/
def argOf (l:List Cell) (k:Int):List Cell:=if isTerm l=true∧0≤k∧k<((argsOf l).length:Int) then (argsOf l).getD k.toNat [] else []

theorem args_spec {l:List Cell} (h:isTerm l=true):∃ c gs,l=c :: gs.flatten∧argsOf l=gs∧gs.length=ar c∧(∀ x ∈ gs,Forest 1 x)∧okl l∧l.length≤40:=by
 obtain ⟨h1,h2,h3,h4⟩:=isTerm_iff.1 h
 obtain ⟨c,r,e,hr⟩:=h4.one
 obtain ⟨f1,f2,f3⟩:=cut_spec hr
 refine ⟨c,cut (ar c) r,by rw [f1,e],by rw [e];rfl,f2,f3,h3,h2⟩

theorem clone_ok (l:List Cell) (h:l.length≤1099511627776):slices_Clone_TrmCell.f l=some l:=by
 unfold slices_Clone_TrmCell.f
 rw [if_pos (by omega)]

theorem sarg_loop (l:List Cell) (hl:l.length≤40) (ho:okl l) (k:Nat) (hk:k≤3):∀ (n:Nat) (gs:List (List Cell)) (pre:List Cell) (j:Nat),k - j=n→j≤k→l=pre++gs.flatten→(∀ x ∈ gs,Forest 1 x)→n<gs.length→
  Ev (fun q=>spec_l1Arg.l0 q l (k:Int) ((pre.length:Nat):Int) (j:Int)) (gs.getD n []):=by
 intro n
 induction n with
 | zero=>
  intro gs pre j hn hj e hf hlt
  cases gs with
  | nil=>simp at hlt
  | cons u gs=>
   have hu:Forest 1 u:=hf u (by simp)
   have he:(u :: gs).flatten=u++gs.flatten:=rfl
   have E:=end_ev l pre (u++gs.flatten) (by rw [e,he]) (by omega) ho
   have hx:endAt l 1 (u++gs.flatten)=(((pre++u).length:Nat):Int):=by
    unfold endAt
    rw [hu.skip_app]
    have hll:=congrArg List.length e
    rw [he] at hll
    simp only [List.length_append] at hll ⊢
    congr 1
    omega
   rw [hx] at E
   have hll:=congrArg List.length e
   rw [he] at hll
   simp only [List.length_append] at hll
   refine Ev.step (fun k=>rfl) ?_
   simp only [spec_l1Arg.l0]
   refine Ev.ifn (by omega) (Ev.bindv rfl (Ev.bind E (Ev.ifp (by omega) (Ev.ifp (by simp only [List.length_append];omega) (Ev.ifp (by simp only [List.length_append];omega) (Ev.bindv rfl (Ev.ifp ?_ (Ev.pure ?_))))))))
   ·simp only [List.length_nil,List.length_drop,List.length_take];omega
   ·have e1:l=(pre++u)++gs.flatten:=by rw [e,he,List.append_assoc]
    have e2:(((pre++u).length:Nat):Int).toNat=(pre++u).length:=by omega
    have e3:((pre.length:Nat):Int).toNat=pre.length:=by omega
    rw [e2,e3,List.nil_append,e1,List.take_left',List.drop_left']
    ·rfl
    ·rfl
    ·rfl
 | succ n ih=>
  intro gs pre j hn hj e hf hlt
  cases gs with
  | nil=>simp at hlt
  | cons u gs=>
   have hu:Forest 1 u:=hf u (by simp)
   have he:(u :: gs).flatten=u++gs.flatten:=rfl
   have E:=end_ev l pre (u++gs.flatten) (by rw [e,he]) (by omega) ho
   have hx:endAt l 1 (u++gs.flatten)=(((pre++u).length:Nat):Int):=by
    unfold endAt
    rw [hu.skip_app]
    have hll:=congrArg List.length e
    rw [he] at hll
    simp only [List.length_append] at hll ⊢
    congr 1
    omega
   rw [hx] at E
   refine Ev.step (fun k=>rfl) ?_
   simp only [spec_l1Arg.l0]
   refine Ev.ifp (by omega) (Ev.bind E ?_)
   rw [wnext (by omega)]
   have I:=ih gs (pre++u) (j+1) (by omega) (by omega) (by rw [e,he,List.append_assoc]) (fun x hx=>hf x (by simp [hx])) (by simpa using hlt)
   simpa using I

theorem sarg1_ev {l:List Cell} (h:isTerm l=true) (a:Int):Ev (fun k=>spec_l1Arg.f k l a) (argOf l a):=by
 obtain ⟨c,gs,e,ea,hn,hf,ho,hl⟩:=args_spec h
 have hc:cellOk c=true:=ho c (by rw [e];simp)
 obtain ⟨h1,h3⟩:=cellOk_ar hc
 have e0:rd_T46 l 0=c:=by rw [e];rfl
 have hl1:1≤l.length:=by rw [e];simp
 have N:∀ b:Bool,b=true→argOf l a=[]→Ev (fun k=>spec_l1Arg.j0 k l a b) (argOf l a):=by
  intro b hb h
  rw [h,hb]
  refine Ev.step (fun k=>rfl) ?_
  simp only [spec_l1Arg.j0]
  exact Ev.ifp (by simp) (Ev.now _)
 have O:¬ (0≤a∧a<((ar c:Nat):Int))→argOf l a=[]:=by
  intro hk
  unfold argOf;rw [if_neg];rw [ea,hn];rintro ⟨_,p,q⟩;exact hk ⟨p,q⟩
 unfold spec_l1Arg.f
 refine Ev.ifp (by omega) ?_
 rw [e0]
 by_cases hf3:c.f0=3
 case neg=>
  rw [if_neg hf3] at h1
  have h0:ar c=0:=by have:=Option.some.inj h1;omega
  exact Ev.ifn hf3 (N true rfl (O (by rw [h0];omega)))
 rw [if_pos hf3] at h1
 have h1:=Option.some.inj h1
 refine Ev.ifp hf3 ?_
 by_cases ha:a<0
 ·exact Ev.ifp ha (N true rfl (O (by omega)))
 refine Ev.ifn ha ?_
 by_cases hb:a≥c.f1
 ·exact N _ (decide_eq_true hb) (O (by omega))
 rw [decide_eq_false hb]
 refine Ev.step (fun k=>rfl) ?_
 simp only [spec_l1Arg.j0]
 refine Ev.ifn (by simp) ?_
 obtain ⟨m,rfl⟩:=Int.eq_ofNat_of_zero_le (by omega:0≤a)
 have I:=sarg_loop l hl ho m (by omega) m gs [c] 0 (by omega) (by omega) (by rw [e];rfl) hf (by omega)
 have er:argOf l ((m:Nat):Int)=gs.getD m []:=by
  unfold argOf
  rw [if_pos ⟨h,by omega,by rw [ea,hn];omega⟩,ea]
  rfl
 rw [er]
 exact I

end Go.Proofs.YtlaicnoikeieeaaDoor.P
