/- Arguments, shifts, names with arguments: what both answer. -/
import Derived.Test.YtlhniagacegbeaaGreatDoorMTrm
import Derived.Test.YtlhniagacegbeaaGreatDoorP4
import Derived.Test.YtlhniagacegbeaaGreatDoorP3
import Derived.Test.YtlhniagacegbeaaGreatDoorP3
namespace Go.Proofs.YtlhniagacegbeaaGreatDoor.P
set_option linter.unusedVariables false
set_option linter.unusedSimpArgs false
open Go.RowKit Go.Proofs.YtlhniagacegbeaaGreatDoor.Cat Go.Proofs.YtlhniagacegbeaaGreatDoorW.PrintWords Go.Proofs.YtlhniagacegbeaaGreatDoorW.PrintLast

/-- the arguments of a term -/
def argsOf (l:List Cell):List (List Cell):=cut (ar (l.headD ⟨0,0,⟨#[]⟩⟩)) l.tail
theorem args_spec {l:List Cell} (h:isTerm l=true):∃ c gs,l=c :: gs.flatten∧argsOf l=gs∧gs.length=ar c∧(∀ x ∈ gs,Forest 1 x)∧okl l∧l.length≤40:=by
 obtain ⟨h1,h2,h3,h4⟩:=isTerm_iff.1 h
 obtain ⟨c,r,e,hr⟩:=h4.one
 obtain ⟨f1,f2,f3⟩:=cut_spec hr
 refine ⟨c,cut (ar c) r,by rw [f1,e],by rw [e];rfl,f2,f3,h3,h2⟩

theorem arity_ok {c:Cell} (h:cellOk c=true):impl_TrmCell_arity.f c.f0 c.f1 c.f2=some ((ar c:Nat):Int):=(cellOk_ar h).1

theorem size_app {u r:List Cell} (hu:Forest 1 u):Cat.sizeOf (u++r)=u.length:=by
 unfold Cat.sizeOf
 rw [hu.skip_app]
 simp

theorem args_loop (l:List Cell) (hl:l.length≤40) (ho:okl l) (n:Nat) (hn:n≤3):∀ (gs acc:List (List Cell)) (j:Nat),(∀ x ∈ gs,Forest 1 x)→(∀ c ∈ gs.flatten,c ∈ l)→gs.flatten.length≤40→j+gs.length=n→acc.length≤3→
  acc.length+gs.length≤3→Ev (fun k=>impl_args.l0 k acc gs.flatten (n:Int) (j:Int)) (acc++gs):=by
 intro gs
 induction gs with
 | nil=>
  intro acc j _ _ _ hj _ _
  refine Ev.step (fun k=>rfl) ?_
  simp only [impl_args.l0]
  exact Ev.ifn (by simp at hj;omega) (Ev.pure (by simp))
 | cons u gs ih=>
  intro acc j hf hm hlen hj ha hb
  have hu:Forest 1 u:=hf u (by simp)
  have he:(u :: gs).flatten=u++gs.flatten:=rfl
  simp only [List.length_cons] at hj hb
  refine Ev.step (fun k=>rfl) ?_
  simp only [impl_args.l0]
  have S:=size_ev (u :: gs).flatten (by omega) (fun c hc=>ho c (hm c hc))
  rw [he,size_app hu] at S
  rw [he]
  have hul:u.length≤(u++gs.flatten).length:=by simp
  refine Ev.ifp (by omega) (Ev.bind S (Ev.ifp (by omega) (Ev.ifp (by omega) (Ev.ifp (by omega) ?_))))
  have et:(u++gs.flatten).take (((u.length:Nat):Int)).toNat=u:=by simp
  have ed:(u++gs.flatten).drop (((u.length:Nat):Int)).toNat=gs.flatten:=by simp
  rw [et,ed,wnext (by omega)]
  have I:=ih (acc++[u]) (j+1) (fun x hx=>hf x (by simp [hx])) (fun c hc=>hm c (by rw [he];simp only [List.mem_append];exact .inr hc)) (by rw [he,List.length_append] at hlen;omega) (by omega) (by simp;omega) (by simp;omega)
  simpa using I

theorem args_ev {l:List Cell} (h:isTerm l=true):Ev (fun k=>impl_args.f k l) (argsOf l):=by
 obtain ⟨c,gs,e,ea,hn,hf,ho,hl⟩:=args_spec h
 have hc:cellOk c=true:=ho c (by rw [e];simp)
 have h3:=(cellOk_ar hc).2
 unfold impl_args.f
 have e0:rd_T63 l 0=c:=by rw [e];rfl
 have hl1:1≤l.length:=by rw [e];simp
 refine Ev.ifp (by omega) (Ev.ifp (by omega) ?_)
 rw [e0,ea]
 refine Ev.bindv (arity_ok hc) ?_
 have I:=args_loop l hl ho (ar c) h3 gs [] 0 hf (fun d hd=>by rw [e];exact List.mem_cons_of_mem _ hd) (by rw [e] at hl;simp only [List.length_cons] at hl;omega) (by omega) (by simp) (by simp;omega)
 have ed:l.drop 1=gs.flatten:=by rw [e];rfl
 rw [ed]
 simpa using I

theorem arg_small {l:List Cell} (h:isTerm l=true) {x:List Cell} (hx:x ∈ argsOf l):x.length≤39∧Forest 1 x∧okl x:=by
 obtain ⟨c,gs,e,ea,hn,hf,ho,hl⟩:=args_spec h
 rw [ea] at hx
 have hs:∀ d ∈ x,d ∈ gs.flatten:=fun d hd=>List.mem_flatten.2 ⟨x,hx,hd⟩
 have hlen:x.length≤gs.flatten.length:=(List.sublist_flatten_of_mem hx).length_le
 rw [e] at hl
 simp only [List.length_cons] at hl
 exact ⟨by omega,hf x hx,fun d hd=>ho d (by rw [e];exact List.mem_cons_of_mem _ (hs d hd))⟩

theorem arg_term {l:List Cell} (h:isTerm l=true) {x:List Cell} (hx:x ∈ argsOf l):isTerm x=true:=by
 obtain ⟨a,b,c⟩:=arg_small h hx
 exact isTerm_iff.2 ⟨b.len,by omega,c,b⟩

end Go.Proofs.YtlhniagacegbeaaGreatDoor.P
