/- Places with variables renumbered as they come first, by the reference and by the program. -/
import Derived.Test.YtlaicnoikeieeaaDoorP13
import Derived.Test.YtlaicnoikeieeaaDoorMFree
namespace Go.Proofs.YtlaicnoikeieeaaDoor.P
set_option linter.unusedVariables false
set_option linter.unusedSimpArgs false
open Go.RowKit Go.Proofs.YtlaicnoikeieeaaDoor.Cat Go.Proofs.YtlaicnoikeieeaaDoorW.PrintWords Go.Proofs.YtlaicnoikeieeaaDoorW.PrintLast
theorem canonBy_snoc (fs:List Int) (a:List Cell) (c:Cell):canonBy fs (a++[c])=canonBy fs a++[if c.f0=1 then ⟨c.f0,(idx fs c.f1:Int),c.f2⟩ else c]:=by simp [canonBy]
theorem canonBy_len (fs:List Int) (a:List Cell):(canonBy fs a).length=a.length:=by simp [canonBy]
theorem icanon_loop (fs:List Int) (hf:fs.length≤1099511627776):∀ (r a:List Cell) (n:Int),n=((a++r).length:Int)→(∀ c ∈ r,c.f0=1→c.f1 ∈ fs)→a.length+r.length≤1099511627776→
  Ev (fun k=>impl_TrmCanon.l0 k fs (canonBy fs a++r) n ((a.length:Nat):Int)) (canonBy fs (a++r))
 | [],a,n,hn,h,hl=>by
  refine Ev.step (f:=fun _=>some (canonBy fs a)) (fun k=>?_) (by simpa using Ev.now _)
  simp only [impl_TrmCanon.l0]
  rw [if_neg (by rw [hn];simp)]
  simp
 | c :: r,a,n,hn,h,hl=>by
  have hl':a.length+r.length+1≤1099511627776:=by simpa [Nat.add_assoc] using hl
  have ih:=icanon_loop fs hf r (a++[c]) n (by rw [hn];simp) (fun d hd=>h d (by simp [hd])) (by simp;omega)
  rw [snoc_len,canonBy_snoc] at ih
  simp only [List.append_assoc,List.singleton_append] at ih
  have e0:((a.length:Nat):Int)=(((canonBy fs a).length:Nat):Int):=by rw [canonBy_len]
  have hn1:((a.length:Nat):Int)<n:=by rw [hn];exact lt_app a r c
  have e2:∀ t,(canonBy fs a++c :: r).set ((a.length:Nat):Int).toNat t=canonBy fs a++t :: r:=fun t=>by rw [e0];exact setC _ _ _ _
  have e1:rd_T46 (canonBy fs a++c :: r) ((a.length:Nat):Int)=c:=by rw [e0];exact rdC _ r c
  by_cases hc:c.f0=1
  ·rw [if_pos hc] at ih
   have hm:=h c (by simp) hc
   refine Ev.step (f:=fun k=>(slices_Index_int.f k fs c.f1).bind fun t=>impl_TrmCanon.l0 k fs (canonBy fs a ++ ⟨c.f0,t,c.f2⟩ :: r) n ((a.length+1:Nat):Int)) (fun k=>?_) (Ev.bind (index_ev fs c.f1 hf) ?_)
   ·simp only [impl_TrmCanon.l0]
    rw [if_pos hn1,if_pos (by omega),if_pos (by rw [e0];exact lt_app _ r c),wnext (by omega)]
    rw [e1,if_pos hc]
    simp only [e2]
   ·simpa [hm] using ih
  ·rw [if_neg hc] at ih
   refine Ev.step (fun k=>?_) ih
   simp only [impl_TrmCanon.l0]
   rw [if_pos hn1,if_pos (by omega),if_pos (by rw [e0];exact lt_app _ r c),wnext (by omega)]
   rw [e1,if_neg hc]
theorem clone_some (l:List Cell) (h:l.length≤1099511627776):slices_Clone_TrmCell.f l=some l:=by
 unfold slices_Clone_TrmCell.f
 rw [if_pos (by omega)]
theorem icanon_ev (l:List Cell) (h:l.length≤1099511627776):Ev (fun k=>impl_TrmCanon.f k l) (canon l):=by
 refine Ev.bind (ifree_ev l h) (Ev.bindv (clone_some l h) ?_)
 have hf:(frees l).length≤l.length:=by have:=freesOn_len l [];simpa [frees] using this
 exact icanon_loop (frees l) (by omega) l [] (l.length:Int) (by simp) (fun c hc hv=>mem_frees.2 ⟨c,hc,hv,rfl⟩) (by simpa using h)
end Go.Proofs.YtlaicnoikeieeaaDoor.P
