/- The laws' own look at two lists of bindings. -/
import Derived.Test.YtlaicnoikeieeaaDoorMNear
import Derived.Test.YtlaicnoikeieeaaDoorMCa
import Derived.Test.YtlaicnoikeieeaaDoorMUniS
import Derived.Test.YtlaicnoikeieeaaDoorP14
namespace Go.Proofs.YtlaicnoikeieeaaDoor.Pu
open Go.RowKit Go.Proofs.YtlaicnoikeieeaaDoor.Cat Go.Proofs.YtlaicnoikeieeaaDoor.P Go.Proofs.YtlaicnoikeieeaaDoorW.PrintWords
set_option linter.unusedVariables false
set_option linter.unusedSimpArgs false
theorem caBinds_loop:∀ (r a:List Bind),(a++r).length≤1048576→(∀ b ∈ r,b.f1.length≤1048576)→Ev (fun k=>laws_caBinds.l0 k (a++r) (a++r) ((a.length:Nat):Int)) true
 | [],a,h,he=>by
  refine Ev.step (fun k=>rfl) ?_
  simp only [laws_caBinds.l0]
  exact Ev.ifn (not_lt_app a) (Ev.now _)
 | b :: r,a,h,he=>by
  have ih:=caBinds_loop r (a++[b]) (by simpa using h) (fun c hc=>he c (by simp [hc]))
  rw [snoc_len,List.append_assoc,List.singleton_append] at ih
  have hb:=he b (by simp)
  have hal:a.length<(a++b :: r).length:=by simp
  have hc:=caTerm_ev b.f1 b.f1 (by omega)
  rw [show decide (b.f1=b.f1)=true by simp] at hc
  refine Ev.step (fun k=>rfl) ?_
  simp only [laws_caBinds.l0]
  rw [rdBb]
  refine Ev.ifp (lt_app a r b) (Ev.ifp (by omega) (Ev.ifp (lt_app a r b) (Ev.ifp (by first|trivial|rfl) (Ev.bind hc (Ev.ifp rfl ?_)))))
  rw [wnext (by omega)]
  exact ih
theorem caBinds_same (s:List Bind) (h:Smb s):Ev (fun k=>laws_caBinds.f k s s) true:=by
 have hl:=h.len
 unfold laws_caBinds.f
 exact Ev.ifp rfl (caBinds_loop s [] (by simp;omega) (fun b hb=>by have:=h.each b hb;omega))
theorem smb_nil:Smb []:=⟨by simp,by simp,by simp⟩
theorem smb_sub (s:List Bind) (a b:List Cell):Smb (subUnify s a b).1:=by
 rcases subUnify_code s a b with e|⟨e,_⟩
 ·exact smb_of (subUnify_done (show subUnify s a b=((subUnify s a b).1,1) by rw [← e])).2.1.oks
 ·rw [e];exact smb_nil
theorem caBinds_sub (s:List Bind) (a b:List Cell):Ev (fun k=>laws_caBinds.f k (subUnify s a b).1 (subUnify s a b).1) true:=caBinds_same _ (smb_sub s a b)
theorem Smb.sizes {s:List Bind} (h:Smb s):SizesB s:=⟨by have:=h.len;omega,fun b hb=>by have:=h.each b hb;omega⟩
theorem caTerm_self (l:List Cell) (h:l.length≤1099511627776):Ev (fun k=>laws_caTerm.f k l l) true:=by
 have hc:=caTerm_ev l l h
 rwa [show decide (l=l)=true by simp] at hc
end Go.Proofs.YtlaicnoikeieeaaDoor.Pu
