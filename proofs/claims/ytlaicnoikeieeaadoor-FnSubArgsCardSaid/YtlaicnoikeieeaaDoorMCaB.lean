/- The laws' own look at two lists of bindings. -/
import Derived.Test.YtlaicnoikeieeaaDoorMNear
import Derived.Test.YtlaicnoikeieeaaDoorMCa
import Derived.Test.YtlaicnoikeieeaaDoorMUniS
namespace Go.Proofs.YtlaicnoikeieeaaDoor.Pu
open Go.RowKit Go.Proofs.YtlaicnoikeieeaaDoor.Cat Go.Proofs.YtlaicnoikeieeaaDoor.P Go.Proofs.YtlaicnoikeieeaaDoorW.PrintWords
set_option linter.unusedVariables false
set_option linter.unusedSimpArgs false
theorem smb_nil:Smb []:=⟨by simp,by simp,by simp⟩
theorem smb_sub (s:List Bind) (a b:List Cell):Smb (subUnify s a b).1:=by
 rcases subUnify_code s a b with e|⟨e,_⟩
 ·exact smb_of (subUnify_done (show subUnify s a b=((subUnify s a b).1,1) by rw [← e])).2.1.oks
 ·rw [e];exact smb_nil
theorem Smb.sizes {s:List Bind} (h:Smb s):SizesB s:=⟨by have:=h.len;omega,fun b hb=>by have:=h.each b hb;omega⟩
theorem caTerm_self (l:List Cell) (h:l.length≤1099511627776):Ev (fun k=>laws_caTerm.f k l l) true:=by
 have hc:=caTerm_ev l l h
 rwa [show decide (l=l)=true by simp] at hc
end Go.Proofs.YtlaicnoikeieeaaDoor.Pu
