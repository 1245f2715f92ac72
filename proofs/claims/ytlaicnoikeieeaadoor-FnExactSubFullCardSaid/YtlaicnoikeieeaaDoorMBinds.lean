/- What l20Binds and l20BindsOr draw: they end, whatever the code; what is drawn is small, and by l20Binds it is bindings. -/
import Derived.Test.YtlaicnoikeieeaaDoorMDraw
import Derived.Test.YtlaicnoikeieeaaDoorMUniF
import Derived.Test.YtlaicnoikeieeaaDoorMSpecU
namespace Go.Proofs.YtlaicnoikeieeaaDoor.Pu
set_option linter.unusedVariables false
set_option linter.unusedSimpArgs false
open Go.RowKit Go.Proofs.YtlaicnoikeieeaaDoor.Cat Go.Proofs.YtlaicnoikeieeaaDoor.P Go.Proofs.YtlaicnoikeieeaaDoorW.PrintWords Go.Proofs.YtlaicnoikeieeaaDoorW.PrintLast

end Go.Proofs.YtlaicnoikeieeaaDoor.Pu

namespace Go.Proofs.YtlaicnoikeieeaaDoor.Pu
set_option linter.unusedVariables false
set_option linter.unusedSimpArgs false
open Go.RowKit Go.Proofs.YtlaicnoikeieeaaDoor.Cat Go.Proofs.YtlaicnoikeieeaaDoor.P Go.Proofs.YtlaicnoikeieeaaDoorW.PrintWords Go.Proofs.YtlaicnoikeieeaaDoorW.PrintLast

theorem wf64 {x:Int} (h0:-9223372036854775808≤x) (h1:x≤9223372036854775807):(Lit.int .i64 x).wf=true:=by
 have e:IntKind.i64.min = -9223372036854775808:=by decide
 have e2:IntKind.i64.max=9223372036854775807:=by decide
 simp [Lit.wf,e,e2,h0,h1]

/-- bindings that are small, sound or not -/
structure Smb (s:List Bind):Prop where
 len:s.length≤100002
 wf:∀ b ∈ s,(Lit.int .i64 b.f0).wf=true
 each:∀ b ∈ s,b.f1.length≤41
theorem Smb.snoc {s:List Bind} (h:Smb s) (hl:s.length≤100001) (v:Int) (t:List Cell) (hv:-1≤v∧v≤100000) (ht:t.length≤41):Smb (s++[⟨v,t⟩]):=by
 refine ⟨by simp;omega,fun b hb=>?_,fun b hb=>?_⟩
 ·rcases List.mem_append.1 hb with hb|hb
  ·exact h.wf b hb
  ·rw [List.mem_singleton.1 hb];exact wf64 (show -9223372036854775808≤v by omega) (by show v≤9223372036854775807;omega)
 ·rcases List.mem_append.1 hb with hb|hb
  ·exact h.each b hb
  ·rw [List.mem_singleton.1 hb];exact ht

end Go.Proofs.YtlaicnoikeieeaaDoor.Pu
