/- What l20Binds and l20BindsOr draw: they end, whatever the code; what is drawn is small, and by l20Binds it is bindings. -/
import Derived.Test.YtlaicnoikeieeaaDoorMDraw
import Derived.Test.YtlaicnoikeieeaaDoorMUniF
import Derived.Test.YtlaicnoikeieeaaDoorMSpecU
import Derived.Test.YtlaicnoikeieeaaDoorP12
namespace Go.Proofs.YtlaicnoikeieeaaDoor.Pu
set_option linter.unusedVariables false
set_option linter.unusedSimpArgs false
open Go.RowKit Go.Proofs.YtlaicnoikeieeaaDoor.Cat Go.Proofs.YtlaicnoikeieeaaDoor.P Go.Proofs.YtlaicnoikeieeaaDoorW.PrintWords Go.Proofs.YtlaicnoikeieeaaDoorW.PrintLast

end Go.Proofs.YtlaicnoikeieeaaDoor.Pu

namespace Go.Proofs.YtlaicnoikeieeaaDoor.Pu
set_option linter.unusedVariables false
set_option linter.unusedSimpArgs false
open Go.RowKit Go.Proofs.YtlaicnoikeieeaaDoor.Cat Go.Proofs.YtlaicnoikeieeaaDoor.P Go.Proofs.YtlaicnoikeieeaaDoorW.PrintWords Go.Proofs.YtlaicnoikeieeaaDoorW.PrintLast

theorem scopy_loop:∀ (r a:List Bind),(a++r).length≤1099511627776→(∀ b ∈ r,b.f1.length≤1099511627776)→Ev (fun k=>spec_l2Copy.l0 k (a++r) a ((a.length:Nat):Int)) (a++r)
 | [],a,hl,hs=>by
  refine Ev.step (fun k=>rfl) ?_
  simp only [spec_l2Copy.l0]
  rw [List.append_nil]
  exact Ev.ifn (by omega) (Ev.now _)
 | b :: r,a,hl,hs=>by
  have I:=scopy_loop r (a++[b]) (by simpa using hl) (fun c hc=>hs c (by simp [hc]))
  rw [snoc_len,List.append_assoc,List.singleton_append] at I
  have hi:a.length<(a++b :: r).length:=by simp
  have hb:=hs b (by simp)
  refine Ev.step (fun k=>rfl) ?_
  simp only [spec_l2Copy.l0]
  rw [rdBb]
  refine Ev.ifp (lt_app a r b) (Ev.ifp (by omega) (Ev.bindv rfl (Ev.ifp (by simp;omega) (Ev.ifp (by omega) ?_))))
  rw [wnext (by omega)]
  exact I
theorem scopy_ev (s:List Bind) (hl:s.length≤1099511627776) (hs:∀ b ∈ s,b.f1.length≤1099511627776):Ev (fun k=>spec_l2Copy.f k s) s:=by
 unfold spec_l2Copy.f
 exact scopy_loop s [] (by simpa using hl) hs

theorem uni_oks {s:List Bind} (hs:Oks s) {a b:List Cell} (ha:isTerm a=true) (hb:isTerm b=true) {x:List Bind} (he:uni s [(a,b)]=some x):Oks x:=by
 have hu:=uni_spec hs.good (okP_one ha hb)
 have hr:=hu.sound hs.good (okP_one ha hb)
 have hm:=hu.small hs.good (okP_one ha hb) hs.small (by
  intro p hp
  rw [List.mem_singleton.1 hp]
  exact ⟨(isTerm_iff'.1 ha).2.1,(isTerm_iff'.1 hb).2.1⟩)
 rw [he] at hr
 obtain ⟨g,_,_⟩:=hr
 exact ⟨g,hm x he⟩

theorem wf64 {x:Int} (h0:-9223372036854775808≤x) (h1:x≤9223372036854775807):(Lit.int .i64 x).wf=true:=by
 have e:IntKind.i64.min = -9223372036854775808:=by decide
 have e2:IntKind.i64.max=9223372036854775807:=by decide
 simp [Lit.wf,e,e2,h0,h1]

/-- bindings that are small, sound or not -/
structure Smb (s:List Bind):Prop where
 len:s.length≤100002
 wf:∀ b ∈ s,(Lit.int .i64 b.f0).wf=true
 each:∀ b ∈ s,b.f1.length≤41
theorem smb_of {s:List Bind} (h:Oks s):Smb s:=⟨by have:=good_len h.good;omega,fun b hb=>by have:=h.good.range b hb;exact wf64 (by omega) (by omega),fun b hb=>by have:=h.small b hb;omega⟩
theorem Smb.snoc {s:List Bind} (h:Smb s) (hl:s.length≤100001) (v:Int) (t:List Cell) (hv:-1≤v∧v≤100000) (ht:t.length≤41):Smb (s++[⟨v,t⟩]):=by
 refine ⟨by simp;omega,fun b hb=>?_,fun b hb=>?_⟩
 ·rcases List.mem_append.1 hb with hb|hb
  ·exact h.wf b hb
  ·rw [List.mem_singleton.1 hb];exact wf64 (show -9223372036854775808≤v by omega) (by show v≤9223372036854775807;omega)
 ·rcases List.mem_append.1 hb with hb|hb
  ·exact h.each b hb
  ·rw [List.mem_singleton.1 hb];exact ht

end Go.Proofs.YtlaicnoikeieeaaDoor.Pu
