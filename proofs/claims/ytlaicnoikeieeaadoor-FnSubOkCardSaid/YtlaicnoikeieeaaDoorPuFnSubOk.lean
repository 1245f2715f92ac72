/- A part of bindings is bindings; a variable bound once more is not. -/
import Derived.Test.YtlaicnoikeieeaaDoorMBinds
import Derived.Test.YtlaicnoikeieeaaDoorMLeads
import Derived.Test.YtlaicnoikeieeaaDoorMSubOk
import Derived.Test.YtlaicnoikeieeaaDoorMCa
import Derived.Test.YtlaicnoikeieeaaDoorP18
import Derived.Test.YtlaicnoikeieeaaDoorP19
namespace Go.Proofs.YtlaicnoikeieeaaDoor.Pu
open Go.RowKit Go.Proofs.YtlaicnoikeieeaaDoor.Cat Go.Proofs.YtlaicnoikeieeaaDoor.P Go.Proofs.YtlaicnoikeieeaaDoorW.PrintWords
set_option linter.unusedVariables false
set_option linter.unusedSimpArgs false
theorem drawSubOk_ev {l:List Int} (h:IsCode l):∃ s,Ev (fun k=>spec_DrawSubOk.f k l) s∧Smb s:=by
  obtain ⟨b,hb,hc⟩:=code_of h
  obtain ⟨s,q,hs,sm,q0,q1⟩:=bindsOr_ev hc (p:=0) (by omega) (by omega) 2 (by omega)
  refine ⟨s,?_,sm⟩
  unfold spec_DrawSubOk.f
  exact Ev.bindv hb (Ev.bind hs (Ev.now _))
theorem lawOk_l0 {s:List Bind} (sm:Smb s) (ho:Oks s):∀ (r a:List Bind),s=a++r→Ev (fun k=>laws_FnSubOk.l0 k s ((a.length:Nat):Int)) true
  | [],a,e=>by
    classical
    refine Ev.step (fun k=>rfl) ?_
    simp only [laws_FnSubOk.l0]
    have e0:=isubok_ev ([]:List Bind) (by simp)
    rw [show decide (Oks [])=true from decide_eq_true Oks.nil] at e0
    exact Ev.ifn (by rw [e];exact not_lt_app a) (Ev.bind e0 (Ev.now _))
  | b :: r,a,e=>by
    classical
    have ih:=lawOk_l0 sm ho r (a++[b]) (by rw [e];simp)
    rw [snoc_len] at ih
    have hal:a.length<s.length:=by rw [e];simp
    have hl:=sm.len
    have hmem:b ∈ s:=by rw [e];simp
    have hsb:s[a.length]=b:=by simp [e]
    obtain ⟨o1,o2⟩:=law_ok ho a.length hal
    rw [hsb] at o2
    have e1:=isubok_ev (s.take ((a.length:Nat):Int).toNat) (fun c hc=>sm.wf c (List.mem_of_mem_take hc))
    rw [show decide (Oks (s.take ((a.length:Nat):Int).toNat))=true from decide_eq_true (by rw [Int.toNat_natCast];exact o1)] at e1
    have e2:=isubok_ev ([]++s++[b]) (fun c hc=>by rw [List.nil_append,List.mem_append,List.mem_singleton] at hc;rcases hc with hc|rfl;exact sm.wf c hc;exact sm.wf _ hmem)
    rw [show decide (Oks ([]++s++[b]))=false from decide_eq_false (by rw [List.nil_append];exact o2)] at e2
    have er:rd_T30 s ((a.length:Nat):Int)=b:=by rw [e];exact rdBb a r b
    refine Ev.step (fun k=>rfl) ?_
    simp only [laws_FnSubOk.l0]
    rw [er]
    refine Ev.ifp (by omega) (Ev.ifp (by omega) (Ev.ifp (by omega) (Ev.bind e1 (Ev.ifp rfl (Ev.bindv rfl (Ev.ifp (by simp;omega) (Ev.bindv rfl (Ev.bindv rfl (Ev.ifp (by simp;omega) (Ev.bind e2 (Ev.ifn (by simp) ?_)))))))))))
    rw [wnext (by omega)]
    exact ih
theorem FnSubOk (l:List Int) (h:IsCode l):∃ k,laws_FnSubOk.f k l=some true:=by
  classical
  refine Ev.rounds ?_
  unfold laws_FnSubOk.f
  by_cases hl:(l.length:Int) > 1048576
  · exact Ev.ifp hl (Ev.now _)
  refine Ev.ifn hl ?_
  obtain ⟨s,hd,sm⟩:=drawSubOk_ev h
  have hs:=sm.len
  have he:∀ b ∈ s,b.f1.length≤1048576:=fun b hb=>by have:=sm.each b hb;omega
  refine Ev.bind hd (Ev.bind (isubok_ev s sm.wf) (Ev.bind (ssubok_ev s ⟨by omega,he⟩) (Ev.ifn (by simp) ?_)))
  by_cases ho:Oks s
  · exact Ev.ifp (decide_eq_true ho) (lawOk_l0 sm ho s [] rfl)
  · exact Ev.ifn (by simp [ho]) (Ev.bindv caOk_ok (Ev.now _))
end Go.Proofs.YtlaicnoikeieeaaDoor.Pu
